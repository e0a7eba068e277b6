/- Contracts of functions of the loaded program, and the lemmas that they need (part 2). It proves no statement by itself; it has no conditions. -/
import Derived.WalkKit
import Derived.Orders
import Derived.Deep.LoopGhost
import Derived.IntWalk
import Derived.Laws.StructEq
import Derived.ArgAppend
import Derived.Deep.AppendSrc
import Derived.Lib.Bytealg
import Derived.Lib.BytesEntry
import Derived.Laws.IdiomStrings
import Derived.WideKeyArr2
import Derived.ProofKit
import Derived.OpenShut
import Derived.Deep.Slices
import Derived.Laws.Pointers
import Derived.Laws.Cover3
import Derived.LaidEqlPtr
import Derived.LoopN
import Derived.RangeFuncLeaves
import Derived.RangeFuncSeq
import Derived.OrdersIn
import Derived.Test.YtdifpjmfabhpiaaGreatRows
import Derived.KernelRfl
import Derived.Laws.Externs
import Derived.Defers
import Derived.Laws.MathBits
import Derived.ChangeOld
import Derived.Below
import Derived.Test.YtdifpjmfabhpiaaGreatKClD1
set_option maxRecDepth 100000
set_option maxHeartbeats 8000000
set_option linter.unusedVariables false
set_option linter.unusedSimpArgs false
section
namespace Hw
open Go Go.RowKit

def FW (ro : Option Nat) : Fence := { Fence.wide with round := ro }
def noDefer (ops : Array Oper) : Bool := ops.all fun o => match o.op with | .defer _ => false | _ => true
theorem noDefer_at {ops : Array Oper} (h : noDefer ops = true) {i : Nat} {o : Oper} (hi : ops[i]? = some o) : ∀ c, o.op ≠ .defer c := fun c hc => by
  obtain ⟨hlt, he⟩ := Array.getElem?_eq_some_iff.1 hi
  have := (Array.all_eq_true.1 h) i hlt
  rw [he, hc] at this
  cases this

section
variable {ro : Option Nat} {n : Nat} {P : Program}
theorem calls_FW {f : FuncId} {args : Array Value} {w : World} {R R' : Ending → World → Prop} (h : Calls P f args w R) (hr : ∀ e w, R e w → R' e w) : CallsIn (FW ro) n P f args w R' :=
  show CallsIn Fence.wide n P f args w R' from callsIn_wide.2 (h.mono hr)
theorem rows_FW {row : String} {args : Array Value} {w : World} {R : Value → World → Prop} (h : Rows P row args w R) : RowsIn (FW ro) n P row args w R :=
  show RowsIn Fence.wide n P row args w R from fun c cs _ => let ⟨v, w', r, s⟩ := h c cs; ⟨v, w', r, stepsIn_wide.2 s⟩

theorem wp_in {o : Oper} {a : Act} {w : World} {K : Act → World → Prop} {X : Exit → Act → World → Prop} (h : Oper.wp P o a w K X) (hnd : ∀ c, o.op ≠ .defer c) : Oper.wpIn (FW ro) n P o a w K X := by
  refine ⟨fun f _ => trivial, ?_⟩
  rw [Oper.semAt_eq _ _ _ hnd]
  unfold Oper.wp at h
  generalize (execOp a.eval o).run P w = r at h ⊢
  cases r with
  | ok x w' =>
    cases x <;> simp only [Oper.upon] at h <;> simp only [Oper.uponIn]
    case value => exact h
    case skip => exact h
    case defer => exact h
    case enter f args => exact ⟨fun h0 => (by cases h0), calls_FW h fun e w h => h⟩
    case row => exact ⟨fun h0 => (by cases h0), rows_FW h⟩
  | halt x w' => cases x <;> simp only [Oper.upon] at h <;> simp only [Oper.uponIn] <;> exact h

theorem wpOp_in {ops : Array Oper} {X : Exit → Act → World → Prop} {i : Nat} {K : Act → World → Prop} {a : Act} {w : World} (h : wpOp P ops X i K a w) (hnd : noDefer ops = true) (hX : ∀ a w, ¬ X .outgrown a w) : wpOpIn (FW ro) n P ops X i K a w := by
  unfold wpOp at h
  unfold wpOpIn
  cases ho : ops[i]? with
  | none => rw [ho] at h; exact h
  | some o =>
    rw [ho] at h
    simp only at h ⊢
    split
    · rename_i hw
      rw [if_pos hw] at h
      rcases h with h | ⟨_, a0, w0, h⟩
      · exact wp_in h (noDefer_at hnd ho)
      · exact absurd h (hX a0 w0)
    · rename_i hw
      rw [if_neg hw] at h
      exact ⟨fun f _ => trivial, h⟩
theorem wpOps_in {ops : Array Oper} {X : Exit → Act → World → Prop} (hnd : noDefer ops = true) (hX : ∀ a w, ¬ X .outgrown a w) : ∀ (l : List Nat) (a : Act) (w : World), wpOps P ops X l a w → wpOpsIn (FW ro) n P ops X l a w
  | [], a, w, h => h
  | i :: l, a, w, h => by
    rw [wpOps_cons] at h
    rw [wpOpsIn_cons]
    exact wpOpIn_mono (fun a w h => wpOps_in hnd hX l a w h) (wpOp_in h hnd hX)
end

def SatI (ro : Option Nat) (C : Cx) (code : Code) (s : St) (Q : St → Prop) : Prop :=
  ∀ a w, Rep C s a w → code.wpIn (FW ro) 0 C.P (Fin C Q) a w
theorem fin_out {C : Cx} {Q : St → Prop} : ∀ a w, ¬ Fin C Q .outgrown a w := fun a w h => by cases h.1
theorem SatI.region {ro : Option Nat} {C : Cx} {id : Nat} {ops : List Oper} {s : St} {Q : St → Prop} (hnd : noDefer ops.toArray = true) (h : Tr C ops.toArray (ops.map fun o => (4, o)) s Q) : SatI ro C (.region id ops.toArray false) s Q := by
  intro a w r
  refine wpIn_region (wpOps_in hnd fin_out _ _ _ (wpOps_of_tr _ _ s a w _ sP (fun k => ?_) r h fun s' a' w' r' q => ⟨rfl, s', r', q⟩))
  by_cases hk : k < ops.length
  · simp [hk]
  · simp [hk]
theorem SatI.draw {ro : Option Nat} {C : Cx} {id : Nat} {ops : List Oper} {s : St} {Q : St → Prop} (perm : List (Nat × Nat)) (hm : C.P.follows .mixedOrders = true) (hok : orderOk ops.toArray perm = true) (hnd : noDefer ops.toArray = true)
    (h : Tr C ops.toArray (items ops.toArray perm) s Q) : SatI ro C (.region id ops.toArray true) s Q := by
  intro a w r
  have hlen : perm.length ≤ ops.length := by
    simp only [orderOk, Bool.and_eq_true] at hok
    have hnd := topo_nodup perm [] hok.1.1
    have hlt : ∀ x ∈ perm.map (·.2), x ∈ List.range ops.length := fun x hx => by
      obtain ⟨p, hp, rfl⟩ := List.mem_map.1 hx
      have := (topo_mem perm [] hok.1.1 p hp).1
      simpa using this
    have := hnd.length_le_of_subset hlt
    simpa using this
  have h0 : perm.filter (fun p => !(Array.replicate ops.toArray.size false).getD p.2 false) = perm := List.filter_eq_self.2 fun p _ => by
    rw [Array.getD_eq_getD_getElem?, Array.getElem?_replicate]
    split <;> rfl
  have := wpAny_of_tr (C := C) hok ops.toArray.size (Array.replicate ops.toArray.size false) s a { w with drawn := w.drawn + 1 } Q sP
    (fun j hj => by
      rw [Array.getD_eq_getD_getElem?, Array.getElem?_replicate] at hj
      split at hj <;> simp at hj) (by rw [h0]; simpa using hlen) ⟨r.rs, r.rh.drew _⟩ (by rw [h0]; exact h)
  refine wpIn_region_draw fun t => ?_
  simp only [Region.schedule, hm, Bool.true_or, if_true]
  exact wpOps_in hnd fin_out _ _ _ (wpAny_sound ops.toArray.size t _ a _ this)
theorem SatI.block {ro : Option Nat} {C : Cx} {id : Nat} {x : Code} {s : St} {Q : St → Prop} (h : SatI ro C x s Q) : SatI ro C (.block id x) s Q := fun a w r =>
  wpIn_block (wpIn_mono (h a w r) fun e a w ⟨he, q⟩ => by subst he; exact ⟨rfl, q⟩)

theorem HRep.ofRet {P : Program} {w w' : World} {names : List Nat} {hp : List Blk} (h : Ret names hp w w') (hn : hp.map (·.n) = names) : HRep ⟨P, w, 0, names, [], []⟩ hp w' :=
  ⟨h.cells, h.nodup, fun b hb => .inr (by show b.n ∈ names; rw [← hn]; exact List.mem_map.2 ⟨b, hb, rfl⟩), h.keeps, fun _ h => (by cases h), fun _ _ _ h => (by cases h)⟩
theorem acc_pos {s : Sl} {bl : List Blk} {cells : List Value} {E : TypeId} {n size : Nat} (h : Acc s bl cells E n size) (hn : 0 < n) : ∃ q c, s = ⟨some ⟨q, 0, none⟩, n, c⟩ ∧ n ≤ c ∧ bl = [⟨q, cells, E, c * size⟩] := by
  rcases h with ⟨_, _, _, rfl⟩ | ⟨q, c, h1, h2, _, h4⟩
  · omega
  · exact ⟨q, c, h1, h2, h4⟩
section
variable {C : Cx} {ops : Array Oper} {rest : List (Nat × Oper)} {sl : List (Nat × Value)} {hp : List Blk} {Q : St → Prop} {c d : Nat} {ty : TypeId} {pos : String} {af : Array Edge} {g : Option (Nat × Bool)}
theorem Tr.constB {x : Operand} {b n cap : Nat} {T E : TypeId} {cs : List Value} {m : Nat} (hg : An ops sl g = true) (hc : Nat.beq c 4 = true) (hd : Nat.blt d C.N = true) (hx : Al sl x = some (.slice (some ⟨b, 0, none⟩) n cap)) (hu : C.P.underlying T = some (.slice E)) (he : C.P.underlying E = some (.int .u8)) (hb : (⟨b, cs, E, m⟩ : Blk) ∈ hp)
    (k : Tr C ops rest ⟨(d, .slice (some ⟨b, 0, none⟩) n cap) :: sl, hp⟩ Q) : Tr C ops ((c, ⟨some d, .convert T T x, ty, pos, af, g⟩) :: rest) ⟨sl, hp⟩ Q := by
  refine Tr.act (ρ := Unit) (fun _ => True) (fun _ => .slice (some ⟨b, 0, none⟩) n cap) (fun _ => hp) (nbeq' hc) (A4 hg) (B9 (nblt hd)) ⟨known1 hx, fun a w hf hh => ?_⟩ (fun _ _ => k)
  have h1 := hf x (by simp [Op.operands]); rw [hx] at h1
  simp only [Option.some.injEq] at h1
  obtain ⟨full, fr, hbk⟩ := hh.cells _ hb
  have hlt := (hh.cells _ hb).lt
  have hsh : w.shape? b = some (E, full.size) := by unfold World.shape?; rw [hbk.heap]
  obtain ⟨fr', hfr', hfree⟩ : ∃ fr', w.freeze ⟨b, full.size, none⟩ 1 = setBlk w b full E fr' ∧ Free fr' m := by
    refine ⟨if fr.1 == fr.2 then (full.size, full.size + 1) else (min fr.1 full.size, max fr.2 (full.size + 1)), ?_, ?_⟩
    · unfold World.freeze setBlk
      rw [if_neg dE]
      congr 1
      apply Array.ext_getElem?
      intro i
      rw [Array.getElem?_setIfInBounds, Array.getElem?_modify]
      by_cases hi : b = i
      · subst hi
        rw [if_pos rfl, if_pos rfl, if_pos hlt, hbk.heap]
        rfl
      · rw [if_neg hi, if_neg hi]
    · have hf := hbk.free
      have hs := hbk.size
      simp only at hf hs
      by_cases e : fr.1 = fr.2
      · rw [if_pos (by simpa using e)]
        exact ⟨by simp, fun i hi => by simp; omega⟩
      · rw [if_neg (by simpa using e)]
        have hle := hf.le
        have hm : m ≤ fr.1 := by
          rcases Nat.lt_or_ge fr.1 m with h1 | h1
          · have := hf.at' fr.1 h1
            simp at this
            omega
          · exact h1
        exact ⟨by simp; omega, fun i hi => by simp; omega⟩
  have hrun : (execOp a.eval ⟨some d, .convert T T x, ty, pos, af, g⟩).run C.P w = .ok (.value (.slice (some ⟨b, 0, none⟩) n cap)) (setBlk w b full E fr') := by
    simp [execOp, convert, ← h1, run_underlying hu, run_underlying he, markStringish, hsh, hfr']
  unfold Oper.wp
  rw [hrun]
  have hup : Upd hp b cs E m cs hp := by
    clear hh k hf
    induction hp with
    | nil => cases hb
    | cons y l ih =>
      rcases List.mem_cons.1 hb with rfl | h
      · exact .head
      · exact .tail (ih h)
  exact ⟨(), trivial, rfl, hh.upd hup hlt hbk.size hbk.pre hfree⟩

theorem Tr.sliceArrHi {x hi : Operand} {b o len : Nat} {xT E : TypeId} {kl : IntKind} {l : Int} (j : Nat) (hg : An ops sl g = true) (hk : okD c d C.N = true) (hx : Al sl x = some (ptr b o)) (hlo : Al sl hi = some (.int kl l)) (hj : l = j) (hlt : j ≤ len) (hpos : 0 < len) (hu : C.P.underlying xT = some (.array len E)) {sz : Nat} (hs : Sz C.P E sz)
    (k : Tr C ops rest ⟨(d, .slice (some ⟨b, o, none⟩) j len) :: sl, hp⟩ Q) : Tr C ops ((c, ⟨some d, .slice xT x none (some hi) none, ty, pos, af, g⟩) :: rest) ⟨sl, hp⟩ Q :=
  .pv hg hk ⟨by simpa [Known, Op.operands] using known2 hx hlo, fun ρ hfi w => by
    have h1 := hfi x (by simp [Op.operands]); rw [hx] at h1
    have h2 := hfi hi (by simp [Op.operands]); rw [hlo] at h2
    simp only [Option.some.injEq] at h1 h2
    subst hj
    have e : ¬ (len = 0) := by omega
    simp [execOp, Instr.sliceAt, ← h1, ← h2, run_underlying hu, Instr.sureAddr, Instr.sliceBounds, Instr.sliceBound, asIntOf, Ck hs, Bl, e, hlt]⟩ k

theorem Tr.slice3 {x lo hi mx : Operand} {b o n cap : Nat} {T E : TypeId} {kl kh km : IntKind} {l h m : Int} {sz : Nat} (i j t : Nat) (hg : An ops sl g = true) (hk : okD c d C.N = true) (hx : Al sl x = some (.slice (some ⟨b, o, none⟩) n cap)) (hl : Al sl lo = some (.int kl l)) (hh : Al sl hi = some (.int kh h)) (hm : Al sl mx = some (.int km m)) (hi' : l = i) (hj : h = j) (ht : m = t) (hij : i ≤ j) (hjt : j ≤ t) (htc : t ≤ cap)
    (hu : C.P.underlying T = some (.slice E)) (hs : Sz C.P E sz)
    (k : Tr C ops rest ⟨(d, .slice (some ⟨b, if t = i then o else o + i * sz, none⟩) (j - i) (t - i)) :: sl, hp⟩ Q) : Tr C ops ((c, ⟨some d, .slice T x (some lo) (some hi) (some mx), ty, pos, af, g⟩) :: rest) ⟨sl, hp⟩ Q :=
  .pv hg hk ⟨fun z hz => by
    simp [Op.operands] at hz
    rcases hz with rfl | rfl | rfl | rfl
    · simp [hx]
    · simp [hl]
    · simp [hh]
    · simp [hm], fun ρ hfi w => by
    have h1 := hfi x (by simp [Op.operands]); rw [hx] at h1
    have h2 := hfi lo (by simp [Op.operands]); rw [hl] at h2
    have h3 := hfi hi (by simp [Op.operands]); rw [hh] at h3
    have h4 := hfi mx (by simp [Op.operands]); rw [hm] at h4
    simp only [Option.some.injEq] at h1 h2 h3 h4
    subst hi'
    subst hj
    subst ht
    by_cases e : t = i
    · subst e
      simp [execOp, Instr.sliceAt, Instr.slice, ← h1, ← h2, ← h3, ← h4, run_underlying hu, Instr.sliceBounds, Instr.sliceBound, asIntOf, Ck hs, Bl, hjt, hij, htc]
    · simp [execOp, Instr.sliceAt, Instr.slice, ← h1, ← h2, ← h3, ← h4, run_underlying hu, Instr.sliceBounds, Instr.sliceBound, asIntOf, Ck hs, Bl, e, hjt, hij, htc]⟩ k
end

def YOp (C : Cx) (y : Oper) (s : St) (K : St → Prop) : Prop := y.guard = none ∧ ∀ a w, Rep C s a w → y.wpIn Fence.wide 0 C.P a w (fun a' w' => ∃ s2, Rep C s2 a' w' ∧ K s2) (fun _ _ _ => False)

theorem Sat.regionY {C : Cx} {id : Nat} {ops : List Oper} {s : St} {Q : Exit → St → Prop} (k : Nat) {y : Oper} (hy : ops[k]? = some y) (hnd : noDefer ops.toArray = true)
    (h : Tr C ops.toArray ((ops.take k).map fun o => (4, o)) s (fun s1 => YOp C y s1 fun s2 => Tr C ops.toArray ((ops.drop (k + 1)).map fun o => (4, o)) s2 (Q .normal))) : Sat C (.region id ops.toArray false) s Q := by
  intro a w r
  refine wpIn_wide (n := 0).1 ?_
  refine wpIn_mono (Q := Fin C (Q .normal)) ?_ fun e a' w' ⟨he, s', r', q⟩ => by subst he; exact ⟨s', r', q⟩
  have hk : k < ops.length := by
    rcases Nat.lt_or_ge k ops.length with h1 | h1
    · exact h1
    · rw [List.getElem?_eq_none h1] at hy; cases hy
  refine wpIn_region ?_
  have e : List.range ops.toArray.size = List.range k ++ k :: List.range' (k + 1) (ops.length - (k + 1)) := by
    rw [List.size_toArray, List.range_eq_range', List.range_eq_range', show ops.length = k + (1 + (ops.length - (k + 1))) by omega, ← List.range'_append_1, ← List.range'_append_1]
    simp
    omega
  rw [e]
  have hB : ∀ s2 a w, Rep C s2 a w → Tr C ops.toArray ((ops.drop (k + 1)).map fun o => (4, o)) s2 (Q .normal) → wpOpsIn Fence.wide 0 C.P ops.toArray (Fin C (Q .normal)) (List.range' (k + 1) (ops.length - (k + 1))) a w := fun s2 a w r2 h2 => by
    refine wpOps_in (ro := none) hnd fin_out _ _ _ (wpOps_of_tr _ _ s2 a w _ sP (fun j => ?_) r2 h2 fun s' a' w' r' q => ⟨rfl, s', r', q⟩)
    by_cases hj : j < ops.length - (k + 1)
    · rw [List.getElem?_range' hj]
      simp only [Option.bind_some, List.getElem?_map, List.getElem?_drop, List.getElem?_toArray, Nat.one_mul]
      cases ops[k + 1 + j]? <;> rfl
    · rw [List.getElem?_eq_none (by simp; omega), List.getElem?_map, List.getElem?_drop, List.getElem?_eq_none oM]
      rfl
  have hA : ∀ (l : List (Nat × Oper)) (is : List Nat) (s : St) (a : Act) (w : World), is.length = l.length → (∀ j : Nat, (is[j]?).bind (fun i => ops.toArray[i]?) = (l[j]?).map Prod.snd) → Rep C s a w →
      Tr C ops.toArray l s (fun s1 => YOp C y s1 fun s2 => Tr C ops.toArray ((ops.drop (k + 1)).map fun o => (4, o)) s2 (Q .normal)) →
      wpOpsIn Fence.wide 0 C.P ops.toArray (Fin C (Q .normal)) (is ++ k :: List.range' (k + 1) (ops.length - (k + 1))) a w := by
    intro l
    induction l with
    | nil =>
      intro is s a w hl _ r h
      have : is = [] := List.eq_nil_of_length_eq_zero hl
      subst this
      cases h with
      | dup h => exact absurd r.rh.nodup h
      | nil h =>
        rw [List.nil_append, wpOpsIn_cons]
        unfold wpOpIn
        have hy' : ops.toArray[k]? = some y := by simpa using hy
        rw [hy']
        simp only
        rw [if_pos (by unfold Region.wanted; rw [h.1])]
        have := h.2 a w r
        refine Oper.wpIn_mono (K := fun a' w' => ∃ s2, Rep C s2 a' w' ∧ Tr C ops.toArray ((ops.drop (k + 1)).map fun o => (4, o)) s2 (Q .normal)) (fun a' w' ⟨s2, r2, h2⟩ => hB s2 a' w' r2 h2) ?_
        unfold Oper.wpIn at this ⊢
        refine ⟨this.1, ?_⟩
        have := this.2
        generalize (y.semAt Fence.wide.round a.eval).run C.P w = res at this ⊢
        cases res with
        | ok x w' =>
          cases x <;> simp only [Oper.uponIn] at this ⊢
          case value => exact this
          case skip => exact this
          case defer => exact this
          case enter f args =>
            refine ⟨this.1, CallsIn.mono this.2 fun e w'' he => ?_⟩
            cases e with
            | returned v => exact he
            | panicked ch => exact he.elim
            | outgrown => exact he.elim (fun _ hx => hx.elim (fun _ hy => hy.elim))
          case row row args => exact this
          case round l f tmps ars bd =>
            refine ⟨this.1, RoundIn.mono this.2 fun e w'' he => ?_⟩
            cases e with
            | returned v => exact he
            | panicked ch => exact he.elim
            | outgrown => exact he.elim (fun _ hx => hx.elim (fun _ hy => hy.elim))
        | halt x w' => cases x <;> simp only [Oper.uponIn] at this
    | cons p l ih =>
      intro is s a w hl he r h
      obtain ⟨c, o⟩ := p
      cases is with
      | nil => cases hl
      | cons i is =>
        rw [List.cons_append, wpOpsIn_cons]
        have h0 : ops.toArray[i]? = some o := by simpa using he 0
        refine wpOp_in (ro := none) (X := Fin C (Q .normal)) (Tr.step h0 h a w r _ (fun s' a' w' r' k' => ?_) _) hnd fin_out
        exact ih is s' a' w' (by simpa using hl) (fun j => by simpa using he (j + 1)) r' k'
  refine hA _ (List.range k) s a w (by simp; omega) (fun j => ?_) r h
  by_cases hj : j < k
  · rw [List.getElem?_range hj]
    simp only [Option.bind_some, List.getElem?_map, List.getElem?_toArray]
    rw [List.getElem?_take_of_lt hj]
    cases ops[j]? <;> rfl
  · rw [List.getElem?_eq_none (by simp; omega), List.getElem?_map, List.getElem?_eq_none (by simp; omega)]
    rfl

theorem yop {P : Program} {w1 : World} {N : Nat} {names : List Nat} {sl : List (Nat × Value)} {hp hp' : List Blk} {d : Nat} {ty : TypeId} {pos : String} {af : Array Edge} {f x : Operand} {ats : Array TypeId} {l : Nat} {v : Value} {K : St → Prop} (hd : Nat.blt d N = true)
    (hf : Al sl f = some (.func (.yield l) #[] #[])) (hx : Al sl x = some v) (hY : ∀ w, HRep ⟨P, w1, 0, names, [], []⟩ hp w → YieldAt Fence.wide 0 P l #[v] w fun e w' => e = .returned (.bool true) ∧ HRep ⟨P, w1, 0, names, [], []⟩ hp' w')
    (k : K ⟨(d, .bool true) :: sl, hp'⟩) : YOp ⟨P, w1, N, names, [], []⟩ ⟨some d, .call ⟨.value f, #[x], ats⟩, ty, pos, af, none⟩ ⟨sl, hp⟩ K := by
  refine ⟨rfl, fun a w r => ?_⟩
  have h1 := r.rs.eval hf
  have h2 := r.rs.eval hx
  obtain ⟨fn, tmps, ars, bd, hrun, hR⟩ := hY w ⟨r.rh.cells, r.rh.nodup, r.rh.own, r.rh.keeps, r.rh.kok, r.rh.kd⟩
  refine ⟨fun _ _ => trivial, ?_⟩
  rw [show (Oper.semAt Fence.wide.round a.eval ⟨some d, .call ⟨.value f, #[x], ats⟩, ty, pos, af, none⟩).run P w = .ok (.round l fn tmps ars bd) w by
    rw [Oper.semAt_eq _ _ _ (by intro c hc; cases hc)]
    simp [execOp, resolve, Deferred.ofValue, h1, h2, invoke, hrun]]
  simp only [Oper.uponIn]
  refine ⟨fun h0 => (by cases h0), RoundIn.mono hR fun e w' ⟨he, hh⟩ => ?_⟩
  subst he
  exact ⟨⟨(d, .bool true) :: sl, hp'⟩, ⟨r.rs.put (some d) (.bool true) fun t ht => by cases ht; exact nblt hd, hh.cells, hh.nodup, hh.own, hh.keeps, hh.kok, hh.kd⟩, k⟩

theorem HRep.base {P : Program} {w : World} {N : Nat} {names : List Nat} {hp : List Blk} (hc : ∀ b ∈ hp, BlkOk w b) (hn : hp.map (·.n) = names) (hd : names.Nodup) : HRep ⟨P, w, N, names, [], []⟩ hp w :=
  ⟨hc, by rw [hn]; exact hd, fun b hb => .inr (by rw [← hn]; exact List.mem_map.2 ⟨b, hb, rfl⟩), Keeps.refl _ _, fun _ h => (by cases h), fun _ _ _ h => (by cases h)⟩
theorem HRep.reN {P : Program} {w w' : World} {N N' : Nat} {names : List Nat} {hp : List Blk} (h : HRep ⟨P, w, N, names, [], []⟩ hp w') : HRep ⟨P, w, N', names, [], []⟩ hp w' :=
  ⟨h.cells, h.nodup, h.own, h.keeps, h.kok, h.kd⟩

theorem wpIn_range {C : Cx} {sl : List (Nat × Value)} {g : Operand} {p0 : Tmp} {assign body : Code} {QQ : Exit → Act → World → Prop} {a : Act} {w : World} {gf : Nat} {lb : Array Value} (hpF : Nat → List Blk) (names : List Nat) (enc : Nat → Value) (K : Nat) (slA : Nat → List (Nat × Value))
    (hrep : Rep C ⟨sl, hpF 0⟩ a w) (hkb : C.kb = []) (hg : Al sl g = some (.func (.func gf) #[] lb)) (eg : Au C.P gf) (hp0 : p0 < C.N) (hnames : ∀ i, (hpF i).map (·.n) = names)
    (iter : ∀ (l : Nat) (w1 : World), HRep ⟨C.P, w1, 0, names, [], []⟩ (hpF 0) w1 →
      (∀ i, i < K → ∀ W, HRep ⟨C.P, w1, 0, names, [], []⟩ (hpF i) W → YieldAt Fence.wide 0 C.P l #[enc i] W fun e W' => e = .returned (.bool true) ∧ HRep ⟨C.P, w1, 0, names, [], []⟩ (hpF (i + 1)) W') →
      CallsIn Fence.wide 0 C.P gf (#[.func (.yield l) #[] #[]] ++ lb) w1 fun e W' => (∃ v, e = .returned v) ∧ HRep ⟨C.P, w1, 0, names, [], []⟩ (hpF K) W')
    (hassign : ∀ i, i < K → ∀ l W, HRep ⟨C.P, W, C.N, names, [], []⟩ (hpF i) W → SatI (some l) ⟨C.P, W, C.N, names, [], []⟩ assign ⟨(p0, enc i) :: sl, hpF i⟩ (fun s' => s'.hp = hpF i ∧ s'.sl = slA i))
    (hbody : ∀ i, i < K → ∀ l W, HRep ⟨C.P, W, C.N, names, [], []⟩ (hpF i) W → SatI (some l) ⟨C.P, W, C.N, names, [], []⟩ body ⟨slA i, hpF i⟩ (fun s' => s'.hp = hpF (i + 1)))
    (hdone : ∀ D W, HRep C (hpF K) W → W.heap[D]? = some (.deferred (some [])) → C.W0.heap.size ≤ D → D ∉ names → QQ .normal { a with defers := { target := .collected D, args := #[] } :: a.defers } W) :
    (Code.rangeFunc g #[p0] assign body).wpIn Fence.wide 0 C.P QQ a w := by
  have hnd : names.Nodup := by rw [← hnames 0]; exact hrep.rh.nodup
  have hlt : ∀ k ∈ names, k < w.heap.size := fun k hk => by
    rw [← hnames 0] at hk
    obtain ⟨b, hb, rfl⟩ := List.mem_map.1 hk
    exact (hrep.rh.cells b hb).lt
  have inN : ∀ i, ∀ b ∈ hpF i, b.n ∈ names := fun i b hb => by rw [← hnames i]; exact List.mem_map.2 ⟨b, hb, rfl⟩
  refine wpIn_rangeFunc ?_
  intro fn _
  obtain ⟨rec, hrec⟩ : ∃ rec : LoopState → Option Code → Loop, rec = fun st pe => { state := st, pending := pe, fn, tmps := a.tmps, params := #[p0], assign, body, defers := w.heap.size } := ⟨_, rfl⟩
  obtain ⟨w1, hw1⟩ : ∃ w1, (w.alloc (.deferred (some []))).alloc (.loop (rec .ready none)) = w1 := ⟨_, rfl⟩
  have hsz1 : w1.heap.size = w.heap.size + 2 := by rw [← hw1]; simp
  have hL1 : w1.heap[w.heap.size + 1]? = some (.loop (rec .ready none)) := by
    rw [← hw1]; have := World.alloc_heap_new (w.alloc (.deferred (some []))) (.loop (rec .ready none)); rwa [World.size_alloc] at this
  have hK1 : w1.heap[w.heap.size]? = some (.deferred (some [])) := by
    rw [← hw1]; exact (Below.heap_alloc _ _ _ sP).trans (World.alloc_heap_new w _)
  have hold : ∀ k, k < w.heap.size → w1.heap[k]? = w.heap[k]? := fun k hk => by
    rw [← hw1]; exact (Below.heap_alloc _ _ _ (by simp; omega)).trans (Below.heap_alloc _ _ _ hk)
  have hH : HRep ⟨C.P, w1, 0, names, [], []⟩ (hpF 0) w1 := HRep.base (fun b hb => (hrep.rh.cells b hb).of_heap (hold _ (hrep.rh.cells b hb).lt)) (hnames 0) hnd
  have lN : w.heap.size + 1 ∉ names := fun h => by have := hlt _ h; omega
  have dN : w.heap.size ∉ names := fun h => by have := hlt _ h; omega
  refine ⟨w.heap.size + 1, [{ target := .collected w.heap.size, args := #[] }], w1, { target := .fn (.func gf) lb, args := #[.func (.yield (w.heap.size + 1)) #[] #[]] }, w1, gf,
    #[.func (.yield (w.heap.size + 1)) #[] #[]] ++ lb, w1, ?_, ?_, fun _ _ => trivial, ?_, fun h => (by cases h), ?_⟩
  · rw [← hw1, hrec]; exact run_enterLoop_outer _ _ _ _ _
  · have := hrep.rs.eval hg
    simp only [resolve, this]
    simp [go_sem]
  · have := eg (#[.func (.yield (w.heap.size + 1)) #[] #[]] ++ lb) w1
    simpa [invoke] using this
  refine (iter (w.heap.size + 1) w1 hH fun i hi W hh => ?_).mono ?_
  · -- one round
    have hl : W.heap[w.heap.size + 1]? = some (.loop (rec .ready none)) := (hh.keeps.block _ (by show _ < w1.heap.size; omega) lN).trans hL1
    have hy := run_yield (P := C.P) (args := #[enc i]) hl (by rw [hrec]; rfl)
    rw [hrec] at hy
    have rep0 : Rep ⟨C.P, W, C.N, names, [], []⟩ ⟨(p0, enc i) :: sl, hpF i⟩ { tmps := (#[p0].zip #[enc i]).foldl (fun t (p, v) => t.setIfInBounds p v) a.tmps, defers := [] } W := by
      refine ⟨?_, HRep.base hh.cells (hnames i) hnd⟩
      have s0 : SRep [] C.N sl ⟨a.tmps, []⟩ := ⟨hrep.rs.size, rfl, hrep.rs.slots⟩
      have s1 := s0.put (some p0) (enc i) fun t ht => by cases ht; exact hp0
      have e : (#[p0].zip #[enc i]).foldl (fun t (p, v) => t.setIfInBounds p v) a.tmps = a.tmps.setIfInBounds p0 (enc i) := by simp
      rw [e]
      exact s1
    refine ⟨fn, _, assign, body, hy, roundIn_of_wpIn trivial ?_⟩
    refine wpIn_mono (hassign i hi (w.heap.size + 1) W (HRep.base hh.cells (hnames i) hnd) _ _ rep0) fun e a1 W1 ⟨he, s1, r1, hs1, hs2⟩ => ?_
    subst he
    have hl1 : W1.heap[w.heap.size + 1]? = some (.loop (rec .ready none)) := (r1.rh.keeps.block _ (Array.getElem?_eq_some_iff.1 hl).1 lN).trans hl
    have hlt1 := (Array.getElem?_eq_some_iff.1 hl1).1
    refine ⟨_, run_beginRound hl1 (by rw [hrec]), ?_⟩
    obtain ⟨W2, hW2⟩ : ∃ W2, W1.putObj (w.heap.size + 1) (.loop { rec .ready none with state := .busy }) = W2 := ⟨_, rfl⟩
    rw [hW2]
    have ne1 : ∀ j, ∀ b ∈ hpF j, b.n ≠ w.heap.size + 1 := fun j b hb e => lN (e ▸ inN j b hb)
    have hc2 : ∀ b ∈ hpF i, BlkOk W2 b := fun b hb => by
      rw [← hs1] at hb
      refine (r1.rh.cells b hb).of_heap ?_
      rw [← hW2]
      rw [hs1] at hb
      exact World.putObj_heap_other (ne1 i b hb)
    have hl2 : W2.heap[w.heap.size + 1]? = some (.loop { rec .ready none with state := .busy }) := by rw [← hW2]; exact World.putObj_heap_same hlt1
    have rep2 : Rep ⟨C.P, W2, C.N, names, [], []⟩ ⟨slA i, hpF i⟩ a1 W2 := ⟨by have := r1.rs; rw [hs2] at this; exact this, HRep.base hc2 (hnames i) hnd⟩
    refine wpIn_mono (hbody i hi (w.heap.size + 1) W2 (HRep.base hc2 (hnames i) hnd) _ _ rep2) fun e a3 W3 ⟨he, s3, r3, hs3⟩ => ?_
    subst he
    have hl3 : W3.heap[w.heap.size + 1]? = some (.loop { rec .ready none with state := .busy }) := (r3.rh.keeps.block _ (Array.getElem?_eq_some_iff.1 hl2).1 lN).trans hl2
    have hend := run_endRound (P := C.P) none hl3
    refine ⟨_, _, hend, rfl, ?_⟩
    have hlt3 := (Array.getElem?_eq_some_iff.1 hl3).1
    refine ⟨fun b hb => ?_, by rw [hnames]; exact hnd, fun b hb => .inr (inN _ b hb), ?_, fun _ h => (by cases h), fun _ _ _ h => (by cases h)⟩
    · refine BlkOk.of_heap (r3.rh.cells b (by rw [hs3]; exact hb)) ?_
      exact World.putObj_heap_other (ne1 _ b hb)
    · have k1 := hh.keeps
      have k2 := r1.rh.keeps
      have k3 := r3.rh.keeps
      have os2 : W2.os = W1.os := by rw [← hW2]; rfl
      have tp2 : W2.tape = W1.tape := by rw [← hW2]; rfl
      have ot2 : W2.output = W1.output := by rw [← hW2]; rfl
      have sz2 : W2.heap.size = W1.heap.size := by rw [← hW2]; simp [World.putObj]
      refine ⟨k3.os.trans (os2.trans (k2.os.trans k1.os)), k3.tape.trans (tp2.trans (k2.tape.trans k1.tape)), k3.output.trans (ot2.trans (k2.output.trans k1.output)), ?_, fun j hj hjn => ?_⟩
      · have h1 := k1.size
        have h2 := k2.size
        have h3 := k3.size
        show w1.heap.size ≤ _
        have : (W3.putObj (w.heap.size + 1) (.loop { rec .ready none with state := .ready })).heap.size = W3.heap.size := by simp [World.putObj]
        simp only [World.putObj, Array.size_setIfInBounds]
        simp only at h1 h2 h3
        omega
      · by_cases hjl : j = w.heap.size + 1
        · subst hjl
          rw [hL1]
          refine (World.putObj_heap_same hlt3).trans ?_
          rw [hrec]
          rfl
        · refine (World.putObj_heap_other hjl).trans ?_
          have h1 := k1.size
          have h2 := k2.size
          simp only at h1 h2 hj
          refine (k3.block j (by simp only; omega) hjn).trans ?_
          simp only
          rw [← hW2]
          refine (World.putObj_heap_other hjl).trans ?_
          exact (k2.block j (by simp only; omega) hjn).trans (k1.block j hj hjn)
  · -- behind the iterator
    rintro e W ⟨⟨v, rfl⟩, hh⟩
    have hl : W.heap[w.heap.size + 1]? = some (.loop (rec .ready none)) := (hh.keeps.block _ (by show _ < w1.heap.size; omega) lN).trans hL1
    have hd : W.heap[w.heap.size]? = some (.deferred (some [])) := (hh.keeps.block _ (by simp only; omega) dN).trans hK1
    refine ⟨none, _, by have := run_endLoop (P := C.P) hl (by rw [hrec]; simp); rw [hrec] at this; exact this, ?_⟩
    have kw := hrep.rh.keeps
    refine hdone w.heap.size _ ⟨fun b hb => (hh.cells b hb).of_heap (World.putObj_heap_other fun e => lN (e ▸ inN K b hb)), by rw [hnames]; exact hnd, fun b hb => ?_, ?_, by rw [hkb]; exact fun _ h => (by cases h), by rw [hkb]; exact fun _ _ _ h => (by cases h)⟩
      ((World.putObj_heap_other oM).trans hd) kw.size dN
    · have := inN K b hb
      rw [← hnames 0] at this
      obtain ⟨b0, hb0, e⟩ := List.mem_map.1 this
      rw [← e]
      exact hrep.rh.own b0 hb0
    · have k1 := hh.keeps
      have osw : w1.os = w.os ∧ w1.tape = w.tape ∧ w1.output = w.output := by rw [← hw1]; exact ⟨rfl, rfl, rfl⟩
      refine ⟨k1.os.trans (osw.1.trans kw.os), k1.tape.trans (osw.2.1.trans kw.tape), k1.output.trans (osw.2.2.trans kw.output), ?_, fun j hj hjn => ?_⟩
      · have h1 := k1.size
        have h2 := kw.size
        simp only [World.putObj, Array.size_setIfInBounds]
        simp only at h1
        omega
      · have h2 := kw.size
        have hjN : j ∉ names := fun h => by
          rw [← hnames 0] at h
          obtain ⟨b0, hb0, e⟩ := List.mem_map.1 h
          rcases hrep.rh.own b0 hb0 with h3 | h3
          · omega
          · exact hjn (e ▸ h3)
        refine (World.putObj_heap_other oM).trans ?_
        exact (k1.block j (by simp only; omega) hjN).trans ((hold j oM).trans (kw.block j hj hjn))

def endAtA (P : Program) (N : Nat) (ds : List Deferred) (fn : Func) (R : Value → List Blk → Prop) (s : St) : Prop :=
  ∃ v out, (∀ W names, Res ⟨P, W, N, names, [], ds⟩ fn s v) ∧ (∀ b ∈ out, b ∈ s.hp) ∧ ((s.hp.map (·.n)).Nodup → (out.map (·.n)).Nodup) ∧ R v out
def endQA (P : Program) (N : Nat) (ds : List Deferred) (fn : Func) (R : Value → List Blk → Prop) : Exit → St → Prop
  | .normal, s | .ret, s => endAtA P N ds fn R s
  | _, _ => False
theorem enA_r {P : Program} {N : Nat} {ds : List Deferred} {fn : Func} {R : Value → List Blk → Prop} {s : St} (h : endAtA P N ds fn R s) : endQA P N ds fn R .ret s := h
def RangeSt (P : Program) (W : World) (N : Nat) (fn : Func) (g : Operand) (p0 : Tmp) (assign body tail : Code) (R : Value → List Blk → Prop) (s : St) : Prop :=
  ∃ (gf : Nat) (lb : Array Value) (hpF : Nat → List Blk) (names : List Nat) (enc : Nat → Value) (K : Nat) (slA : List (Nat × Value) → Nat → List (Nat × Value)), s.hp = hpF 0 ∧ Al s.sl g = some (.func (.func gf) #[] lb) ∧ Au P gf ∧ p0 < N ∧ (∀ i, (hpF i).map (·.n) = names) ∧
    (∀ (l : Nat) (w1 : World), HRep ⟨P, w1, 0, names, [], []⟩ (hpF 0) w1 →
      (∀ i, i < K → ∀ W, HRep ⟨P, w1, 0, names, [], []⟩ (hpF i) W → YieldAt Fence.wide 0 P l #[enc i] W fun e W' => e = .returned (.bool true) ∧ HRep ⟨P, w1, 0, names, [], []⟩ (hpF (i + 1)) W') →
      CallsIn Fence.wide 0 P gf (#[.func (.yield l) #[] #[]] ++ lb) w1 fun e W' => (∃ v, e = .returned v) ∧ HRep ⟨P, w1, 0, names, [], []⟩ (hpF K) W') ∧
    (∀ i, i < K → ∀ l W, HRep ⟨P, W, N, names, [], []⟩ (hpF i) W → SatI (some l) ⟨P, W, N, names, [], []⟩ assign ⟨(p0, enc i) :: s.sl, hpF i⟩ (fun s' => s'.hp = hpF i ∧ s'.sl = slA s.sl i)) ∧
    (∀ i, i < K → ∀ l W, HRep ⟨P, W, N, names, [], []⟩ (hpF i) W → SatI (some l) ⟨P, W, N, names, [], []⟩ body ⟨slA s.sl i, hpF i⟩ (fun s' => s'.hp = hpF (i + 1))) ∧
    (∀ D W2, Sat ⟨P, W2, N, names, [], [{ target := .collected D, args := #[] }]⟩ tail ⟨s.sl, hpF K⟩ (endQA P N [{ target := .collected D, args := #[] }] fn R))

theorem calls_range {P : Program} {f : FuncId} {fn : Func} {R0 R1 assign body tail : Code} {id : Nat} {g : Operand} {p0 : Tmp} {args : List Value} {W : World} {R : Value → List Blk → Prop}
    (hf : P.funcs[f]? = some fn) (hb : fn.body = some (.seq R0 (.seq (.seq R1 (.block id (.rangeFunc g #[p0] assign body))) tail))) (N : Nat) (hN : fn.ntmps = N) (hlen : Nat.ble args.length N = true)
    (h : Sat ⟨P, W, N, [], [], []⟩ R0 ⟨argSlots 0 args, []⟩ (thenQ (fun s' => Sat ⟨P, W, N, [], [], []⟩ R1 s' (thenQ (RangeSt P W N fn g p0 assign body tail R) (fun _ _ => False))) (fun _ _ => False))) :
    Calls P f args.toArray W fun e W' => ∃ v out, e = .returned v ∧ R v out ∧ Ret [] out W W' := by
  have hlen := Nat.le_of_ble_eq_true hlen
  subst hN
  refine callsIn_wide.1 (callsIn_of_wp_marks (F := Fence.wide) (n := 0) hf hb trivial ?_)
  have rep0 : Rep ⟨P, W, fn.ntmps, [], [], []⟩ ⟨argSlots 0 args, []⟩ { tmps := args.toArray ++ Array.replicate (fn.ntmps - args.toArray.size) undef, defers := [] } W := by
    refine ⟨⟨?_, rfl, fun t v ht => ?_⟩, HRep.nil _⟩
    · simp; omega
    · have := argSlots_look args 0 t v ht
      rw [Array.getElem?_append]
      have hlt : t < args.length := by
        rcases Nat.lt_or_ge t args.length with h1 | h1
        · exact h1
        · rw [List.getElem?_eq_none oM] at this; cases this.2
      simp only [List.size_toArray]
      rw [if_pos hlt]
      simpa using this.2
  refine wpIn_seq (wpIn_wide.2 (wp_mono (h _ _ rep0) fun e a w ⟨s, r, q⟩ => ?_))
  cases e with
  | normal =>
    refine wpIn_seq (wpIn_seq (wpIn_wide.2 (wp_mono (q a w r) fun e a1 w1 ⟨s1, r1, q1⟩ => ?_)))
    cases e with
    | normal =>
      obtain ⟨gf, lb, hpF, names, enc, K, slA, hs, hg, eg, hp0, hnames, iter, hassign, hbody, htail⟩ := q1
      obtain ⟨sl, hp⟩ := s1
      simp only at hs hg hassign htail
      subst hs
      refine wpIn_block (wpIn_range (C := ⟨P, W, fn.ntmps, [], [], []⟩) hpF names enc K (slA sl) r1 rfl hg eg hp0 hnames iter hassign hbody fun D W2 hh hD hDl hDn => ?_)
      refine wpIn_wide.2 ?_
      have hnd : names.Nodup := by rw [← hnames K]; exact hh.nodup
      have rep2 : Rep ⟨P, W2, fn.ntmps, names, [], [{ target := .collected D, args := #[] }]⟩ ⟨sl, hpF K⟩ { a1 with defers := { target := .collected D, args := #[] } :: a1.defers } W2 := by
        refine ⟨⟨r1.rs.size, ?_, r1.rs.slots⟩, hh.cells, hh.nodup, fun b hb => .inr ?_, Keeps.refl _ _, fun _ h => (by cases h), fun _ _ _ h => (by cases h)⟩
        · show _ :: a1.defers = _
          rw [r1.rs.defers]
        · show b.n ∈ names
          rw [← hnames K]; exact List.mem_map.2 ⟨b, hb, rfl⟩
      refine wp_mono (htail D W2 _ _ rep2) fun e a3 W3 ⟨s3, r3, q3⟩ => ?_
      have own : ∀ b : Blk, (W2.heap.size ≤ b.n ∨ b.n ∈ names) → W.heap.size ≤ b.n := fun b hb => by
        rcases hb with h1 | h1
        · exact Nat.le_trans hh.keeps.size h1
        · rw [← hnames K] at h1
          obtain ⟨b0, hb0, e⟩ := List.mem_map.1 h1
          rcases hh.own b0 hb0 with h2 | h2
          · rw [← e]; exact h2
          · cases h2
      have fin : endAtA P fn.ntmps [{ target := .collected D, args := #[] }] fn R s3 → LeavesInM Fence.wide 0 P fn a3.tmps (fun e W' => ∃ v out, e = .returned v ∧ R v out ∧ Ret [] out W W') a3.defers .returning W3 := by
        rintro ⟨v, out, hr, hsub, hnd3, hR⟩
        have hd3 : a3.defers = [{ target := .collected D, args := #[] }] := r3.rs.defers
        rw [hd3]
        have hD3 : W3.heap[D]? = some (.deferred (some [])) := (r3.rh.keeps.block D (Array.getElem?_eq_some_iff.1 hD).1 hDn).trans hD
        refine ⟨by simp, .inl ⟨D, _, rfl, run_takeDeferred hD3, ?_⟩⟩
        have hDout : ∀ b ∈ s3.hp, b.n ≠ D := fun b hb e => by
          obtain ⟨full, fr, hbk⟩ := r3.rh.cells b hb
          have := hbk.heap
          rw [e, hD3] at this
          cases this
        have rep4 : Rep ⟨P, W3.putObj D (.deferred none), fn.ntmps, s3.hp.map (·.n), [], [{ target := .collected D, args := #[] }]⟩ s3 a3 (W3.putObj D (.deferred none)) :=
          ⟨⟨r3.rs.size, r3.rs.defers, r3.rs.slots⟩, fun b hb => (r3.rh.cells b hb).of_heap (World.putObj_heap_other (hDout b hb)), r3.rh.nodup, fun b hb => .inr (List.mem_map.2 ⟨b, hb, rfl⟩), Keeps.refl _ _, fun _ h => (by cases h), fun _ _ _ h => (by cases h)⟩
        refine ⟨v, ?_, v, out, rfl, hR, ⟨?_, fun b hb => rep4.rh.cells b (hsub b hb), hnd3 r3.rh.nodup, fun b hb => .inl (own b (r3.rh.own b (hsub b hb)))⟩⟩
        · exact hr _ _ _ _ rep4
        · have k1 := hh.keeps
          have k2 := r3.rh.keeps
          refine ⟨k2.os.trans k1.os, k2.tape.trans k1.tape, k2.output.trans k1.output, ?_, fun j hj hjn => ?_⟩
          · have h1 := k1.size
            have h2 := k2.size
            simp only [World.putObj, Array.size_setIfInBounds]
            simp only at h1 h2
            omega
          · simp only at hDl
            refine (World.putObj_heap_other oM).trans ?_
            have h1 := k1.size
            simp only at h1
            refine (k2.block j (by simp only; omega) (fun hjn2 => ?_)).trans (k1.block j hj hjn)
            have := own ⟨j, [], 0, 0⟩ (.inr hjn2)
            simp only at this
            omega
      cases e with
      | normal => exact fin q3
      | ret => exact fin q3
      | _ => exact q3.elim
    | _ => exact q1.elim
  | _ => exact q.elim
end Hw
end

section
namespace Hw
open Go Go.RowKit

theorem flat_get {m : Nat} : ∀ {cs : List (List Value)} {i j : Nat} {l : List Value}, (∀ l ∈ cs, l.length = m) → cs[i]? = some l → j < l.length → cs.flatten[i * m + j]? = l[j]?
  | [], i, j, l, _, h, _ => by simp at h
  | x :: cs, 0, j, l, hl, h, hj => by
    simp only [List.getElem?_cons_zero, Option.some.injEq] at h
    subst h
    rw [Nat.zero_mul, Nat.zero_add, List.flatten_cons, List.getElem?_append_left hj]
  | x :: cs, i + 1, j, l, hl, h, hj => by
    rw [List.getElem?_cons_succ] at h
    have hx := hl x sP
    rw [List.flatten_cons, List.getElem?_append_right (by rw [hx, Nat.add_mul]; omega), hx, show (i + 1) * m + j - m = i * m + j by rw [Nat.add_mul]; omega]
    exact flat_get (fun y hy => hl y (by simp [hy])) h hj
theorem sees_elem {w : World} {b o m i : Nat} {cs : List (List Value)} {l : List Value} (hl : ∀ l ∈ cs, l.length = m) (hs : B8 w b o cs.flatten) (hi : cs[i]? = some l) : B8 w b (o + i * m) l := fun j v hj => by
  have hlt : j < l.length := (List.getElem?_eq_some_iff.1 hj).1
  have := hs (i * m + j) v (by rw [flat_get hl hi hlt]; exact hj)
  rwa [Nat.add_assoc]

structure SeqIs {R D : Type} (cells : R → List Value) (k : Nat) (Is : World → R → D → Prop) (W : World) (s : Sl) (rs : List R) (ds : List D) : Prop where
  nr : rs.length = s.n
  nd : ds.length = s.n
  is : ∀ (i : Nat) (r : R) (d : D), rs[i]? = some r → ds[i]? = some d → Is W r d
  len : ∀ r ∈ rs, (cells r).length = k
  cap : s.n ≤ s.c
  see : SeesP W s.p (rs.map cells).flatten
  max : s.n ≤ maxLen
  nil : s.p = none → s.c = 0
section
variable {R D : Type} {cells : R → List Value} {k : Nat} {Is : World → R → D → Prop} {W w : World} {s : Sl} {rs : List R} {ds : List D}
theorem SeqIs.nil0 (h : SeqIs cells k Is W s rs ds) (hp : s.p = none) : s.n = 0 := by have := h.nil hp; have := h.cap; omega
theorem SeqIs.flat (h : SeqIs cells k Is W s rs ds) : (rs.map cells).flatten.length = s.n * k := by
  rw [← h.nr]
  have hl := h.len
  clear h
  induction rs with
  | nil => simp
  | cons r rs ih => rw [List.map_cons, List.flatten_cons, List.length_append, ih (fun x hx => hl x (by simp [hx])), hl r sP, List.length_cons, Nat.add_mul]; omega
theorem SeqIs.at (h : SeqIs cells k Is W s rs ds) (hk : 0 < k) {i : Nat} (hi : i < s.n) : ∃ b o r d, s.p = some ⟨b, o, none⟩ ∧ rs[i]? = some r ∧ ds[i]? = some d ∧ Is W r d ∧ (cells r).length = k ∧ B8 W b (o + i * k) (cells r) := by
  have h1 : i < rs.length := by rw [h.nr]; exact hi
  have h2 : i < ds.length := by rw [h.nd]; exact hi
  have h3 : 0 < s.n * k := Nat.mul_pos oM hk
  obtain ⟨b, o, hp, hs⟩ := h.see.at (by rw [h.flat]; exact h3)
  have e1 := List.getElem?_eq_getElem h1
  have e2 := List.getElem?_eq_getElem h2
  refine ⟨b, o, rs[i], ds[i], hp, e1, e2, h.is i _ _ e1 e2, h.len _ (List.getElem_mem h1), ?_⟩
  exact sees_elem (cs := rs.map cells) (fun l hl => by obtain ⟨r, hr, rfl⟩ := List.mem_map.1 hl; exact h.len r hr) hs (by rw [List.getElem?_map, e1]; rfl)
theorem SeqIs.ext {C : Cx} {hp : List Blk} (hh : HRep C hp w) (hl : C.lent = []) (hIs : ∀ r d, Is C.W0 r d → Is w r d) (h : SeqIs cells k Is C.W0 s rs ds) : SeqIs cells k Is w s rs ds :=
  ⟨h.nr, h.nd, fun i r d h1 h2 => hIs r d (h.is i r d h1 h2), h.len, h.cap, Ao hh hl h.see, h.max, h.nil⟩
theorem SeqIs.none : SeqIs cells k Is W Sl.nil [] [] :=
  ⟨rfl, rfl, fun i r d h => (by simp at h), fun r h => (by cases h), Nat.le_refl _, SeesP.nil, Nat.zero_le _, fun _ => rfl⟩
theorem acc_seq {bl : List Blk} {E : TypeId} {n : Nat} (h : Acc s bl (rs.map cells).flatten E n k) (hl : Lies bl w) (hr : rs.length = n) (hd : ds.length = n) (hlen : ∀ r ∈ rs, (cells r).length = k) (hm : n ≤ 1000000) (his : ∀ (i : Nat) (r : R) (d : D), rs[i]? = some r → ds[i]? = some d → Is w r d) : SeqIs cells k Is w s rs ds :=
  ⟨by rw [h.num, hr], by rw [h.num, hd], his, hlen, h.cap, h.see hl, by rw [h.num]; unfold maxLen; omega, h.nilc⟩
end

structure OwnSeq {R D : Type} (cells : R → List Value) (k : Nat) (Is : World → R → D → Prop) (E : TypeId) (s : Sl) (bl bl2 : List Blk) (rs : List R) (ds : List D) (n : Nat) : Prop where
  acc : Acc s bl (rs.map cells).flatten E n k
  nr : rs.length = n
  nd : ds.length = n
  len : ∀ r ∈ rs, (cells r).length = k
  is : ∀ W2, Lies bl2 W2 → ∀ (i : Nat) (r : R) (d : D), rs[i]? = some r → ds[i]? = some d → Is W2 r d
section
variable {R D : Type} {cells : R → List Value} {k : Nat} {Is : World → R → D → Prop} {w : World} {E : TypeId} {s s' : Sl} {bl bl' bl2 bl3 : List Blk} {rs : List R} {ds : List D} {n : Nat}
theorem OwnSeq.none : OwnSeq cells k Is E Sl.nil [] [] [] [] 0 := ⟨Acc.none, rfl, rfl, fun r h => (by cases h), fun W2 _ i r d h => (by simp at h)⟩
theorem OwnSeq.seq (h : OwnSeq cells k Is E s bl bl2 rs ds n) (h1 : Lies bl w) (h2 : Lies bl2 w) (hm : n ≤ 1000000) : SeqIs cells k Is w s rs ds := acc_seq h.acc h1 h.nr h.nd h.len hm (h.is w h2)
theorem OwnSeq.snoc {r : R} {d : D} (h : OwnSeq cells k Is E s bl bl2 rs ds n) (ha : Acc s' bl' ((rs.map cells).flatten ++ cells r) E (n + 1) k) (hr : (cells r).length = k) (hi : ∀ W2, Lies bl3 W2 → Is W2 r d) : OwnSeq cells k Is E s' bl' (bl3 ++ bl2) (rs ++ [r]) (ds ++ [d]) (n + 1) := by
  refine ⟨by rw [List.map_append, List.flatten_append]; simpa using ha, by simp [h.nr], by simp [h.nd], fun x hx => ?_, fun W2 hl i x y hx hy => ?_⟩
  · rcases List.mem_append.1 hx with hx | hx
    · exact h.len x hx
    · rw [List.mem_singleton.1 hx]; exact hr
  · by_cases hn : i < n
    · rw [List.getElem?_append_left (by rw [h.nr]; exact hn)] at hx
      rw [List.getElem?_append_left (by rw [h.nd]; exact hn)] at hy
      exact h.is W2 (hl.sub fun b hb => List.mem_append_right _ hb) i x y hx hy
    · rw [List.getElem?_append_right (by rw [h.nr]; omega), h.nr] at hx
      rw [List.getElem?_append_right (by rw [h.nd]; omega), h.nd] at hy
      have e : i - n = 0 := by
        have := (List.getElem?_eq_some_iff.1 hx).1
        simp at this; omega
      rw [e] at hx hy
      simp only [List.getElem?_cons_zero, Option.some.injEq] at hx hy
      subst hx; subst hy
      exact hi W2 (hl.sub fun b hb => List.mem_append_left _ hb)
end

section
variable {C : Cx} {ops : Array Oper} {rest : List (Nat × Oper)} {sl : List (Nat × Value)} {hp : List Blk} {Q : St → Prop} {c d : Nat} {ty : TypeId} {pos : String} {af : Array Edge} {g : Option (Nat × Bool)}
variable {f : Operand} {fid : FuncId} {ars : List Operand} {ats : Array TypeId} {vs us : List Value} {fst cap : Array Value}
theorem Tr.callCV {Pre : World → Prop} {r : Value} (hg : An ops sl g = true) (hk : okG c d C.N = true) (hfn : Al sl f = some (.func (.func fid) fst cap)) (hargs : evs sl ars = some vs) (hus : fst.toList ++ vs ++ cap.toList = us) (hb : Au C.P fid)
    (hc : Meets C.P fid us [] Pre fun v out => v = r ∧ out = []) (hpre : ∀ w, HRep C hp w → Pre w)
    (k : Tr C ops rest ⟨(d, r) :: sl, hp⟩ Q) : Tr C ops ((c, ⟨some d, .call ⟨.value f, ars.toArray, ats⟩, ty, pos, af, g⟩) :: rest) ⟨sl, hp⟩ Q :=
  .callC hg hk hfn hargs hus hb hc (fun l hn => ⟨r, [], ⟨rfl, rfl⟩, hn⟩) hpre fun v out h => by obtain ⟨rfl, rfl⟩ := h; exact k
end

section
variable {H : Type} {enc : TypeId × Value → H} {P : Program} {W : World} {base : Nat} {sp : Nat → Bool} {held : Bool}
theorem elems_of {R D : Type} {cells : R → List Value} {k : Nat} {Is : World → R → D → Prop} (b o : Nat) : ∀ n : Nat, (∀ i, i < n → ∃ r d, Is W r d ∧ (cells r).length = k ∧ B8 W b (o + i * k) (cells r)) →
    ∃ (rs : List R) (ds : List D), rs.length = n ∧ ds.length = n ∧ (∀ r ∈ rs, (cells r).length = k) ∧ (∀ (i : Nat) (r : R) (d : D), rs[i]? = some r → ds[i]? = some d → Is W r d) ∧ B8 W b o (rs.map cells).flatten ∧ (rs.map cells).flatten.length = n * k
  | 0, _ => ⟨[], [], rfl, rfl, fun r h => (by cases h), fun i r d h => (by simp at h), fun j v h => (by simp at h), by simp⟩
  | n + 1, h => by
    obtain ⟨rs, ds, h1, h2, h3, h4, h5, h6⟩ := elems_of b o n fun i hi => h i oM
    obtain ⟨r, d, g1, g2, g3⟩ := h n oM
    refine ⟨rs ++ [r], ds ++ [d], by simp [h1], by simp [h2], fun x hx => ?_, fun i x y hx hy => ?_, fun j v hj => ?_, ?_⟩
    · rcases List.mem_append.1 hx with hx | hx
      · exact h3 x hx
      · rw [List.mem_singleton.1 hx]; exact g2
    · by_cases hn : i < n
      · rw [List.getElem?_append_left oM] at hx hy
        exact h4 i x y hx hy
      · rw [List.getElem?_append_right oM, h1] at hx
        rw [List.getElem?_append_right oM, h2] at hy
        have e : i - n = 0 := by
          have := (List.getElem?_eq_some_iff.1 hx).1
          simp at this; omega
        rw [e] at hx hy
        simp only [List.getElem?_cons_zero, Option.some.injEq] at hx hy
        subst hx; subst hy
        exact g1
    · rw [List.map_append, List.flatten_append] at hj
      rcases Nat.lt_or_ge j (n * k) with h7 | h7
      · rw [List.getElem?_append_left oM] at hj
        exact h5 j v hj
      · rw [List.getElem?_append_right oM, h6] at hj
        have := g3 (j - n * k) v (by simpa using hj)
        rw [show o + n * k + (j - n * k) = o + j by omega] at this
        exact this
    · rw [List.map_append, List.flatten_append, List.length_append, h6, Nat.add_mul]
      simp [g2]
theorem open_seqS {R D : Type} {cells : R → List Value} {k : Nat} {Is : World → R → D → Prop} {t e : TypeId} (hu : P.underlying t = some (.slice e)) (hc : P.cellsOf e = k) (hk : 0 < k) (hel : ∀ {n : Nat} {cs : List Value} {y : DataW H × List MemPlace}, DataW.trod enc P W base sp held n e cs = some y → ∃ r d, cs = cells r ∧ Is W r d ∧ (cells r).length = k)
    {fuel : Nat} {cs : List Value} {y : DataW H × List MemPlace} (h : DataW.trod enc P W base sp held fuel t cs = some y) : ∃ s rs ds, cs = [Sl.v s] ∧ SeqIs cells k Is W s rs ds := by
  obtain ⟨s, rfl, h1, h2, h3, hx⟩ := open_sliceT hu h
  by_cases h0 : s.n = 0
  · exact ⟨s, [], [], rfl, by simp [h0], by simp [h0], fun i r d h => (by simp at h), fun r h => (by cases h), h1, SeesP.nil, Nat.le_trans h1 h2, h3⟩
  · obtain ⟨⟨b, o, sp'⟩, hp, _⟩ := hx 0 oM
    have hx' : ∀ i, i < s.n → ∃ r d, Is W r d ∧ (cells r).length = k ∧ ∀ (j : Nat) (v : Value), (cells r)[j]? = some v → W.cell? (((⟨b, o, sp'⟩ : Addr).add (i * k)).add j) = some v := fun i hi => by
      obtain ⟨a', hp', cs', n, y', hcs, ht⟩ := hx i hi
      rw [hp] at hp'
      obtain rfl : a' = ⟨b, o, sp'⟩ := by injection hp'.symm
      rw [hc] at hcs
      obtain ⟨r, d, rfl, hr, hlen⟩ := hel ht
      exact ⟨r, d, hr, hlen, (cells_at hcs).2⟩
    obtain rfl : sp' = none := by
      obtain ⟨r, d, _, hl, hv⟩ := hx' 0 oM
      obtain ⟨v, hv0⟩ : ∃ v, (cells r)[0]? = some v := ⟨_, List.getElem?_eq_getElem oM⟩
      have := hv 0 v hv0
      simpa [Addr.add] using World.cell?_spot this
    obtain ⟨rs, ds, e1, e2, e3, e4, e5, _⟩ := elems_of (W := W) (Is := Is) (cells := cells) (k := k) b o s.n fun i hi => by
      obtain ⟨r, d, hr, hl, hv⟩ := hx' i hi
      refine ⟨r, d, hr, hl, fun j v hj => ?_⟩
      have := hv j v hj
      rwa [Bl, Bl] at this
    exact ⟨s, rs, ds, rfl, e1, e2, e4, e3, h1, by rw [hp]; exact SeesP.of e5, Nat.le_trans h1 h2, h3⟩
end
end Hw
end

section
namespace Go.Proofs.YtdifpjmfabhpiaaGreat
open Go Hw
theorem Sz3 : Sz Tryz.prog 3 1 := by unfold Sz; kernel_rfl
theorem Sz5 : Sz Tryz.prog 5 1 := by unfold Sz; kernel_rfl
theorem Zr5 : Zr Tryz.prog 5 (u8 0) := by unfold Zr; kernel_rfl
theorem Sz22 : Sz Tryz.prog 22 1 := by unfold Sz; kernel_rfl
theorem Sz23 : Sz Tryz.prog 23 1 := by unfold Sz; kernel_rfl
theorem Sz24 : Sz Tryz.prog 24 1 := by unfold Sz; kernel_rfl
theorem Sz25 : Sz Tryz.prog 25 1 := by unfold Sz; kernel_rfl
theorem Sz27 : Sz Tryz.prog 27 4 := by unfold Sz; kernel_rfl
theorem Sz32 : Sz Tryz.prog 32 1 := by unfold Sz; kernel_rfl
theorem Zr32 : Zr Tryz.prog 32 (i64 0) := by unfold Zr; kernel_rfl
theorem Sz48 : Sz Tryz.prog 48 1 := by unfold Sz; kernel_rfl
theorem Sz50 : Sz Tryz.prog 50 32 := by unfold Sz; kernel_rfl
theorem Zr50 : Zr Tryz.prog 50 (agg (Aa (List.replicate 32 0))) := by unfold Zr; kernel_rfl
theorem Sz51 : Sz Tryz.prog 51 1 := by unfold Sz; kernel_rfl
theorem Sz53 : Sz Tryz.prog 53 34 := by unfold Sz; kernel_rfl
theorem Zr53 : Zr Tryz.prog 53 (agg ([u64 0] ++ (Aa (List.replicate 32 0)) ++ [.slice none 0 0])) := by unfold Zr; kernel_rfl
theorem Sz55 : Sz Tryz.prog 55 35 := by unfold Sz; kernel_rfl
theorem Zr55 : Zr Tryz.prog 55 (agg (([u64 0] ++ (Aa (List.replicate 32 0)) ++ [.slice none 0 0]) ++ [.slice none 0 0])) := by unfold Zr; kernel_rfl
theorem Sz58 : Sz Tryz.prog 58 1 := by unfold Sz; kernel_rfl
theorem Zr58 : Zr Tryz.prog 58 (.slice none 0 0) := by unfold Zr; kernel_rfl
theorem Sz75 : Sz Tryz.prog 75 32 := by unfold Sz; kernel_rfl
theorem Sz76 : Sz Tryz.prog 76 64 := by unfold Sz; kernel_rfl
theorem Zr76 : Zr Tryz.prog 76 (agg (Aa (List.replicate 64 0))) := by unfold Zr; kernel_rfl
theorem Sz77 : Sz Tryz.prog 77 64 := by unfold Sz; kernel_rfl
theorem Sz79 : Sz Tryz.prog 79 131 := by unfold Sz; kernel_rfl
theorem Zr79 : Zr Tryz.prog 79 (agg ((Aa (List.replicate 32 0)) ++ [u64 0] ++ (Aa (List.replicate 32 0)) ++ [.slice none 0 0] ++ [.slice none 0 0] ++ (Aa (List.replicate 64 0)))) := by unfold Zr; kernel_rfl
theorem Sz81 : Sz Tryz.prog 81 132 := by unfold Sz; kernel_rfl
theorem Zr81 : Zr Tryz.prog 81 (agg ([u64 0] ++ [u64 0] ++ [i64 0] ++ (Aa (List.replicate 32 0)) ++ [u64 0] ++ (Aa (List.replicate 32 0)) ++ (Aa (List.replicate 64 0)))) := by unfold Zr; kernel_rfl
theorem Sz91 : Sz Tryz.prog 91 2 := by unfold Sz; kernel_rfl
theorem Sz129 : Sz Tryz.prog 129 1 := by unfold Sz; kernel_rfl
theorem Sz204 : Sz Tryz.prog 204 1 := by unfold Sz; kernel_rfl
theorem Zr204 : Zr Tryz.prog 204 (.nilFunc) := by unfold Zr; kernel_rfl
theorem Sz219 : Sz Tryz.prog 219 4 := by unfold Sz; kernel_rfl
theorem Sz252 : Sz Tryz.prog 252 8 := by unfold Sz; kernel_rfl
theorem Zr252 : Zr Tryz.prog 252 (agg (Aw (List.replicate 8 0))) := by unfold Zr; kernel_rfl
theorem Sz262 : Sz Tryz.prog 262 128 := by unfold Sz; kernel_rfl
theorem Sz267 : Sz Tryz.prog 267 80 := by unfold Sz; kernel_rfl
theorem Zr267 : Zr Tryz.prog 267 (agg (Aw (List.replicate 80 0))) := by unfold Zr; kernel_rfl
theorem Body8 : Au Tryz.prog 8 := fun _ _ => zK
theorem Body9 : Au Tryz.prog 9 := fun _ _ => zK
theorem Body10 : Au Tryz.prog 10 := fun _ _ => zK
theorem Body11 : Au Tryz.prog 11 := fun _ _ => zK
theorem Body12 : Au Tryz.prog 12 := fun _ _ => zK
theorem Body13 : Au Tryz.prog 13 := fun _ _ => zK
theorem Body14 : Au Tryz.prog 14 := fun _ _ => zK
theorem Body15 : Au Tryz.prog 15 := fun _ _ => zK
theorem Body16 : Au Tryz.prog 16 := fun _ _ => zK
theorem Body18 : Au Tryz.prog 18 := fun _ _ => zK
theorem Body19 : Au Tryz.prog 19 := fun _ _ => zK
theorem Body20 : Au Tryz.prog 20 := fun _ _ => zK
theorem Body21 : Au Tryz.prog 21 := fun _ _ => zK
theorem Body22 : Au Tryz.prog 22 := fun _ _ => zK
theorem Body24 : Au Tryz.prog 24 := fun _ _ => zK
theorem Body27 : Au Tryz.prog 27 := fun _ _ => zK
theorem Body29 : Au Tryz.prog 29 := fun _ _ => zK
theorem Body30 : Au Tryz.prog 30 := fun _ _ => zK
theorem Body31 : Au Tryz.prog 31 := fun _ _ => zK
theorem Body32 : Au Tryz.prog 32 := fun _ _ => zK
theorem Body36 : Au Tryz.prog 36 := fun _ _ => zK
theorem Body37 : Au Tryz.prog 37 := fun _ _ => zK
theorem Body38 : Au Tryz.prog 38 := fun _ _ => zK
theorem Body39 : Au Tryz.prog 39 := fun _ _ => zK
theorem Body40 : Au Tryz.prog 40 := fun _ _ => zK
theorem Body41 : Au Tryz.prog 41 := fun _ _ => zK
theorem Body42 : Au Tryz.prog 42 := fun _ _ => zK
theorem Body43 : Au Tryz.prog 43 := fun _ _ => zK
theorem Body48 : Au Tryz.prog 48 := fun _ _ => zK
theorem Body49 : Au Tryz.prog 49 := fun _ _ => zK
theorem Body50 : Au Tryz.prog 50 := fun _ _ => zK
theorem Body51 : Au Tryz.prog 51 := fun _ _ => zK
theorem Body52 : Au Tryz.prog 52 := fun _ _ => zK
theorem Body53 : Au Tryz.prog 53 := fun _ _ => zK
theorem Body54 : Au Tryz.prog 54 := fun _ _ => zK
theorem Body55 : Au Tryz.prog 55 := fun _ _ => zK
theorem Body56 : Au Tryz.prog 56 := fun _ _ => zK
theorem Body57 : Au Tryz.prog 57 := fun _ _ => zK
theorem Body58 : Au Tryz.prog 58 := fun _ _ => zK
theorem Body59 : Au Tryz.prog 59 := fun _ _ => zK
theorem Body60 : Au Tryz.prog 60 := fun _ _ => zK
theorem Body61 : Au Tryz.prog 61 := fun _ _ => zK
theorem Body62 : Au Tryz.prog 62 := fun _ _ => zK
theorem Body63 : Au Tryz.prog 63 := fun _ _ => zK
theorem Body64 : Au Tryz.prog 64 := fun _ _ => zK
theorem Body65 : Au Tryz.prog 65 := fun _ _ => zK
theorem Body66 : Au Tryz.prog 66 := fun _ _ => zK
theorem Body67 : Au Tryz.prog 67 := fun _ _ => zK
theorem Body68 : Au Tryz.prog 68 := fun _ _ => zK
theorem Body69 : Au Tryz.prog 69 := fun _ _ => zK
theorem Body70 : Au Tryz.prog 70 := fun _ _ => zK
theorem Body71 : Au Tryz.prog 71 := fun _ _ => zK
theorem Body72 : Au Tryz.prog 72 := fun _ _ => zK
theorem Body73 : Au Tryz.prog 73 := fun _ _ => zK
theorem Body74 : Au Tryz.prog 74 := fun _ _ => zK
theorem Body75 : Au Tryz.prog 75 := fun _ _ => zK
theorem Body76 : Au Tryz.prog 76 := fun _ _ => zK
theorem Body77 : Au Tryz.prog 77 := fun _ _ => zK
theorem Body78 : Au Tryz.prog 78 := fun _ _ => zK
theorem Body79 : Au Tryz.prog 79 := fun _ _ => zK
theorem Body80 : Au Tryz.prog 80 := fun _ _ => zK
theorem Body81 : Au Tryz.prog 81 := fun _ _ => zK
theorem Body82 : Au Tryz.prog 82 := fun _ _ => zK
theorem Body83 : Au Tryz.prog 83 := fun _ _ => zK
theorem Body84 : Au Tryz.prog 84 := fun _ _ => zK
theorem Body85 : Au Tryz.prog 85 := fun _ _ => zK
theorem Body86 : Au Tryz.prog 86 := fun _ _ => zK
theorem Body87 : Au Tryz.prog 87 := fun _ _ => zK
theorem Body88 : Au Tryz.prog 88 := fun _ _ => zK
theorem Body89 : Au Tryz.prog 89 := fun _ _ => zK
theorem Body90 : Au Tryz.prog 90 := fun _ _ => zK
theorem Body91 : Au Tryz.prog 91 := fun _ _ => zK
theorem Body94 : Au Tryz.prog 94 := fun _ _ => zK
theorem Body99 : Au Tryz.prog 99 := fun _ _ => zK
theorem Body100 : Au Tryz.prog 100 := fun _ _ => zK
theorem Body105 : Au Tryz.prog 105 := fun _ _ => zK
theorem Body106 : Au Tryz.prog 106 := fun _ _ => zK
theorem Body111 : Au Tryz.prog 111 := fun _ _ => zK
theorem Body112 : Au Tryz.prog 112 := fun _ _ => zK
theorem Body113 : Au Tryz.prog 113 := fun _ _ => zK
theorem Body114 : Au Tryz.prog 114 := fun _ _ => zK
theorem Body117 : Au Tryz.prog 117 := fun _ _ => zK
theorem Body120 : Au Tryz.prog 120 := fun _ _ => zK
theorem Body121 : Au Tryz.prog 121 := fun _ _ => zK
theorem Body122 : Au Tryz.prog 122 := fun _ _ => zK
theorem Body123 : Au Tryz.prog 123 := fun _ _ => zK
theorem Body124 : Au Tryz.prog 124 := fun _ _ => zK
theorem Body130 : Au Tryz.prog 130 := fun _ _ => zK
theorem Body131 : Au Tryz.prog 131 := fun _ _ => zK
theorem Body132 : Au Tryz.prog 132 := fun _ _ => zK
theorem Body133 : Au Tryz.prog 133 := fun _ _ => zK
theorem Body134 : Au Tryz.prog 134 := fun _ _ => zK
theorem Body135 : Au Tryz.prog 135 := fun _ _ => zK
theorem Body136 : Au Tryz.prog 136 := fun _ _ => zK
theorem Body137 : Au Tryz.prog 137 := fun _ _ => zK
theorem Body138 : Au Tryz.prog 138 := fun _ _ => zK
theorem Body139 : Au Tryz.prog 139 := fun _ _ => zK
theorem Body140 : Au Tryz.prog 140 := fun _ _ => zK
theorem Body141 : Au Tryz.prog 141 := fun _ _ => zK
theorem Body142 : Au Tryz.prog 142 := fun _ _ => zK
theorem Body143 : Au Tryz.prog 143 := fun _ _ => zK
theorem Body144 : Au Tryz.prog 144 := fun _ _ => zK
theorem Body145 : Au Tryz.prog 145 := fun _ _ => zK
theorem Body146 : Au Tryz.prog 146 := fun _ _ => zK
theorem Body147 : Au Tryz.prog 147 := fun _ _ => zK
theorem Body149 : Au Tryz.prog 149 := fun _ _ => zK
theorem Body153 : Au Tryz.prog 153 := fun _ _ => zK
theorem Body154 : Au Tryz.prog 154 := fun _ _ => zK
theorem Body155 : Au Tryz.prog 155 := fun _ _ => zK
theorem Body156 : Au Tryz.prog 156 := fun _ _ => zK
theorem Body157 : Au Tryz.prog 157 := fun _ _ => zK
theorem Body158 : Au Tryz.prog 158 := fun _ _ => zK
theorem Body159 : Au Tryz.prog 159 := fun _ _ => zK
theorem Body160 : Au Tryz.prog 160 := fun _ _ => zK
theorem Body161 : Au Tryz.prog 161 := fun _ _ => zK
theorem Body162 : Au Tryz.prog 162 := fun _ _ => zK
theorem Body163 : Au Tryz.prog 163 := fun _ _ => zK
theorem Body164 : Au Tryz.prog 164 := fun _ _ => zK
theorem Body165 : Au Tryz.prog 165 := fun _ _ => zK
theorem Body166 : Au Tryz.prog 166 := fun _ _ => zK
theorem Body167 : Au Tryz.prog 167 := fun _ _ => zK
theorem Body168 : Au Tryz.prog 168 := fun _ _ => zK
theorem Body169 : Au Tryz.prog 169 := fun _ _ => zK
theorem Body170 : Au Tryz.prog 170 := fun _ _ => zK
theorem Body171 : Au Tryz.prog 171 := fun _ _ => zK
theorem Body172 : Au Tryz.prog 172 := fun _ _ => zK
theorem Body173 : Au Tryz.prog 173 := fun _ _ => zK
theorem Body174 : Au Tryz.prog 174 := fun _ _ => zK
theorem Body175 : Au Tryz.prog 175 := fun _ _ => zK
theorem Body176 : Au Tryz.prog 176 := fun _ _ => zK
theorem Body177 : Au Tryz.prog 177 := fun _ _ => zK
theorem Body178 : Au Tryz.prog 178 := fun _ _ => zK
theorem Body179 : Au Tryz.prog 179 := fun _ _ => zK
theorem Body180 : Au Tryz.prog 180 := fun _ _ => zK
theorem Body181 : Au Tryz.prog 181 := fun _ _ => zK
theorem Body182 : Au Tryz.prog 182 := fun _ _ => zK
theorem Body183 : Au Tryz.prog 183 := fun _ _ => zK
theorem Body184 : Au Tryz.prog 184 := fun _ _ => zK
theorem Body185 : Au Tryz.prog 185 := fun _ _ => zK
theorem Body186 : Au Tryz.prog 186 := fun _ _ => zK
theorem Body187 : Au Tryz.prog 187 := fun _ _ => zK
theorem Body189 : Au Tryz.prog 189 := fun _ _ => zK
theorem Body190 : Au Tryz.prog 190 := fun _ _ => zK
theorem Body191 : Au Tryz.prog 191 := fun _ _ => zK
theorem Body192 : Au Tryz.prog 192 := fun _ _ => zK
theorem Body194 : Au Tryz.prog 194 := fun _ _ => zK
theorem Body197 : Au Tryz.prog 197 := fun _ _ => zK
theorem Body198 : Au Tryz.prog 198 := fun _ _ => zK
theorem Body200 : Au Tryz.prog 200 := fun _ _ => zK
theorem Body201 : Au Tryz.prog 201 := fun _ _ => zK
theorem Body202 : Au Tryz.prog 202 := fun _ _ => zK
theorem Body203 : Au Tryz.prog 203 := fun _ _ => zK
theorem Body206 : Au Tryz.prog 206 := fun _ _ => zK
theorem Body207 : Au Tryz.prog 207 := fun _ _ => zK
theorem Body213 : Au Tryz.prog 213 := fun _ _ => zK
theorem Body214 : Au Tryz.prog 214 := fun _ _ => zK
theorem Body215 : Au Tryz.prog 215 := fun _ _ => zK
theorem Body216 : Au Tryz.prog 216 := fun _ _ => zK
theorem Body217 : Au Tryz.prog 217 := fun _ _ => zK
theorem Body218 : Au Tryz.prog 218 := fun _ _ => zK
theorem Body219 : Au Tryz.prog 219 := fun _ _ => zK
theorem Body220 : Au Tryz.prog 220 := fun _ _ => zK
theorem Body221 : Au Tryz.prog 221 := fun _ _ => zK
theorem Body222 : Au Tryz.prog 222 := fun _ _ => zK
theorem Body223 : Au Tryz.prog 223 := fun _ _ => zK
theorem Body224 : Au Tryz.prog 224 := fun _ _ => zK
theorem Body225 : Au Tryz.prog 225 := fun _ _ => zK
theorem Body226 : Au Tryz.prog 226 := fun _ _ => zK
theorem Body227 : Au Tryz.prog 227 := fun _ _ => zK
theorem Body228 : Au Tryz.prog 228 := fun _ _ => zK
theorem Body229 : Au Tryz.prog 229 := fun _ _ => zK
theorem Body230 : Au Tryz.prog 230 := fun _ _ => zK
theorem Body231 : Au Tryz.prog 231 := fun _ _ => zK
theorem Body232 : Au Tryz.prog 232 := fun _ _ => zK
theorem Body233 : Au Tryz.prog 233 := fun _ _ => zK
theorem Body234 : Au Tryz.prog 234 := fun _ _ => zK
theorem Body235 : Au Tryz.prog 235 := fun _ _ => zK
theorem Body236 : Au Tryz.prog 236 := fun _ _ => zK
theorem Body237 : Au Tryz.prog 237 := fun _ _ => zK
theorem Body238 : Au Tryz.prog 238 := fun _ _ => zK
theorem Body239 : Au Tryz.prog 239 := fun _ _ => zK
theorem Body240 : Au Tryz.prog 240 := fun _ _ => zK
theorem Body241 : Au Tryz.prog 241 := fun _ _ => zK
theorem Body242 : Au Tryz.prog 242 := fun _ _ => zK
theorem Body243 : Au Tryz.prog 243 := fun _ _ => zK
theorem Body244 : Au Tryz.prog 244 := fun _ _ => zK
theorem Body245 : Au Tryz.prog 245 := fun _ _ => zK
theorem Body246 : Au Tryz.prog 246 := fun _ _ => zK
theorem Body247 : Au Tryz.prog 247 := fun _ _ => zK
theorem Body248 : Au Tryz.prog 248 := fun _ _ => zK
theorem Body249 : Au Tryz.prog 249 := fun _ _ => zK
theorem Body250 : Au Tryz.prog 250 := fun _ _ => zK
theorem Body251 : Au Tryz.prog 251 := fun _ _ => zK
theorem Body252 : Au Tryz.prog 252 := fun _ _ => zK
theorem Body253 : Au Tryz.prog 253 := fun _ _ => zK
theorem Body254 : Au Tryz.prog 254 := fun _ _ => zK
theorem Body255 : Au Tryz.prog 255 := fun _ _ => zK
theorem Body256 : Au Tryz.prog 256 := fun _ _ => zK
theorem Ba : Tryz.prog.follows .mixedOrders = true := by kernel_rfl
set_option maxRecDepth 100000
structure Vote where
  fHeight : UInt64
  fRound : UInt64
  fPhase : Int
  fValue : List UInt8
  fProof : UInt64
  fVoter : List UInt8
  fSig : List UInt8
def Vote.cells (x : Vote) : List Value := [u64 x.fHeight] ++ ([u64 x.fRound] ++ ([i64 x.fPhase] ++ (Aa x.fValue ++ ([u64 x.fProof] ++ (Aa x.fVoter ++ (Aa x.fSig))))))
structure Vote.ok (x : Vote) : Prop where
  l_fValue : x.fValue.length = 32
  l_fVoter : x.fVoter.length = 32
  l_fSig : x.fSig.length = 64
theorem Vote.length {x : Vote} (h : x.ok) : x.cells.length = 132 := by simp [Vote.cells, Aa, h.l_fValue, h.l_fVoter, h.l_fSig]
theorem Vote.isCell {x : Vote} (h : x.ok) : ∀ u ∈ x.cells, isCell u = true := by
  intro u hu
  simp only [Vote.cells, List.mem_append, List.mem_singleton, Aa, List.mem_map] at hu
  rcases hu with rfl | rfl | rfl | ⟨_, _, rfl⟩ | rfl | ⟨_, _, rfl⟩ | ⟨_, _, rfl⟩ <;> first | rfl
theorem Vote.get_fHeight {x : Vote} (h : x.ok) : x.cells[0]? = some (u64 x.fHeight) := by simp [Vote.cells, Aa, h.l_fValue, h.l_fVoter, h.l_fSig, List.getElem?_append]
theorem Vote.set_fHeight {x : Vote} (h : x.ok) (v : UInt64) : x.cells.set 0 (u64 v) = ({ x with fHeight := v }).cells := by simp [Vote.cells, Aa, h.l_fValue, h.l_fVoter, h.l_fSig, List.set_append]
theorem Vote.get_fRound {x : Vote} (h : x.ok) : x.cells[1]? = some (u64 x.fRound) := by simp [Vote.cells, Aa, h.l_fValue, h.l_fVoter, h.l_fSig, List.getElem?_append]
theorem Vote.get_fPhase {x : Vote} (h : x.ok) : x.cells[2]? = some (i64 x.fPhase) := by simp [Vote.cells, Aa, h.l_fValue, h.l_fVoter, h.l_fSig, List.getElem?_append]
theorem Vote.set_fPhase {x : Vote} (h : x.ok) (v : Int) : x.cells.set 2 (i64 v) = ({ x with fPhase := v }).cells := by simp [Vote.cells, Aa, h.l_fValue, h.l_fVoter, h.l_fSig, List.set_append]
theorem Vote.row_fValue {x : Vote} (h : x.ok) : (x.cells.drop 3).take 32 = Aa x.fValue := by simp [Vote.cells, Aa, h.l_fValue, h.l_fVoter, h.l_fSig, List.drop_append, List.take_append, List.drop_of_length_le, List.take_of_length_le]
theorem Vote.rl_fValue {x : Vote} (h : x.ok) : (Aa x.fValue).length = 32 := by simp [Aa, h.l_fValue]
theorem Vote.upd_fValue {x : Vote} (h : x.ok) (l : List UInt8) (hl : l.length = 32) : upd x.cells 3 (Aa l) = ({ x with fValue := l }).cells := by
  simp [upd, Vote.cells, Aa, h.l_fValue, h.l_fVoter, h.l_fSig, hl, List.drop_append, List.take_append, List.drop_of_length_le, List.take_of_length_le]
theorem Vote.see_fValue {x : Vote} (h : x.ok) : ∀ (j : Nat) (v : Value), (Aa x.fValue)[j]? = some v → x.cells[3 + j]? = some v := fun j v hj => by
  rw [← Vote.row_fValue h, List.getElem?_take] at hj
  split at hj
  · rwa [List.getElem?_drop] at hj
  · cases hj
theorem Vote.get_fProof {x : Vote} (h : x.ok) : x.cells[35]? = some (u64 x.fProof) := by simp [Vote.cells, Aa, h.l_fValue, h.l_fVoter, h.l_fSig, List.getElem?_append]
theorem Vote.set_fProof {x : Vote} (h : x.ok) (v : UInt64) : x.cells.set 35 (u64 v) = ({ x with fProof := v }).cells := by simp [Vote.cells, Aa, h.l_fValue, h.l_fVoter, h.l_fSig, List.set_append]
theorem Vote.row_fVoter {x : Vote} (h : x.ok) : (x.cells.drop 36).take 32 = Aa x.fVoter := by simp [Vote.cells, Aa, h.l_fValue, h.l_fVoter, h.l_fSig, List.drop_append, List.take_append, List.drop_of_length_le, List.take_of_length_le]
theorem Vote.rl_fVoter {x : Vote} (h : x.ok) : (Aa x.fVoter).length = 32 := by simp [Aa, h.l_fVoter]
theorem Vote.upd_fVoter {x : Vote} (h : x.ok) (l : List UInt8) (hl : l.length = 32) : upd x.cells 36 (Aa l) = ({ x with fVoter := l }).cells := by
  simp [upd, Vote.cells, Aa, h.l_fValue, h.l_fVoter, h.l_fSig, hl, List.drop_append, List.take_append, List.drop_of_length_le, List.take_of_length_le]
theorem Vote.see_fVoter {x : Vote} (h : x.ok) : ∀ (j : Nat) (v : Value), (Aa x.fVoter)[j]? = some v → x.cells[36 + j]? = some v := fun j v hj => by
  rw [← Vote.row_fVoter h, List.getElem?_take] at hj
  split at hj
  · rwa [List.getElem?_drop] at hj
  · cases hj
theorem Vote.row_fSig {x : Vote} (h : x.ok) : (x.cells.drop 68).take 64 = Aa x.fSig := by simp [Vote.cells, Aa, h.l_fValue, h.l_fVoter, h.l_fSig, List.drop_append, List.take_append, List.drop_of_length_le, List.take_of_length_le]
theorem Vote.rl_fSig {x : Vote} (h : x.ok) : (Aa x.fSig).length = 64 := by simp [Aa, h.l_fSig]
theorem Vote.upd_fSig {x : Vote} (h : x.ok) (l : List UInt8) (hl : l.length = 64) : upd x.cells 68 (Aa l) = ({ x with fSig := l }).cells := by
  simp [upd, Vote.cells, Aa, h.l_fValue, h.l_fVoter, h.l_fSig, hl, List.drop_append, List.take_append, List.drop_of_length_le, List.take_of_length_le]
theorem Vote.see_fSig {x : Vote} (h : x.ok) : ∀ (j : Nat) (v : Value), (Aa x.fSig)[j]? = some v → x.cells[68 + j]? = some v := fun j v hj => by
  rw [← Vote.row_fSig h, List.getElem?_take] at hj
  split at hj
  · rwa [List.getElem?_drop] at hj
  · cases hj
def Vote.zero : Vote := ⟨0, 0, 0, List.replicate 32 0, 0, List.replicate 32 0, List.replicate 64 0⟩
theorem Vote.zero_ok : Vote.zero.ok := by constructor <;> first | exact trivial | simp [Vote.zero]
theorem Vote.zr : Zr Tryz.prog 81 (agg Vote.zero.cells) := by unfold Zr; kernel_rfl
theorem Vote.eqq {x y : Vote} (hx : x.ok) (hy : y.ok) (w : World) : (Op.equalIn 10000 81 (agg x.cells) (agg y.cells)).run Tryz.prog w = .ok (decide ((x.fHeight.toNat : Int) = (y.fHeight.toNat : Int)) && (decide ((x.fRound.toNat : Int) = (y.fRound.toNat : Int)) && (decide (x.fPhase = y.fPhase) && (decide (x.fValue = y.fValue) && (decide ((x.fProof.toNat : Int) = (y.fProof.toNat : Int)) && (decide (x.fVoter = y.fVoter) && (decide (x.fSig = y.fSig) && (true)))))))) w := by
  rw [show (10000 : Nat) = 9999 + 1 from rfl, run_equalIn_struct w 9999 81 x.cells.toArray y.cells.toArray zK zK]
  exact (eqFields_step dE (run_part1 Y48.h rfl (Vote.get_fHeight hx)) (run_part1 Y48.h rfl (Vote.get_fHeight hy)) (eq_int Y48.h) (eqFields_step dE (run_part1 Y48.h rfl (Vote.get_fRound hx)) (run_part1 Y48.h rfl (Vote.get_fRound hy)) (eq_int Y48.h) (eqFields_step dE (run_part1 Y3.h rfl (Vote.get_fPhase hx)) (run_part1 Y3.h rfl (Vote.get_fPhase hy)) (eq_int Y3.h) (eqFields_step dE (run_partN Y50.h rfl Sz50 (Vote.row_fValue hx)) (run_partN Y50.h rfl Sz50 (Vote.row_fValue hy)) (eq_bytesA Y50.h Y5.h Sz5 hx.l_fValue hy.l_fValue) (eqFields_step dE (run_part1 Y48.h rfl (Vote.get_fProof hx)) (run_part1 Y48.h rfl (Vote.get_fProof hy)) (eq_int Y48.h) (eqFields_step dE (run_partN Y75.h rfl Sz75 (Vote.row_fVoter hx)) (run_partN Y75.h rfl Sz75 (Vote.row_fVoter hy)) (eq_bytesA Y75.h Y5.h Sz5 hx.l_fVoter hy.l_fVoter) (eqFields_step dE (run_partN Y77.h rfl Sz77 (Vote.row_fSig hx)) (run_partN Y77.h rfl Sz77 (Vote.row_fSig hy)) (eq_bytesA Y77.h Y5.h Sz5 hx.l_fSig hy.l_fSig) eqFields_nil)))))))
theorem Vote.eq_run {x y : Vote} (hx : x.ok) (hy : y.ok) (w : World) [Decidable (x = y)] : (Op.equalIn 10000 81 (agg x.cells) (agg y.cells)).run Tryz.prog w = .ok (decide (x = y)) w := by
  rw [Vote.eqq hx hy]
  congr 1
  obtain ⟨x0, x1, x2, x3, x4, x5, x6⟩ := x
  obtain ⟨y0, y1, y2, y3, y4, y5, y6⟩ := y
  rw [Bool.eq_iff_iff]
  simp only [Bool.and_eq_true, decide_eq_true_eq, Vote.mk.injEq, and_true]
  have eu : ∀ a b : UInt64, ((a.toNat : Int) = (b.toNat : Int)) ↔ a = b := fun a b => ⟨fun h => UInt64.toNat_inj.1 oM, fun h => by rw [h]⟩
  simp only [eu]
theorem Vote.eq_runC {x y : Vote} (hx : x.ok) (hy : y.ok) (w : World) : (Op.equalIn 10000 81 (agg x.cells) (agg y.cells)).run Tryz.prog w = .ok (@decide (x = y) (Classical.propDecidable (x = y))) w := @Vote.eq_run x y hx hy w (Classical.propDecidable (x = y))
theorem Vote.eg : Tryz.prog.eqGuardType Tryz.prog.depth 81 = false := by kernel_rfl
structure Block where
  fWriter : List UInt8
  fSeq : UInt64
  fPrev : List UInt8
  fLinks : Sl
  fData : Sl
  fSig : List UInt8
def Block.cells (x : Block) : List Value := Aa x.fWriter ++ ([u64 x.fSeq] ++ (Aa x.fPrev ++ ([x.fLinks.v] ++ ([x.fData.v] ++ (Aa x.fSig)))))
structure Block.ok (x : Block) : Prop where
  l_fWriter : x.fWriter.length = 32
  l_fPrev : x.fPrev.length = 32
  l_fSig : x.fSig.length = 64
theorem Block.length {x : Block} (h : x.ok) : x.cells.length = 131 := by simp [Block.cells, Aa, h.l_fWriter, h.l_fPrev, h.l_fSig]
theorem Block.isCell {x : Block} (h : x.ok) : ∀ u ∈ x.cells, isCell u = true := by
  intro u hu
  simp only [Block.cells, List.mem_append, List.mem_singleton, Aa, List.mem_map] at hu
  rcases hu with ⟨_, _, rfl⟩ | rfl | ⟨_, _, rfl⟩ | rfl | rfl | ⟨_, _, rfl⟩ <;> first | rfl
theorem Block.row_fWriter {x : Block} (h : x.ok) : (x.cells.drop 0).take 32 = Aa x.fWriter := by simp [Block.cells, Aa, h.l_fWriter, h.l_fPrev, h.l_fSig, List.drop_append, List.take_append, List.drop_of_length_le, List.take_of_length_le]
theorem Block.rl_fWriter {x : Block} (h : x.ok) : (Aa x.fWriter).length = 32 := by simp [Aa, h.l_fWriter]
theorem Block.upd_fWriter {x : Block} (h : x.ok) (l : List UInt8) (hl : l.length = 32) : upd x.cells 0 (Aa l) = ({ x with fWriter := l }).cells := by
  simp [upd, Block.cells, Aa, h.l_fWriter, h.l_fPrev, h.l_fSig, hl, List.drop_append, List.take_append, List.drop_of_length_le, List.take_of_length_le]
theorem Block.see_fWriter {x : Block} (h : x.ok) : ∀ (j : Nat) (v : Value), (Aa x.fWriter)[j]? = some v → x.cells[0 + j]? = some v := fun j v hj => by
  rw [← Block.row_fWriter h, List.getElem?_take] at hj
  split at hj
  · rwa [List.getElem?_drop] at hj
  · cases hj
theorem Block.get_fSeq {x : Block} (h : x.ok) : x.cells[32]? = some (u64 x.fSeq) := by simp [Block.cells, Aa, h.l_fWriter, h.l_fPrev, h.l_fSig, List.getElem?_append]
theorem Block.set_fSeq {x : Block} (h : x.ok) (v : UInt64) : x.cells.set 32 (u64 v) = ({ x with fSeq := v }).cells := by simp [Block.cells, Aa, h.l_fWriter, h.l_fPrev, h.l_fSig, List.set_append]
theorem Block.row_fPrev {x : Block} (h : x.ok) : (x.cells.drop 33).take 32 = Aa x.fPrev := by simp [Block.cells, Aa, h.l_fWriter, h.l_fPrev, h.l_fSig, List.drop_append, List.take_append, List.drop_of_length_le, List.take_of_length_le]
theorem Block.rl_fPrev {x : Block} (h : x.ok) : (Aa x.fPrev).length = 32 := by simp [Aa, h.l_fPrev]
theorem Block.upd_fPrev {x : Block} (h : x.ok) (l : List UInt8) (hl : l.length = 32) : upd x.cells 33 (Aa l) = ({ x with fPrev := l }).cells := by
  simp [upd, Block.cells, Aa, h.l_fWriter, h.l_fPrev, h.l_fSig, hl, List.drop_append, List.take_append, List.drop_of_length_le, List.take_of_length_le]
theorem Block.see_fPrev {x : Block} (h : x.ok) : ∀ (j : Nat) (v : Value), (Aa x.fPrev)[j]? = some v → x.cells[33 + j]? = some v := fun j v hj => by
  rw [← Block.row_fPrev h, List.getElem?_take] at hj
  split at hj
  · rwa [List.getElem?_drop] at hj
  · cases hj
theorem Block.get_fLinks {x : Block} (h : x.ok) : x.cells[65]? = some (x.fLinks.v) := by simp [Block.cells, Aa, h.l_fWriter, h.l_fPrev, h.l_fSig, List.getElem?_append]
theorem Block.set_fLinks {x : Block} (h : x.ok) (v : Sl) : x.cells.set 65 (v.v) = ({ x with fLinks := v }).cells := by simp [Block.cells, Aa, h.l_fWriter, h.l_fPrev, h.l_fSig, List.set_append]
theorem Block.setS_fLinks {x : Block} (h : x.ok) (p : Option Addr) (n c : Nat) : x.cells.set 65 (.slice p n c) = ({ x with fLinks := ⟨p, n, c⟩ }).cells := Block.set_fLinks h ⟨p, n, c⟩
theorem Block.get_fData {x : Block} (h : x.ok) : x.cells[66]? = some (x.fData.v) := by simp [Block.cells, Aa, h.l_fWriter, h.l_fPrev, h.l_fSig, List.getElem?_append]
theorem Block.set_fData {x : Block} (h : x.ok) (v : Sl) : x.cells.set 66 (v.v) = ({ x with fData := v }).cells := by simp [Block.cells, Aa, h.l_fWriter, h.l_fPrev, h.l_fSig, List.set_append]
theorem Block.setS_fData {x : Block} (h : x.ok) (p : Option Addr) (n c : Nat) : x.cells.set 66 (.slice p n c) = ({ x with fData := ⟨p, n, c⟩ }).cells := Block.set_fData h ⟨p, n, c⟩
theorem Block.row_fSig {x : Block} (h : x.ok) : (x.cells.drop 67).take 64 = Aa x.fSig := by simp [Block.cells, Aa, h.l_fWriter, h.l_fPrev, h.l_fSig, List.drop_append, List.take_append, List.drop_of_length_le, List.take_of_length_le]
theorem Block.rl_fSig {x : Block} (h : x.ok) : (Aa x.fSig).length = 64 := by simp [Aa, h.l_fSig]
theorem Block.upd_fSig {x : Block} (h : x.ok) (l : List UInt8) (hl : l.length = 64) : upd x.cells 67 (Aa l) = ({ x with fSig := l }).cells := by
  simp [upd, Block.cells, Aa, h.l_fWriter, h.l_fPrev, h.l_fSig, hl, List.drop_append, List.take_append, List.drop_of_length_le, List.take_of_length_le]
theorem Block.see_fSig {x : Block} (h : x.ok) : ∀ (j : Nat) (v : Value), (Aa x.fSig)[j]? = some v → x.cells[67 + j]? = some v := fun j v hj => by
  rw [← Block.row_fSig h, List.getElem?_take] at hj
  split at hj
  · rwa [List.getElem?_drop] at hj
  · cases hj
def Block.zero : Block := ⟨List.replicate 32 0, 0, List.replicate 32 0, Sl.nil, Sl.nil, List.replicate 64 0⟩
theorem Block.zero_ok : Block.zero.ok := by constructor <;> first | exact trivial | simp [Block.zero]
theorem Block.zr : Zr Tryz.prog 79 (agg Block.zero.cells) := by unfold Zr; kernel_rfl
structure Reader where
  fSelf : Value
  fB : Sl
  fAt : Int
  fErr : Int
def Reader.cells (x : Reader) : List Value := [x.fSelf] ++ ([x.fB.v] ++ ([i64 x.fAt] ++ ([i64 x.fErr])))
structure Reader.ok (x : Reader) : Prop where
  c_fSelf : isCell x.fSelf = true
theorem Reader.length {x : Reader} (h : x.ok) : x.cells.length = 4 := by simp [Reader.cells, Aa]
theorem Reader.isCell {x : Reader} (h : x.ok) : ∀ u ∈ x.cells, isCell u = true := by
  intro u hu
  simp only [Reader.cells, List.mem_append, List.mem_singleton, Aa, List.mem_map] at hu
  rcases hu with rfl | rfl | rfl | rfl <;> first | rfl | exact h.c_fSelf
theorem Reader.set_fSelf {x : Reader} (h : x.ok) (v : Value) : x.cells.set 0 (v) = ({ x with fSelf := v }).cells := by simp [Reader.cells, Aa, List.set_append]
theorem Reader.get_fB {x : Reader} (h : x.ok) : x.cells[1]? = some (x.fB.v) := by simp [Reader.cells, Aa, List.getElem?_append]
theorem Reader.set_fB {x : Reader} (h : x.ok) (v : Sl) : x.cells.set 1 (v.v) = ({ x with fB := v }).cells := by simp [Reader.cells, Aa, List.set_append]
theorem Reader.setS_fB {x : Reader} (h : x.ok) (p : Option Addr) (n c : Nat) : x.cells.set 1 (.slice p n c) = ({ x with fB := ⟨p, n, c⟩ }).cells := Reader.set_fB h ⟨p, n, c⟩
theorem Reader.get_fAt {x : Reader} (h : x.ok) : x.cells[2]? = some (i64 x.fAt) := by simp [Reader.cells, Aa, List.getElem?_append]
theorem Reader.set_fAt {x : Reader} (h : x.ok) (v : Int) : x.cells.set 2 (i64 v) = ({ x with fAt := v }).cells := by simp [Reader.cells, Aa, List.set_append]
theorem Reader.get_fErr {x : Reader} (h : x.ok) : x.cells[3]? = some (i64 x.fErr) := by simp [Reader.cells, Aa, List.getElem?_append]
theorem Reader.set_fErr {x : Reader} (h : x.ok) (v : Int) : x.cells.set 3 (i64 v) = ({ x with fErr := v }).cells := by simp [Reader.cells, Aa, List.set_append]
def Reader.zero : Reader := ⟨(.pointer none), Sl.nil, 0, 0⟩
theorem Reader.zero_ok : Reader.zero.ok := by constructor <;> first | exact trivial | simp [Reader.zero, Hw.isCell]
theorem Reader.zr : Zr Tryz.prog 219 (agg Reader.zero.cells) := by unfold Zr; kernel_rfl
structure Cut where
  fHeight : UInt64
  fPrev : List UInt8
  fHeads : Sl
def Cut.cells (x : Cut) : List Value := [u64 x.fHeight] ++ (Aa x.fPrev ++ ([x.fHeads.v]))
structure Cut.ok (x : Cut) : Prop where
  l_fPrev : x.fPrev.length = 32
theorem Cut.length {x : Cut} (h : x.ok) : x.cells.length = 34 := by simp [Cut.cells, Aa, h.l_fPrev]
theorem Cut.isCell {x : Cut} (h : x.ok) : ∀ u ∈ x.cells, isCell u = true := by
  intro u hu
  simp only [Cut.cells, List.mem_append, List.mem_singleton, Aa, List.mem_map] at hu
  rcases hu with rfl | ⟨_, _, rfl⟩ | rfl <;> first | rfl
theorem Cut.get_fHeight {x : Cut} (h : x.ok) : x.cells[0]? = some (u64 x.fHeight) := by simp [Cut.cells, Aa, h.l_fPrev, List.getElem?_append]
theorem Cut.set_fHeight {x : Cut} (h : x.ok) (v : UInt64) : x.cells.set 0 (u64 v) = ({ x with fHeight := v }).cells := by simp [Cut.cells, Aa, h.l_fPrev, List.set_append]
theorem Cut.row_fPrev {x : Cut} (h : x.ok) : (x.cells.drop 1).take 32 = Aa x.fPrev := by simp [Cut.cells, Aa, h.l_fPrev, List.drop_append, List.take_append, List.drop_of_length_le, List.take_of_length_le]
theorem Cut.rl_fPrev {x : Cut} (h : x.ok) : (Aa x.fPrev).length = 32 := by simp [Aa, h.l_fPrev]
theorem Cut.upd_fPrev {x : Cut} (h : x.ok) (l : List UInt8) (hl : l.length = 32) : upd x.cells 1 (Aa l) = ({ x with fPrev := l }).cells := by
  simp [upd, Cut.cells, Aa, h.l_fPrev, hl, List.drop_append, List.take_append, List.drop_of_length_le, List.take_of_length_le]
theorem Cut.see_fPrev {x : Cut} (h : x.ok) : ∀ (j : Nat) (v : Value), (Aa x.fPrev)[j]? = some v → x.cells[1 + j]? = some v := fun j v hj => by
  rw [← Cut.row_fPrev h, List.getElem?_take] at hj
  split at hj
  · rwa [List.getElem?_drop] at hj
  · cases hj
theorem Cut.get_fHeads {x : Cut} (h : x.ok) : x.cells[33]? = some (x.fHeads.v) := by simp [Cut.cells, Aa, h.l_fPrev, List.getElem?_append]
theorem Cut.set_fHeads {x : Cut} (h : x.ok) (v : Sl) : x.cells.set 33 (v.v) = ({ x with fHeads := v }).cells := by simp [Cut.cells, Aa, h.l_fPrev, List.set_append]
theorem Cut.setS_fHeads {x : Cut} (h : x.ok) (p : Option Addr) (n c : Nat) : x.cells.set 33 (.slice p n c) = ({ x with fHeads := ⟨p, n, c⟩ }).cells := Cut.set_fHeads h ⟨p, n, c⟩
def Cut.zero : Cut := ⟨0, List.replicate 32 0, Sl.nil⟩
theorem Cut.zero_ok : Cut.zero.ok := by constructor <;> first | exact trivial | simp [Cut.zero]
theorem Cut.zr : Zr Tryz.prog 53 (agg Cut.zero.cells) := by unfold Zr; kernel_rfl
structure Cert where
  fCut : Cut
  fVotes : Sl
def Cert.cells (x : Cert) : List Value := x.fCut.cells ++ ([x.fVotes.v])
structure Cert.ok (x : Cert) : Prop where
  o_fCut : x.fCut.ok
theorem Cert.length {x : Cert} (h : x.ok) : x.cells.length = 35 := by simp [Cert.cells, Aa, Cut.length h.o_fCut]
theorem Cert.isCell {x : Cert} (h : x.ok) : ∀ u ∈ x.cells, isCell u = true := by
  intro u hu
  simp only [Cert.cells, List.mem_append, List.mem_singleton, Aa, List.mem_map] at hu
  rcases hu with hu | rfl <;> first | rfl | exact Cut.isCell h.o_fCut u hu
theorem Cert.row_fCut {x : Cert} (h : x.ok) : (x.cells.drop 0).take 34 = x.fCut.cells := by simp [Cert.cells, Aa, Cut.length h.o_fCut, List.drop_append, List.take_append, List.drop_of_length_le, List.take_of_length_le]
theorem Cert.rl_fCut {x : Cert} (h : x.ok) : (x.fCut.cells).length = 34 := by simp [Aa, Cut.length h.o_fCut]
theorem Cert.see_fCut {x : Cert} (h : x.ok) : ∀ (j : Nat) (v : Value), (x.fCut.cells)[j]? = some v → x.cells[0 + j]? = some v := fun j v hj => by
  rw [← Cert.row_fCut h, List.getElem?_take] at hj
  split at hj
  · rwa [List.getElem?_drop] at hj
  · cases hj
theorem Cert.get_fVotes {x : Cert} (h : x.ok) : x.cells[34]? = some (x.fVotes.v) := by simp [Cert.cells, Aa, Cut.length h.o_fCut, List.getElem?_append]
theorem Cert.set_fVotes {x : Cert} (h : x.ok) (v : Sl) : x.cells.set 34 (v.v) = ({ x with fVotes := v }).cells := by simp [Cert.cells, Aa, Cut.length h.o_fCut, List.set_append]
theorem Cert.setS_fVotes {x : Cert} (h : x.ok) (p : Option Addr) (n c : Nat) : x.cells.set 34 (.slice p n c) = ({ x with fVotes := ⟨p, n, c⟩ }).cells := Cert.set_fVotes h ⟨p, n, c⟩
def Cert.zero : Cert := ⟨Cut.zero, Sl.nil⟩
theorem Cert.zero_ok : Cert.zero.ok := by constructor <;> first | exact Cut.zero_ok | simp [Cert.zero]
theorem Cert.zr : Zr Tryz.prog 55 (agg Cert.zero.cells) := by unfold Zr; kernel_rfl
structure Msg where
  fKind : Int
  fHeight : UInt64
  fHeads : Sl
  fWant : Sl
  fBlocks : Sl
  fVotes : Sl
  fCuts : Sl
  fCerts : Sl
def Msg.cells (x : Msg) : List Value := [i64 x.fKind] ++ ([u64 x.fHeight] ++ ([x.fHeads.v] ++ ([x.fWant.v] ++ ([x.fBlocks.v] ++ ([x.fVotes.v] ++ ([x.fCuts.v] ++ ([x.fCerts.v])))))))
structure Msg.ok (x : Msg) : Prop where
  t : True
theorem Msg.length {x : Msg} (h : x.ok) : x.cells.length = 8 := by simp [Msg.cells, Aa]
theorem Msg.isCell {x : Msg} (h : x.ok) : ∀ u ∈ x.cells, isCell u = true := by
  intro u hu
  simp only [Msg.cells, List.mem_append, List.mem_singleton, Aa, List.mem_map] at hu
  rcases hu with rfl | rfl | rfl | rfl | rfl | rfl | rfl | rfl <;> first | rfl
theorem Msg.get_fKind {x : Msg} (h : x.ok) : x.cells[0]? = some (i64 x.fKind) := by simp [Msg.cells, Aa, List.getElem?_append]
theorem Msg.get_fHeight {x : Msg} (h : x.ok) : x.cells[1]? = some (u64 x.fHeight) := by simp [Msg.cells, Aa, List.getElem?_append]
theorem Msg.set_fHeight {x : Msg} (h : x.ok) (v : UInt64) : x.cells.set 1 (u64 v) = ({ x with fHeight := v }).cells := by simp [Msg.cells, Aa, List.set_append]
theorem Msg.get_fHeads {x : Msg} (h : x.ok) : x.cells[2]? = some (x.fHeads.v) := by simp [Msg.cells, Aa, List.getElem?_append]
theorem Msg.set_fHeads {x : Msg} (h : x.ok) (v : Sl) : x.cells.set 2 (v.v) = ({ x with fHeads := v }).cells := by simp [Msg.cells, Aa, List.set_append]
theorem Msg.setS_fHeads {x : Msg} (h : x.ok) (p : Option Addr) (n c : Nat) : x.cells.set 2 (.slice p n c) = ({ x with fHeads := ⟨p, n, c⟩ }).cells := Msg.set_fHeads h ⟨p, n, c⟩
theorem Msg.get_fBlocks {x : Msg} (h : x.ok) : x.cells[4]? = some (x.fBlocks.v) := by simp [Msg.cells, Aa, List.getElem?_append]
theorem Msg.set_fBlocks {x : Msg} (h : x.ok) (v : Sl) : x.cells.set 4 (v.v) = ({ x with fBlocks := v }).cells := by simp [Msg.cells, Aa, List.set_append]
theorem Msg.setS_fBlocks {x : Msg} (h : x.ok) (p : Option Addr) (n c : Nat) : x.cells.set 4 (.slice p n c) = ({ x with fBlocks := ⟨p, n, c⟩ }).cells := Msg.set_fBlocks h ⟨p, n, c⟩
theorem Msg.get_fVotes {x : Msg} (h : x.ok) : x.cells[5]? = some (x.fVotes.v) := by simp [Msg.cells, Aa, List.getElem?_append]
theorem Msg.set_fVotes {x : Msg} (h : x.ok) (v : Sl) : x.cells.set 5 (v.v) = ({ x with fVotes := v }).cells := by simp [Msg.cells, Aa, List.set_append]
theorem Msg.setS_fVotes {x : Msg} (h : x.ok) (p : Option Addr) (n c : Nat) : x.cells.set 5 (.slice p n c) = ({ x with fVotes := ⟨p, n, c⟩ }).cells := Msg.set_fVotes h ⟨p, n, c⟩
theorem Msg.get_fCuts {x : Msg} (h : x.ok) : x.cells[6]? = some (x.fCuts.v) := by simp [Msg.cells, Aa, List.getElem?_append]
theorem Msg.set_fCuts {x : Msg} (h : x.ok) (v : Sl) : x.cells.set 6 (v.v) = ({ x with fCuts := v }).cells := by simp [Msg.cells, Aa, List.set_append]
theorem Msg.setS_fCuts {x : Msg} (h : x.ok) (p : Option Addr) (n c : Nat) : x.cells.set 6 (.slice p n c) = ({ x with fCuts := ⟨p, n, c⟩ }).cells := Msg.set_fCuts h ⟨p, n, c⟩
theorem Msg.get_fCerts {x : Msg} (h : x.ok) : x.cells[7]? = some (x.fCerts.v) := by simp [Msg.cells, Aa, List.getElem?_append]
theorem Msg.set_fCerts {x : Msg} (h : x.ok) (v : Sl) : x.cells.set 7 (v.v) = ({ x with fCerts := v }).cells := by simp [Msg.cells, Aa, List.set_append]
theorem Msg.setS_fCerts {x : Msg} (h : x.ok) (p : Option Addr) (n c : Nat) : x.cells.set 7 (.slice p n c) = ({ x with fCerts := ⟨p, n, c⟩ }).cells := Msg.set_fCerts h ⟨p, n, c⟩
def Msg.zero : Msg := ⟨0, 0, Sl.nil, Sl.nil, Sl.nil, Sl.nil, Sl.nil, Sl.nil⟩
theorem Msg.zero_ok : Msg.zero.ok := by constructor <;> first | exact trivial | simp [Msg.zero]
theorem Msg.zr : Zr Tryz.prog 57 (agg Msg.zero.cells) := by unfold Zr; kernel_rfl
structure Record where
  fKind : UInt8
  fData : Sl
def Record.cells (x : Record) : List Value := [u8 x.fKind] ++ ([x.fData.v])
structure Record.ok (x : Record) : Prop where
  t : True
theorem Record.length {x : Record} (h : x.ok) : x.cells.length = 2 := by simp [Record.cells, Aa]
theorem Record.isCell {x : Record} (h : x.ok) : ∀ u ∈ x.cells, isCell u = true := by
  intro u hu
  simp only [Record.cells, List.mem_append, List.mem_singleton, Aa, List.mem_map] at hu
  rcases hu with rfl | rfl <;> first | rfl
theorem Record.get_fKind {x : Record} (h : x.ok) : x.cells[0]? = some (u8 x.fKind) := by simp [Record.cells, Aa, List.getElem?_append]
theorem Record.get_fData {x : Record} (h : x.ok) : x.cells[1]? = some (x.fData.v) := by simp [Record.cells, Aa, List.getElem?_append]
theorem Record.set_fData {x : Record} (h : x.ok) (v : Sl) : x.cells.set 1 (v.v) = ({ x with fData := v }).cells := by simp [Record.cells, Aa, List.set_append]
theorem Record.setS_fData {x : Record} (h : x.ok) (p : Option Addr) (n c : Nat) : x.cells.set 1 (.slice p n c) = ({ x with fData := ⟨p, n, c⟩ }).cells := Record.set_fData h ⟨p, n, c⟩
def Record.zero : Record := ⟨0, Sl.nil⟩
theorem Record.zero_ok : Record.zero.ok := by constructor <;> first | exact trivial | simp [Record.zero]
theorem Record.zr : Zr Tryz.prog 91 (agg Record.zero.cells) := by unfold Zr; kernel_rfl
structure Kept where
  fBlocks : Sl
  fCerts : Sl
  fVotes : Sl
  fCuts : Sl
def Kept.cells (x : Kept) : List Value := [x.fBlocks.v] ++ ([x.fCerts.v] ++ ([x.fVotes.v] ++ ([x.fCuts.v])))
structure Kept.ok (x : Kept) : Prop where
  t : True
theorem Kept.length {x : Kept} (h : x.ok) : x.cells.length = 4 := by simp [Kept.cells, Aa]
theorem Kept.isCell {x : Kept} (h : x.ok) : ∀ u ∈ x.cells, isCell u = true := by
  intro u hu
  simp only [Kept.cells, List.mem_append, List.mem_singleton, Aa, List.mem_map] at hu
  rcases hu with rfl | rfl | rfl | rfl <;> first | rfl
theorem Kept.get_fBlocks {x : Kept} (h : x.ok) : x.cells[0]? = some (x.fBlocks.v) := by simp [Kept.cells, Aa, List.getElem?_append]
theorem Kept.set_fBlocks {x : Kept} (h : x.ok) (v : Sl) : x.cells.set 0 (v.v) = ({ x with fBlocks := v }).cells := by simp [Kept.cells, Aa, List.set_append]
theorem Kept.setS_fBlocks {x : Kept} (h : x.ok) (p : Option Addr) (n c : Nat) : x.cells.set 0 (.slice p n c) = ({ x with fBlocks := ⟨p, n, c⟩ }).cells := Kept.set_fBlocks h ⟨p, n, c⟩
theorem Kept.get_fCerts {x : Kept} (h : x.ok) : x.cells[1]? = some (x.fCerts.v) := by simp [Kept.cells, Aa, List.getElem?_append]
theorem Kept.set_fCerts {x : Kept} (h : x.ok) (v : Sl) : x.cells.set 1 (v.v) = ({ x with fCerts := v }).cells := by simp [Kept.cells, Aa, List.set_append]
theorem Kept.setS_fCerts {x : Kept} (h : x.ok) (p : Option Addr) (n c : Nat) : x.cells.set 1 (.slice p n c) = ({ x with fCerts := ⟨p, n, c⟩ }).cells := Kept.set_fCerts h ⟨p, n, c⟩
theorem Kept.get_fVotes {x : Kept} (h : x.ok) : x.cells[2]? = some (x.fVotes.v) := by simp [Kept.cells, Aa, List.getElem?_append]
theorem Kept.set_fVotes {x : Kept} (h : x.ok) (v : Sl) : x.cells.set 2 (v.v) = ({ x with fVotes := v }).cells := by simp [Kept.cells, Aa, List.set_append]
theorem Kept.setS_fVotes {x : Kept} (h : x.ok) (p : Option Addr) (n c : Nat) : x.cells.set 2 (.slice p n c) = ({ x with fVotes := ⟨p, n, c⟩ }).cells := Kept.set_fVotes h ⟨p, n, c⟩
theorem Kept.get_fCuts {x : Kept} (h : x.ok) : x.cells[3]? = some (x.fCuts.v) := by simp [Kept.cells, Aa, List.getElem?_append]
theorem Kept.set_fCuts {x : Kept} (h : x.ok) (v : Sl) : x.cells.set 3 (v.v) = ({ x with fCuts := v }).cells := by simp [Kept.cells, Aa, List.set_append]
theorem Kept.setS_fCuts {x : Kept} (h : x.ok) (p : Option Addr) (n c : Nat) : x.cells.set 3 (.slice p n c) = ({ x with fCuts := ⟨p, n, c⟩ }).cells := Kept.set_fCuts h ⟨p, n, c⟩
def Kept.zero : Kept := ⟨Sl.nil, Sl.nil, Sl.nil, Sl.nil⟩
theorem Kept.zero_ok : Kept.zero.ok := by constructor <;> first | exact trivial | simp [Kept.zero]
theorem Kept.zr : Zr Tryz.prog 27 (agg Kept.zero.cells) := by unfold Zr; kernel_rfl
set_option maxRecDepth 100000
section
variable {H : Type} {enc : TypeId × Value → H} {W : World} {base : Nat} {sp : Nat → Bool} {held : Bool}
theorem Vote.openT {fuel : Nat} {cs : List Value} {y : DataW H × List MemPlace} (h : DataW.trod enc Tryz.prog W base sp held fuel 81 cs = some y) : ∃ x : Vote, x.ok ∧ cs = x.cells ∧ ((Lit.int .i64 x.fPhase).wf = true) := by
  obtain ⟨xs, n, _, _, h4, h5, h6⟩ := DataW.trod_struct Y81.h h
  rw [show Tryz.prog.cellsOf 81 = 132 by kernel_rfl] at h4
  have c0 : Tryz.prog.cellsOf 48 = 1 := by kernel_rfl
  have c1 : Tryz.prog.cellsOf 48 = 1 := by kernel_rfl
  have c2 : Tryz.prog.cellsOf 3 = 1 := by kernel_rfl
  have c3 : Tryz.prog.cellsOf 50 = 32 := by kernel_rfl
  have c4 : Tryz.prog.cellsOf 48 = 1 := by kernel_rfl
  have c5 : Tryz.prog.cellsOf 75 = 32 := by kernel_rfl
  have c6 : Tryz.prog.cellsOf 77 = 64 := by kernel_rfl
  have g0 : DataW.trod enc Tryz.prog W base sp held n 48 ((cs.drop 0).take (Tryz.prog.cellsOf 48)) = some (xs[0]'(by rw [h5]; decide)) := by rw [← List.getElem?_eq_getElem]; exact h6 0 _ rfl
  rw [c0] at g0
  obtain ⟨a0, e0, _, w0⟩ := DataW.trod_int Y48.h g0
  obtain ⟨v0, rfl⟩ := Hw.u64_back w0
  have g1 : DataW.trod enc Tryz.prog W base sp held n 48 ((cs.drop 1).take (Tryz.prog.cellsOf 48)) = some (xs[1]'(by rw [h5]; decide)) := by rw [← List.getElem?_eq_getElem]; exact h6 1 _ rfl
  rw [c1] at g1
  obtain ⟨a1, e1, _, w1⟩ := DataW.trod_int Y48.h g1
  obtain ⟨v1, rfl⟩ := Hw.u64_back w1
  have g2 : DataW.trod enc Tryz.prog W base sp held n 3 ((cs.drop 2).take (Tryz.prog.cellsOf 3)) = some (xs[2]'(by rw [h5]; decide)) := by rw [← List.getElem?_eq_getElem]; exact h6 2 _ rfl
  rw [c2] at g2
  obtain ⟨v2, e2, _, w2⟩ := DataW.trod_int Y3.h g2
  have g3 : DataW.trod enc Tryz.prog W base sp held n 50 ((cs.drop 3).take (Tryz.prog.cellsOf 50)) = some (xs[3]'(by rw [h5]; decide)) := by rw [← List.getElem?_eq_getElem]; exact h6 3 _ rfl
  rw [c3] at g3
  obtain ⟨v3, e3, l3⟩ := Hw.open_bytesT Y50.h Y5.h zK zK g3
  have g4 : DataW.trod enc Tryz.prog W base sp held n 48 ((cs.drop 35).take (Tryz.prog.cellsOf 48)) = some (xs[4]'(by rw [h5]; decide)) := by rw [← List.getElem?_eq_getElem]; exact h6 4 _ rfl
  rw [c4] at g4
  obtain ⟨a4, e4, _, w4⟩ := DataW.trod_int Y48.h g4
  obtain ⟨v4, rfl⟩ := Hw.u64_back w4
  have g5 : DataW.trod enc Tryz.prog W base sp held n 75 ((cs.drop 36).take (Tryz.prog.cellsOf 75)) = some (xs[5]'(by rw [h5]; decide)) := by rw [← List.getElem?_eq_getElem]; exact h6 5 _ rfl
  rw [c5] at g5
  obtain ⟨v5, e5, l5⟩ := Hw.open_bytesT Y75.h Y5.h zK zK g5
  have g6 : DataW.trod enc Tryz.prog W base sp held n 77 ((cs.drop 68).take (Tryz.prog.cellsOf 77)) = some (xs[6]'(by rw [h5]; decide)) := by rw [← List.getElem?_eq_getElem]; exact h6 6 _ rfl
  rw [c6] at g6
  obtain ⟨v6, e6, l6⟩ := Hw.open_bytesT Y77.h Y5.h zK zK g6
  refine ⟨⟨v0, v1, v2, v3, v4, v5, v6⟩, ⟨l3, l5, l6⟩, ?_, w2⟩
  rw [← List.drop_zero (l := cs)]
  exact (Hw.cat 1 e0 rfl (Hw.cat 2 e1 rfl (Hw.cat 3 e2 rfl (Hw.cat 35 e3 rfl (Hw.cat 36 e4 rfl (Hw.cat 68 e5 rfl (Hw.cat_last e6 h4)))))))
end
section
variable {H : Type} {enc : TypeId × Value → H} {W : World} {base : Nat} {sp : Nat → Bool} {held : Bool}
theorem Block.openT {fuel : Nat} {cs : List Value} {y : DataW H × List MemPlace} (h : DataW.trod enc Tryz.prog W base sp held fuel 79 cs = some y) : ∃ x : Block, x.ok ∧ cs = x.cells ∧ (∃ ls, Hw.RowsAt W x.fLinks 32 ls) ∧ (∃ l, Hw.BytesAt W x.fData l) := by
  obtain ⟨xs, n, _, _, h4, h5, h6⟩ := DataW.trod_struct Y79.h h
  rw [show Tryz.prog.cellsOf 79 = 131 by kernel_rfl] at h4
  have c0 : Tryz.prog.cellsOf 75 = 32 := by kernel_rfl
  have c1 : Tryz.prog.cellsOf 48 = 1 := by kernel_rfl
  have c2 : Tryz.prog.cellsOf 50 = 32 := by kernel_rfl
  have c3 : Tryz.prog.cellsOf 51 = 1 := by kernel_rfl
  have c4 : Tryz.prog.cellsOf 58 = 1 := by kernel_rfl
  have c5 : Tryz.prog.cellsOf 77 = 64 := by kernel_rfl
  have g0 : DataW.trod enc Tryz.prog W base sp held n 75 ((cs.drop 0).take (Tryz.prog.cellsOf 75)) = some (xs[0]'(by rw [h5]; decide)) := by rw [← List.getElem?_eq_getElem]; exact h6 0 _ rfl
  rw [c0] at g0
  obtain ⟨v0, e0, l0⟩ := Hw.open_bytesT Y75.h Y5.h zK zK g0
  have g1 : DataW.trod enc Tryz.prog W base sp held n 48 ((cs.drop 32).take (Tryz.prog.cellsOf 48)) = some (xs[1]'(by rw [h5]; decide)) := by rw [← List.getElem?_eq_getElem]; exact h6 1 _ rfl
  rw [c1] at g1
  obtain ⟨a1, e1, _, w1⟩ := DataW.trod_int Y48.h g1
  obtain ⟨v1, rfl⟩ := Hw.u64_back w1
  have g2 : DataW.trod enc Tryz.prog W base sp held n 50 ((cs.drop 33).take (Tryz.prog.cellsOf 50)) = some (xs[2]'(by rw [h5]; decide)) := by rw [← List.getElem?_eq_getElem]; exact h6 2 _ rfl
  rw [c2] at g2
  obtain ⟨v2, e2, l2⟩ := Hw.open_bytesT Y50.h Y5.h zK zK g2
  have g3 : DataW.trod enc Tryz.prog W base sp held n 51 ((cs.drop 65).take (Tryz.prog.cellsOf 51)) = some (xs[3]'(by rw [h5]; decide)) := by rw [← List.getElem?_eq_getElem]; exact h6 3 _ rfl
  rw [c3] at g3
  obtain ⟨v3, b3, e3, q3⟩ := Hw.open_rowsS Y51.h Y50.h Y5.h zK zK dE g3
  have g4 : DataW.trod enc Tryz.prog W base sp held n 58 ((cs.drop 66).take (Tryz.prog.cellsOf 58)) = some (xs[4]'(by rw [h5]; decide)) := by rw [← List.getElem?_eq_getElem]; exact h6 4 _ rfl
  rw [c4] at g4
  obtain ⟨v4, b4, e4, q4⟩ := Hw.open_bytesS Y58.h Y5.h zK g4
  have g5 : DataW.trod enc Tryz.prog W base sp held n 77 ((cs.drop 67).take (Tryz.prog.cellsOf 77)) = some (xs[5]'(by rw [h5]; decide)) := by rw [← List.getElem?_eq_getElem]; exact h6 5 _ rfl
  rw [c5] at g5
  obtain ⟨v5, e5, l5⟩ := Hw.open_bytesT Y77.h Y5.h zK zK g5
  refine ⟨⟨v0, v1, v2, v3, v4, v5⟩, ⟨l0, l2, l5⟩, ?_, ⟨b3, q3⟩, ⟨b4, q4⟩⟩
  rw [← List.drop_zero (l := cs)]
  exact (Hw.cat 32 e0 rfl (Hw.cat 33 e1 rfl (Hw.cat 65 e2 rfl (Hw.cat 66 e3 rfl (Hw.cat 67 e4 rfl (Hw.cat_last e5 h4))))))
end
-- no opening of Reader (field fSelf)
section
variable {H : Type} {enc : TypeId × Value → H} {W : World} {base : Nat} {sp : Nat → Bool} {held : Bool}
theorem Cut.openT {fuel : Nat} {cs : List Value} {y : DataW H × List MemPlace} (h : DataW.trod enc Tryz.prog W base sp held fuel 53 cs = some y) : ∃ x : Cut, x.ok ∧ cs = x.cells ∧ (∃ ls, Hw.RowsAt W x.fHeads 32 ls) := by
  obtain ⟨xs, n, _, _, h4, h5, h6⟩ := DataW.trod_struct Y53.h h
  rw [show Tryz.prog.cellsOf 53 = 34 by kernel_rfl] at h4
  have c0 : Tryz.prog.cellsOf 48 = 1 := by kernel_rfl
  have c1 : Tryz.prog.cellsOf 50 = 32 := by kernel_rfl
  have c2 : Tryz.prog.cellsOf 51 = 1 := by kernel_rfl
  have g0 : DataW.trod enc Tryz.prog W base sp held n 48 ((cs.drop 0).take (Tryz.prog.cellsOf 48)) = some (xs[0]'(by rw [h5]; decide)) := by rw [← List.getElem?_eq_getElem]; exact h6 0 _ rfl
  rw [c0] at g0
  obtain ⟨a0, e0, _, w0⟩ := DataW.trod_int Y48.h g0
  obtain ⟨v0, rfl⟩ := Hw.u64_back w0
  have g1 : DataW.trod enc Tryz.prog W base sp held n 50 ((cs.drop 1).take (Tryz.prog.cellsOf 50)) = some (xs[1]'(by rw [h5]; decide)) := by rw [← List.getElem?_eq_getElem]; exact h6 1 _ rfl
  rw [c1] at g1
  obtain ⟨v1, e1, l1⟩ := Hw.open_bytesT Y50.h Y5.h zK zK g1
  have g2 : DataW.trod enc Tryz.prog W base sp held n 51 ((cs.drop 33).take (Tryz.prog.cellsOf 51)) = some (xs[2]'(by rw [h5]; decide)) := by rw [← List.getElem?_eq_getElem]; exact h6 2 _ rfl
  rw [c2] at g2
  obtain ⟨v2, b2, e2, q2⟩ := Hw.open_rowsS Y51.h Y50.h Y5.h zK zK dE g2
  refine ⟨⟨v0, v1, v2⟩, ⟨l1⟩, ?_, ⟨b2, q2⟩⟩
  rw [← List.drop_zero (l := cs)]
  exact (Hw.cat 1 e0 rfl (Hw.cat 33 e1 rfl (Hw.cat_last e2 h4)))
end

-- no opening of Msg (field fBlocks)
section
variable {H : Type} {enc : TypeId × Value → H} {W : World} {base : Nat} {sp : Nat → Bool} {held : Bool}
theorem Record.openT {fuel : Nat} {cs : List Value} {y : DataW H × List MemPlace} (h : DataW.trod enc Tryz.prog W base sp held fuel 91 cs = some y) : ∃ x : Record, x.ok ∧ cs = x.cells ∧ (∃ l, Hw.BytesAt W x.fData l) := by
  obtain ⟨xs, n, _, _, h4, h5, h6⟩ := DataW.trod_struct Y91.h h
  rw [show Tryz.prog.cellsOf 91 = 2 by kernel_rfl] at h4
  have c0 : Tryz.prog.cellsOf 5 = 1 := by kernel_rfl
  have c1 : Tryz.prog.cellsOf 58 = 1 := by kernel_rfl
  have g0 : DataW.trod enc Tryz.prog W base sp held n 5 ((cs.drop 0).take (Tryz.prog.cellsOf 5)) = some (xs[0]'(by rw [h5]; decide)) := by rw [← List.getElem?_eq_getElem]; exact h6 0 _ rfl
  rw [c0] at g0
  obtain ⟨a0, e0, _, w0⟩ := DataW.trod_int Y5.h g0
  obtain ⟨v0, rfl⟩ := Hw.u8_back w0
  have g1 : DataW.trod enc Tryz.prog W base sp held n 58 ((cs.drop 1).take (Tryz.prog.cellsOf 58)) = some (xs[1]'(by rw [h5]; decide)) := by rw [← List.getElem?_eq_getElem]; exact h6 1 _ rfl
  rw [c1] at g1
  obtain ⟨v1, b1, e1, q1⟩ := Hw.open_bytesS Y58.h Y5.h zK g1
  refine ⟨⟨v0, v1⟩, ⟨trivial⟩, ?_, ⟨b1, q1⟩⟩
  rw [← List.drop_zero (l := cs)]
  exact (Hw.cat 1 e0 rfl (Hw.cat_last e1 h4))
end
-- no opening of Kept (field fBlocks)
end Go.Proofs.YtdifpjmfabhpiaaGreat
end

section
namespace Hw
open Go

theorem As (l : List UInt8) : ∀ u ∈ Aa l, isCell u = true := fun u hu => by
  simp only [Aa, List.mem_map] at hu
  obtain ⟨_, _, rfl⟩ := hu
  rfl
def Cd (n : Nat) : Nat := if n = 0 then 0 else Nat.log2 n + 1
theorem bLen_le {n k : Nat} : Cd n ≤ k ↔ n < 2 ^ k := by
  unfold Cd
  by_cases h : n = 0
  · subst h; simp; exact Nat.pow_pos dE
  · rw [if_neg h, Nat.succ_le_iff, Nat.log2_lt h]
theorem bLen_shr {n k : Nat} (h : 2 ^ k ≤ n) : Cd n = k + Cd (n / 2 ^ k) := by
  have key : ∀ j, Cd n ≤ k + j ↔ Cd (n / 2 ^ k) ≤ j := fun j => by
    rw [bLen_le, bLen_le, Nat.pow_add, Nat.div_lt_iff_lt_mul (Nat.pow_pos dE), Nat.mul_comm]
  have h1 := (key (Cd (n / 2 ^ k))).2 (Nat.le_refl _)
  have h2 : k < Cd n := by
    rcases Nat.lt_or_ge k (Cd n) with h | h
    · exact h
    · rw [ge_iff_le, bLen_le] at h; omega
  have h3 := (key (Cd n - k)).1 oM
  omega
def szN (n : Nat) : Nat := min ((Cd (n ||| 1) + 6) / 7) 9
theorem A2 (n : Nat) : 1 ≤ szN n ∧ szN n ≤ 9 := by
  have : 1 ≤ Cd (n ||| 1) := by
    rcases Nat.lt_or_ge 0 (Cd (n ||| 1)) with h | h
    · exact h
    · rw [ge_iff_le, bLen_le] at h
      have h1 : 1 ≤ n ||| 1 := Nat.right_le_or
      simp at h
  unfold szN
  omega
def tailB (x : UInt64) : Nat → List UInt8
  | 0 => []
  | k + 1 => (Bz x (8 * k)).toUInt8 :: tailB x k
theorem tailB_length (x : UInt64) : ∀ k, (tailB x k).length = k
  | 0 => rfl
  | k + 1 => by simp [tailB, tailB_length x k]
theorem tailB_get (x : UInt64) : ∀ k j, j < k → (tailB x k)[j]? = some (Bz x (8 * (k - 1 - j))).toUInt8
  | 0, j, h => by omega
  | k + 1, 0, h => by simp [tailB]
  | k + 1, j + 1, h => by
    rw [tailB, List.getElem?_cons_succ, tailB_get x k j oM]
    congr 4
    omega
def headB (x : UInt64) : UInt8 := shl8 255 (9 - szN x.toNat) ||| (Bz x (8 * (szN x.toNat - 1))).toUInt8
def A6 (x : UInt64) : List UInt8 := headB x :: tailB x (szN x.toNat - 1)
theorem Ax (x : UInt64) : (A6 x).length = szN x.toNat := by
  have := A2 x.toNat
  simp [A6, tailB_length]; omega
def numUp (x : UInt64) (j : Nat) : List UInt8 := headB x :: (tailB x (szN x.toNat - 1)).take j
theorem numUp_length (x : UInt64) (j : Nat) (h : j ≤ szN x.toNat - 1) : (numUp x j).length = 1 + j := by
  simp [numUp, tailB_length]; omega
theorem numUp_step (x : UInt64) (j : Nat) (h : j < szN x.toNat - 1) : numUp x (j + 1) = numUp x j ++ [(Bz x (8 * (szN x.toNat - 2 - j))).toUInt8] := by
  have hl : j < (tailB x (szN x.toNat - 1)).length := by rw [tailB_length]; exact h
  have hg := tailB_get x (szN x.toNat - 1) j h
  rw [List.getElem?_eq_getElem hl, Option.some.injEq] at hg
  rw [numUp, numUp, List.take_succ_eq_append_getElem hl, hg, show szN x.toNat - 1 - 1 - j = szN x.toNat - 2 - j by omega]
  rfl
theorem numUp_all (x : UInt64) : numUp x (szN x.toNat - 1) = A6 x := by
  rw [numUp, List.take_of_length_le (by rw [tailB_length]; omega), A6]
theorem numUp_zero (x : UInt64) : numUp x 0 = [headB x] := by simp [numUp]
def Bb (f : UInt8) : Nat := 9 - Cd (255 ^^^ f).toNat
theorem b8_le (f : UInt8) : Cd (255 ^^^ f).toNat ≤ 8 := bLen_le.2 (255 ^^^ f).toNat_lt
def foldB (a : UInt64) : List UInt8 → UInt64
  | [] => a
  | b :: l => foldB (shl64 a 8 ||| b.toUInt64) l
theorem foldB_snoc (b : UInt8) : ∀ (l : List UInt8) (a : UInt64), foldB a (l ++ [b]) = shl64 (foldB a l) 8 ||| b.toUInt64
  | [], a => rfl
  | x :: l, a => by rw [List.cons_append, foldB, foldB_snoc b l, foldB]
def headV (f : UInt8) : UInt64 := (f &&& shr8 255 (Bb f)).toUInt64
def numV (xs : List UInt8) (a : Nat) : UInt64 := foldB (headV (xs.getD a 0)) ((xs.drop (a + 1)).take (Bb (xs.getD a 0) - 1))
theorem foldB_step (xs : List UInt8) (s a : Nat) (v : UInt64) (h : s + a < xs.length) : foldB v ((xs.drop s).take (a + 1)) = shl64 (foldB v ((xs.drop s).take a)) 8 ||| (xs.getD (s + a) 0).toUInt64 := by
  have hl : a < (xs.drop s).length := by simp; omega
  rw [List.take_succ_eq_append_getElem hl, foldB_snoc]
  congr 2
  simp [List.getD, List.getElem?_eq_getElem h]
theorem cnt_word (f : UInt8) : (A8 (8 - ((Cd (255 ^^^ f).toNat : Nat) : Int) + 1 - 1)).toNat = Bb f - 1 := by
  have := b8_le f
  rw [show (8 - ((Cd (255 ^^^ f).toNat : Nat) : Int) + 1 - 1) = ((8 - Cd (255 ^^^ f).toNat : Nat) : Int) by omega, Bb]
  simp only [A8, UInt64.toNat_ofNat']
  omega
end Hw
end

section
namespace Hw
open Go

def rolW (x : UInt64) (s : Nat) : UInt64 := shl64 x s ||| Bz x (64 - s)
def schA (p : List UInt8) : Nat → List UInt64
  | 0 => List.replicate 80 0
  | i + 1 => (schA p i).set (i / 8) (shl64 ((schA p i).getD (i / 8) 0) 8 ||| (p.getD i 0).toUInt64)
theorem schA_length (p : List UInt8) : ∀ i, (schA p i).length = 80
  | 0 => rfl
  | i + 1 => by rw [schA, List.length_set, schA_length p i]
def sig0 (x : UInt64) : UInt64 := rolW x 63 ^^^ rolW x 56 ^^^ Bz x 7
def sig1 (y : UInt64) : UInt64 := rolW y 45 ^^^ rolW y 3 ^^^ Bz y 6
def schB (w : List UInt64) : Nat → List UInt64
  | 0 => w
  | j + 1 => (schB w j).set (16 + j) ((schB w j).getD j 0 + sig0 ((schB w j).getD (j + 1) 0) + (schB w j).getD (j + 9) 0 + sig1 ((schB w j).getD (j + 14) 0))
theorem schB_length (w : List UInt64) : ∀ j, (schB w j).length = w.length
  | 0 => rfl
  | j + 1 => by rw [schB, List.length_set, schB_length w j]
def schW (p : List UInt8) : List UInt64 := schB (schA p 128) 64
structure W8 where
  a : UInt64
  b : UInt64
  c : UInt64
  d : UInt64
  e : UInt64
  f : UInt64
  g : UInt64
  h : UInt64
def W8.l (s : W8) : List UInt64 := [s.a, s.b, s.c, s.d, s.e, s.f, s.g, s.h]
def W8.of (l : List UInt64) : W8 := ⟨l.getD 0 0, l.getD 1 0, l.getD 2 0, l.getD 3 0, l.getD 4 0, l.getD 5 0, l.getD 6 0, l.getD 7 0⟩
def rndT1 (s : W8) (k w : UInt64) : UInt64 := s.h + (rolW s.e 50 ^^^ rolW s.e 46 ^^^ rolW s.e 23) + ((s.e &&& s.f) ^^^ ((18446744073709551615 ^^^ s.e) &&& s.g)) + k + w
def rndT2 (s : W8) : UInt64 := (rolW s.a 36 ^^^ rolW s.a 30 ^^^ rolW s.a 25) + ((s.a &&& s.b) ^^^ (s.a &&& s.c) ^^^ (s.b &&& s.c))
def rnd1 (s : W8) (k w : UInt64) : W8 := ⟨rndT1 s k w + rndT2 s, s.a, s.b, s.c, s.d + rndT1 s k w, s.e, s.f, s.g⟩
def rnds (k w : List UInt64) (s : W8) : Nat → W8
  | 0 => s
  | t + 1 => rnd1 (rnds k w s t) (k.getD t 0) (w.getD t 0)
def addUp (st xs : List UInt64) : Nat → List UInt64
  | 0 => st
  | i + 1 => (addUp st xs i).set i ((addUp st xs i).getD i 0 + xs.getD i 0)
theorem Bq (st xs : List UInt64) : ∀ i, (addUp st xs i).length = st.length
  | 0 => rfl
  | i + 1 => by rw [addUp, List.length_set, Bq st xs i]
theorem addUp_get (st xs : List UInt64) : ∀ i j, i ≤ j → (addUp st xs i).getD j 0 = st.getD j 0
  | 0, j, _ => rfl
  | i + 1, j, h => by
    rw [addUp, List.getD_eq_getElem?_getD, List.getElem?_set_ne oM, ← List.getD_eq_getElem?_getD]
    exact addUp_get st xs i j oM
def pieceW (k st : List UInt64) (p : List UInt8) : List UInt64 := addUp st (rnds k (schW p) (W8.of st) 80).l 8
theorem pieceW_length (k st : List UInt64) (p : List UInt8) : (pieceW k st p).length = st.length := Bq _ _ _
def sumUp (st : List UInt64) : Nat → List UInt8
  | 0 => List.replicate 64 0
  | i + 1 => (sumUp st i).set i (Bz (st.getD (i / 8) 0) (56 - 8 * (i % 8))).toUInt8
theorem Ca (st : List UInt64) : ∀ i, (sumUp st i).length = 64
  | 0 => rfl
  | i + 1 => by rw [sumUp, List.length_set, Ca st i]
def padZ (n : Nat) : Nat := (239 - n % 128) % 128
theorem padZ_lt (n : Nat) : padZ n < 128 := Nat.mod_lt _ dE
theorem padZ_at (n j : Nat) (h : j ≤ padZ n) : (n + 1 + j) % 128 = 112 ↔ j = padZ n := by unfold padZ at *; omega
def beUp (x : UInt64) : Nat → List UInt8
  | 0 => []
  | j + 1 => beUp x j ++ [(Bz x (56 - 8 * j)).toUInt8]
theorem beUp_length (x : UInt64) : ∀ j, (beUp x j).length = j
  | 0 => rfl
  | j + 1 => by rw [beUp, List.length_append, beUp_length x j]; rfl
def padB (l : List UInt8) : List UInt8 := l ++ [128] ++ List.replicate (padZ l.length) 0 ++ beUp 0 8 ++ beUp (UInt64.ofNat (8 * l.length)) 8
theorem padB_length (l : List UInt8) : (padB l).length = l.length + 17 + padZ l.length := by
  simp only [padB, List.length_append, beUp_length, List.length_replicate, List.length_singleton]; omega
theorem padB_mod (l : List UInt8) : (padB l).length = 128 * ((padB l).length / 128) := by
  rw [padB_length]; unfold padZ; omega
def runW (k st : List UInt64) (bs : List UInt8) : Nat → List UInt64
  | 0 => st
  | i + 1 => pieceW k (runW k st bs i) ((bs.drop (128 * i)).take 128)
theorem runW_length (k st : List UInt64) (bs : List UInt8) : ∀ i, (runW k st bs i).length = st.length
  | 0 => rfl
  | i + 1 => by rw [runW, pieceW_length, runW_length k st bs i]
def allW (k st : List UInt64) (l : List UInt8) : List UInt64 := runW k st (padB l) ((padB l).length / 128)
theorem allW_length (k st : List UInt64) (l : List UInt8) : (allW k st l).length = st.length := runW_length _ _ _ _
end Hw
end

section
namespace Hw
open Go Go.RowKit
def andI (x y : Int) : Int := IntKind.i64.wrap (((BitVec.ofInt 64 x &&& BitVec.ofInt 64 y).toNat : Nat) : Int)
def andNotI (x y : Int) : Int := IntKind.i64.wrap (((BitVec.ofInt 64 x &&& ~~~ BitVec.ofInt 64 y).toNat : Nat) : Int)
section
variable {C : Cx} {ops : Array Oper} {rest : List (Nat × Oper)} {sl : List (Nat × Value)} {hp : List Blk} {Q : St → Prop} {c d : Nat} {ty : TypeId} {pos : String} {af : Array Edge} {g : Option (Nat × Bool)} {x y : Operand} {xT yT : TypeId} {a b : Int}
end
def usedN (bs : List Bool) : Nat → Nat
  | 0 => 0
  | k + 1 => usedN bs k + (if bs.getD k false = true then 2 ^ k else 0)
end Hw
end

section
namespace Hw
open Go Go.RowKit

def MeetsD (P : Program) (f : FuncId) (args : List Value) (lent : List Nat) (Pre : World → Prop) (R : Value → List Blk → Prop) : Prop :=
  ∀ W, Pre W → ∀ u, CallsD P f args.toArray u W fun e u' W' => u' = u ∧ ∃ v out, e = .returned v ∧ R v out ∧ Ret lent out W W'

theorem callsD_of {P : Program} {f : FuncId} {fn : Func} {code : Code} {args : List Value} {W : World} {u : FrameMode} {lent : List Nat} {hp0 : List Blk} {R : Value → List Blk → Prop}
    (hf : P.funcs[f]? = some fn) (hb : fn.body = some code) (N : Nat) (hN : fn.ntmps = N) (hlen : Nat.ble args.length N = true)
    (hh : HRep ⟨P, W, N, lent, [], []⟩ hp0 W)
    (h : Sat ⟨P, W, N, lent, [], []⟩ code ⟨argSlots 0 args, hp0⟩ (endQ ⟨P, W, N, lent, [], []⟩ fn R)) :
    CallsD P f args.toArray u W fun e u' W' => u' = u ∧ ∃ v out, e = .returned v ∧ R v out ∧ Ret lent out W W' := by
  have hlen := Nat.le_of_ble_eq_true hlen
  subst hN
  refine callsD_of_wp hf hb (wp_mono (h _ _ ⟨⟨?_, rfl, fun t v ht => ?_⟩, hh⟩) fun e a' w' ⟨s', r', q⟩ => ?_)
  · simp; omega
  · have := argSlots_look args 0 t v ht
    rw [Array.getElem?_append]
    have hlt : t < args.length := by
      rcases Nat.lt_or_ge t args.length with h1 | h1
      · exact h1
      · rw [List.getElem?_eq_none oM] at this; cases this.2
    simp only [List.size_toArray]
    rw [if_pos hlt]
    simpa using this.2
  · have fin : (∃ v out, Res ⟨P, W, fn.ntmps, lent, [], []⟩ fn s' v ∧ (∀ b ∈ out, b ∈ s'.hp) ∧ ((s'.hp.map (·.n)).Nodup → (out.map (·.n)).Nodup) ∧ R v out) →
        a'.defers = [] ∧ ∃ v, (results fn a'.tmps).run P w' = .ok v w' ∧ ∃ v' out, Ending.returned v = .returned v' ∧ R v' out ∧ Ret lent out W w' := by
      rintro ⟨v, out, hr, hsub, hnd, hR⟩
      exact ⟨r'.rs.defers, v, hr a' w' r', v, out, rfl, hR, r'.rh.keeps, fun b hb => r'.rh.cells b (hsub b hb), hnd r'.rh.nodup, fun b hb => r'.rh.own b (hsub b hb)⟩
    cases e with
    | normal => exact fin q
    | ret => exact fin q
    | _ => exact q.elim

theorem res_cell_cell {C : Cx} {fn : Func} {s : St} {t t2 : Tmp} {T T2 : TypeId} {td td2 : TypeDesc} {n b b2 : Nat} {cs cs2 : List Value} {BT BT2 : TypeId} {m m2 : Nat} {v2 : Value} (hr : fn.results = #[.cell t T, .cell t2 T2]) (hv : look s.sl t = some (ptr b 0)) (hv2 : look s.sl t2 = some (ptr b2 0)) (hu : C.P.underlying T = some td) (hp' : Bv td = false) (hs : Sz C.P T n) (hb : (⟨b, cs, BT, m⟩ : Blk) ∈ s.hp) (hn : cs.length = n)
    (hu2 : C.P.underlying T2 = some td2) (hp2 : Bv td2 = true) (hb2 : (⟨b2, v2 :: cs2, BT2, m2⟩ : Blk) ∈ s.hp) : Res C fn s (.tuple #[agg cs, v2]) := by
  intro a w r
  have h1 := r.rs.slots t _ hv
  have h2 := r.rs.slots t2 _ hv2
  have h3 : w.cell? ⟨b2, 0, none⟩ = some v2 := (r.rh.cells _ hb2).cell (o := 0) rfl
  have k1 := run_cellAll r.rh hu hp' hs hb hn
  have k2 : (loadVar T2 ⟨b2, 0, none⟩).run C.P w = .ok v2 w := by simp [loadVar, run_isAgg_plain hu2 hp2, load, Sem.run, h3]
  simp [results, hr, h1, h2, asAddr, k1, k2]

abbrev dfr (g : Nat) (cap : Array Value) : Deferred := { target := .fn (.func g) cap, args := #[] }

def endAtD (C : Cx) (g : Nat) (cap : Array Value) (fn : Func) (R : Value → List Blk → Prop) (s : St) : Prop :=
  ∃ (lent : List Nat) (L keep : List Blk) (Pre : World → Prop) (R' : Value → List Blk → Prop), s.hp.Perm (L ++ keep) ∧ (∀ n ∈ lent, ∃ b ∈ L, b.n = n) ∧ MeetsD C.P g cap.toList lent Pre R' ∧ (∀ w, HRep C s.hp w → Pre w) ∧ ∀ v' out', R' v' out' → endAt C fn R ⟨s.sl, out' ++ keep⟩
def endQD (C : Cx) (g : Nat) (cap : Array Value) (fn : Func) (R : Value → List Blk → Prop) : Exit → St → Prop
  | .normal, s | .ret, s => endAtD C g cap fn R s
  | _, _ => False
theorem enD_r {C : Cx} {g : Nat} {cap : Array Value} {fn : Func} {R : Value → List Blk → Prop} {s : St} (h : endAtD C g cap fn R s) : endQD C g cap fn R .ret s := h

theorem run_defer {P : Program} {ρ : Operand → Value} {w : World} {x : Operand} {g : Nat} {cap : Array Value} {ty : TypeId} {pos : String} {af : Array Edge} (hx : ρ x = .func (.func g) #[] cap) :
    (execOp ρ ⟨none, .defer ⟨.value x, #[], #[]⟩, ty, pos, af, none⟩).run P w = .ok (.defer (dfr g cap)) w := by
  simp [execOp, resolve, hx, Deferred.ofValue]

theorem calls_defer {P : Program} {f : FuncId} {fn : Func} {r0 rest : Code} {id : Nat} {o0 : Oper} {x : Operand} {ty : TypeId} {pos : String} {af : Array Edge} {args : List Value} {W : World} {R : Value → List Blk → Prop}
    (hf : P.funcs[f]? = some fn) (hb : fn.body = some (.seq r0 (.seq (.region id [o0, ⟨none, .defer ⟨.value x, #[], #[]⟩, ty, pos, af, none⟩].toArray false) rest))) (N : Nat) (hN : fn.ntmps = N) (hlen : Nat.ble args.length N = true)
    (h : Sat ⟨P, W, N, [], [], []⟩ r0 ⟨argSlots 0 args, []⟩ (thenQ (fun s => Tr ⟨P, W, N, [], [], []⟩ [o0, ⟨none, .defer ⟨.value x, #[], #[]⟩, ty, pos, af, none⟩].toArray [(4, o0)] s (fun s' => ∃ g cap, Al s'.sl x = some (.func (.func g) #[] cap) ∧ Au P g ∧
      Sat ⟨P, W, N, [], [], [dfr g cap]⟩ rest s' (endQD ⟨P, W, N, [], [], [dfr g cap]⟩ g cap fn R))) (fun _ _ => False))) :
    Calls P f args.toArray W fun e W' => ∃ v out, e = .returned v ∧ R v out ∧ Ret [] out W W' := by
  have hlen := Nat.le_of_ble_eq_true hlen
  subst hN
  refine calls_of_wp_defers hf hb ?_
  have rep0 : Rep ⟨P, W, fn.ntmps, [], [], []⟩ ⟨argSlots 0 args, []⟩ { tmps := args.toArray ++ Array.replicate (fn.ntmps - args.toArray.size) undef, defers := [] } W := by
    refine ⟨⟨?_, rfl, fun t v ht => ?_⟩, HRep.nil _⟩
    · simp; omega
    · have := argSlots_look args 0 t v ht
      rw [Array.getElem?_append]
      have hlt : t < args.length := by
        rcases Nat.lt_or_ge t args.length with h1 | h1
        · exact h1
        · rw [List.getElem?_eq_none oM] at this; cases this.2
      simp only [List.size_toArray]
      rw [if_pos hlt]
      simpa using this.2
  refine wp_seq (wp_mono (h _ _ rep0) fun e a w ⟨s, r, q⟩ => ?_)
  cases e with
  | normal =>
    refine wp_seq (wp_region ?_)
    simp only [List.toArray, Array.size]
    show wpOps P _ _ [0, 1] a w
    rw [wpOps_cons]
    refine Tr.step (C := ⟨P, W, fn.ntmps, [], [], []⟩) (c := 4) (o := o0) (by rfl) q a w r _ (fun s1 a1 w1 r1 k1 => ?_) _
    rw [wpOps_cons]
    cases k1 with
    | dup h => exact absurd r1.rh.nodup h
    | nil h =>
      obtain ⟨g, cap, hx, hbody, hrest⟩ := h
      have hex := run_defer (P := P) (ρ := a1.eval) (w := w1) (ty := ty) (pos := pos) (af := af) (r1.rs.eval hx)
      have hw : wantS [o0, ⟨none, .defer ⟨.value x, #[], #[]⟩, ty, pos, af, none⟩].toArray s1.sl ⟨none, .defer ⟨.value x, #[], #[]⟩, ty, pos, af, none⟩ = some true := rfl
      unfold wpOp
      have hi : [o0, (⟨none, .defer ⟨.value x, #[], #[]⟩, ty, pos, af, none⟩ : Oper)].toArray[1]? = some ⟨none, .defer ⟨.value x, #[], #[]⟩, ty, pos, af, none⟩ := rfl
      simp only [hi, wantS_ok r1.rs hw, if_true]
      refine .inl ?_
      unfold Oper.wp
      rw [hex, Oper.upon_defer]
      have r2 : Rep ⟨P, W, fn.ntmps, [], [], [dfr g cap]⟩ s1 ({ a1 with defers := dfr g cap :: a1.defers }.put none undef) w1 := by
        refine ⟨⟨r1.rs.size, ?_, r1.rs.slots⟩, r1.rh.cells, r1.rh.nodup, r1.rh.own, r1.rh.keeps, r1.rh.kok, r1.rh.kd⟩
        show dfr g cap :: a1.defers = _
        rw [r1.rs.defers]
      show wpOps P _ _ [] _ _
      refine wp_mono (hrest _ _ r2) fun e a3 w3 ⟨s3, r3, q3⟩ => ?_
      have fin : endAtD ⟨P, W, fn.ntmps, [], [], [dfr g cap]⟩ g cap fn R s3 → Leaves P fn a3.tmps (fun e W' => ∃ v out, e = .returned v ∧ R v out ∧ Ret [] out W W') a3.defers .returning w3 := by
        rintro ⟨lent, L, keep, Pre, R', hsp, hl, hc, hpre, hk⟩
        rw [show a3.defers = [dfr g cap] from r3.rs.defers]
        refine leaves_cons (f := g) (args := cap.toList.toArray) (fun h => by cases h) ?_ ?_
        · have := hbody (#[] ++ cap) w3
          simpa [invoke] using this
        · refine (hc w3 (hpre w3 r3.rh) .returning).mono fun e u' w4 ⟨hu, v', out', he, hR', hret⟩ => ?_
          subst hu; subst he
          have r4 : Rep ⟨P, W, fn.ntmps, [], [], [dfr g cap]⟩ ⟨s3.sl, out' ++ keep⟩ a3 w4 := ⟨r3.rs, r3.rh.lentRet hsp hl hret⟩
          obtain ⟨v, out, hr, hsub, hnd, hR⟩ := hk v' out' hR'
          exact ⟨v, hr a3 w4 r4, v, out, rfl, hR, r4.rh.keeps, fun b hb => r4.rh.cells b (hsub b hb), hnd r4.rh.nodup, fun b hb => r4.rh.own b (hsub b hb)⟩
      cases e with
      | normal => exact fin q3
      | ret => exact fin q3
      | _ => exact q3.elim
  | _ => exact q.elim
end Hw
end

section
namespace Hw
open Go Go.RowKit
section
variable {C : Cx} {fn : Func} {s : St}
theorem res_tmp_cell_tmp {t0 t t2 : Tmp} {T : TypeId} {td : TypeDesc} {n b : Nat} {cs : List Value} {BT : TypeId} {m : Nat} {v0 v2 : Value} (hr : fn.results = #[.tmp t0, .cell t T, .tmp t2]) (hv0 : look s.sl t0 = some v0) (hv : look s.sl t = some (ptr b 0)) (hv2 : look s.sl t2 = some v2) (hu : C.P.underlying T = some td) (hp' : Bv td = false) (hs : Sz C.P T n) (hb : (⟨b, cs, BT, m⟩ : Blk) ∈ s.hp) (hn : cs.length = n) :
    Res C fn s (.tuple #[v0, agg cs, v2]) := by
  intro a w r
  have h0 := r.rs.slots t0 _ hv0
  have h1 := r.rs.slots t _ hv
  have h2 := r.rs.slots t2 _ hv2
  simp [results, hr, h0, h1, h2, asAddr, run_cellAll r.rh hu hp' hs hb hn]
end

def AccO (s : Sl) (bl : List Blk) (cells : List Value) (E : TypeId) (n : Nat) : Prop :=
  (s = Sl.nil ∧ bl = [] ∧ cells = [] ∧ n = 0) ∨ ∃ q o c m pre post, s = ⟨some ⟨q, o, none⟩, n, c⟩ ∧ n ≤ c ∧ cells.length = n ∧ pre.length = o ∧ (post = [] ∨ n = c) ∧ o + c ≤ m ∧ bl = [⟨q, pre ++ cells ++ post, E, m⟩]
section
variable {s : Sl} {bl : List Blk} {cells : List Value} {E : TypeId} {n : Nat}
theorem AccO.none : AccO Sl.nil [] [] E 0 := .inl ⟨rfl, rfl, rfl, rfl⟩
theorem AccO.num (h : AccO s bl cells E n) : s.n = n := by rcases h with ⟨rfl, _, _, rfl⟩ | ⟨q, o, c, m, pre, post, rfl, _⟩ <;> rfl
theorem AccO.len (h : AccO s bl cells E n) : cells.length = n := by rcases h with ⟨_, _, rfl, rfl⟩ | ⟨q, o, c, m, pre, post, _, _, h, _⟩; rfl; exact h
theorem AccO.cap (h : AccO s bl cells E n) : s.n ≤ s.c := by rcases h with ⟨rfl, _⟩ | ⟨q, o, c, m, pre, post, rfl, h, _⟩; exact Nat.le_refl _; exact h
theorem AccO.nilc (h : AccO s bl cells E n) (hp : s.p = .none) : s.c = 0 := by rcases h with ⟨rfl, _⟩ | ⟨q, o, c, m, pre, post, rfl, _⟩; rfl; cases hp
theorem AccO.see (h : AccO s bl cells E n) {w : World} (hw : Lies bl w) : SeesP w s.p cells := by
  rcases h with ⟨_, _, rfl, _⟩ | ⟨q, o, c, m, pre, post, rfl, _, h3, h4, _, _, rfl⟩
  · exact SeesP.nil
  · refine SeesP.of fun j v hj => ?_
    refine (hw _ (List.mem_singleton.2 rfl)).cell (o := o + j) (v := v) ?_
    show (pre ++ cells ++ post)[o + j]? = some v
    have hlt := (List.getElem?_eq_some_iff.1 hj).1
    rw [List.append_assoc, List.getElem?_append_right oM, h4, Nat.add_sub_cancel_left, List.getElem?_append_left hlt]
    exact hj
theorem AccO.pos (h : AccO s bl cells E n) (hn : 0 < n) : ∃ q o c m pre post, s = ⟨some ⟨q, o, .none⟩, n, c⟩ ∧ n ≤ c ∧ cells.length = n ∧ pre.length = o ∧ (post = [] ∨ n = c) ∧ o + c ≤ m ∧ bl = [⟨q, pre ++ cells ++ post, E, m⟩] := by
  rcases h with ⟨_, _, _, rfl⟩ | h
  · exact absurd hn dE
  · exact h
theorem AccO.cut {q o c m : Nat} {pre post : List Value} {x : Value} {l : List Value} (hc : n + 1 ≤ c) (hl : l.length = n) (hp : pre.length = o) (hpo : post = [] ∨ n + 1 = c) (hm : o + c ≤ m) : AccO ⟨some ⟨q, if c = 1 then o else o + 1 * 1, .none⟩, n + 1 - 1, c - 1⟩ [⟨q, pre ++ (x :: l) ++ post, E, m⟩] l E n := by
  by_cases e : c = 1
  · obtain rfl : n = 0 := by omega
    obtain rfl : l = [] := List.eq_nil_of_length_eq_zero hl
    subst e
    rw [if_pos rfl]
    exact .inr ⟨q, o, 0, m, pre, x :: post, rfl, Nat.le_refl _, rfl, hp, .inr rfl, by omega, by simp⟩
  · rw [if_neg e]
    exact .inr ⟨q, o + 1, c - 1, m, pre ++ [x], post, by simp, by omega, hl, by simp [hp], hpo.imp_right (fun h => by omega), by omega, by simp⟩
theorem Acc.off {c : Nat} (h : Acc s bl cells E n 1) : AccO s bl cells E n := by
  rcases h with ⟨rfl, rfl, rfl, rfl⟩ | ⟨q, c, rfl, h1, h2, rfl⟩
  · exact .inl ⟨rfl, rfl, rfl, rfl⟩
  · exact .inr ⟨q, 0, c, c * 1, [], [], rfl, h1, by omega, rfl, .inl rfl, by omega, by simp⟩
end
section
variable {C : Cx} {ops : Array Oper} {rest : List (Nat × Oper)} {sl : List (Nat × Value)} {hp hp' : List Blk} {Q : St → Prop} {c d : Nat} {ty : TypeId} {pos : String} {af : Array Edge} {g : Option (Nat × Bool)}
theorem Tr.appendO {x y : Operand} {s : Sl} {bl : List Blk} {n m by' c2 : Nat} {T tx E E2 : TypeId} {z : Value} {olds : List Value} {p : Option Addr} (news : List Value) (hg : An ops sl g = true) (hc : Nat.beq c 4 = true) (hd : Nat.blt d C.N = true)
    (hx : Al sl x = some s.v) (hy : Al sl y = some (.slice p m c2)) (hu : C.P.underlying T = some (.slice E)) (hut : C.P.underlying tx = some (.slice E2)) (hs : Sz C.P E 1) (hz : Zr C.P E z) (hb : By C.P E by') (hzc : z.cells.size = 1)
    (hacc : AccO s bl olds E n) (hp1 : hp.Perm (bl ++ hp')) (hsee : ∀ w, HRep C hp w → SeesP w p news) (hm0 : 0 < m) (hpn : p = none → m = 0) (hcell : ∀ u ∈ news, isCell u = true)
    (hbig : n + m ≤ 1000000) (hfit : (n + m) * by' ≤ 140737488355328) (hnl : news.length = m)
    (k : ∀ s' bl', AccO s' bl' (olds ++ news) E (n + m) → Tr C ops rest ⟨(d, s'.v) :: sl, bl' ++ hp'⟩ Q) :
    Tr C ops ((c, ⟨some d, .call { callee := .builtin .append, args := #[x, y], argTypes := #[T, tx] }, ty, pos, af, g⟩) :: rest) ⟨sl, hp⟩ Q := by
  rcases hacc with ⟨rfl, rfl, rfl, rfl⟩ | ⟨b, o, cap, cm, pre, post, rfl, hnc, hol, hpre, hpo, hcm, rfl⟩
  · exact Tr.appendAcc news hg hc hd hx hy hu hut hs hz hb hzc Acc.none hp1 hsee hpn hcell hbig hfit oM (fun s' bl' h => k s' bl' (Acc.off (c := 0) h))
  · refine Tr.act (ρ := Sl × List Blk) (fun r => AccO r.1 r.2 (olds ++ news) E (n + m)) (fun r => r.1.v) (fun r => r.2 ++ hp') (nbeq' hc) (A4 hg) (B9 (nblt hd))
      ⟨by simpa [Known, Op.operands, Call.operands] using known2 hx hy, fun a w hf hh => ?_⟩ (fun r hr => k r.1 r.2 hr)
    have h1 := hf x (by simp [Op.operands, Call.operands]); rw [hx] at h1
    have h2 := hf y (by simp [Op.operands, Call.operands]); rw [hy] at h2
    simp only [Option.some.injEq, Sl.v] at h1 h2
    have hh' := hh.perm hp1
    obtain ⟨full, fr, hbk⟩ := hh'.cells _ List.mem_cons_self
    have hlt := (hh'.cells _ List.mem_cons_self).lt
    have hsz := hs
    unfold Sz at hs; unfold Zr at hz; unfold By at hb
    cases hi : C.P.info? E with
    | none => rw [hi] at hs; simp at hs
    | some i =>
      rw [hi] at hs hz hb
      simp only [Option.map_some, Option.some.injEq, Option.bind_some] at hs hz hb
      have hS : Src C.P i.size tx (.slice p m c2) m news w := Src.ofP hut (hsee w hh) hpn (by rw [hs, hnl, Nat.mul_one]) hcell
      unfold Oper.wp
      rcases Nat.lt_or_ge cap (n + m) with hr | hr
      · have hold : (Builtin.firstCells i.size n (.slice (some ⟨b, o, none⟩) n cap)).run C.P w.drew = .ok olds.toArray w.drew := by
          refine run_firstCells_some w.drew i.size n ⟨b, o, none⟩ n cap olds (by rw [hs]; omega) (fun j u hj => ?_)
          rw [Bl]
          refine (hh'.cells _ List.mem_cons_self).cell (o := o + j) (v := u) ?_
          show (pre ++ olds ++ post)[o + j]? = some u
          have hlt2 := (List.getElem?_eq_some_iff.1 hj).1
          rw [List.append_assoc, List.getElem?_append_right oM, hpre, Nat.add_sub_cancel_left, List.getElem?_append_left hlt2]
          exact hj
        have hrun := run_append_grow_src (P := C.P) w T tx ty E i z hu hi hz (some ⟨b, o, none⟩) n cap olds hold _ m news hS hr oM (growslice_fits hr (by rw [hb]; exact hfit))
        have hge := grownCap_ge w (n + m) cap E
        have hex : (execOp a.eval ⟨some d, .call { callee := .builtin .append, args := #[x, y], argTypes := #[T, tx] }, ty, pos, af, g⟩).run C.P w = .ok (.value (.slice (some ⟨w.heap.size, 0, none⟩) (n + m) (grownCap w (n + m) cap E))) (w.drew.alloc (.cells ((olds ++ news).toArray ++ Builtin.zeroCells z.cells (grownCap w (n + m) cap E - (n + m))) E)) := by
          simp [execOp, resolve, invoke, builtin, ← h1, ← h2, hrun]
        rw [hex]
        have hnd : (hp'.map (·.n)).Nodup := by
          have := hh'.nodup
          simp only [List.cons_append, List.nil_append, List.map_cons, List.nodup_cons] at this
          exact this.2
        refine ⟨(⟨some ⟨w.heap.size, 0, none⟩, n + m, grownCap w (n + m) cap E⟩, [⟨w.heap.size, olds ++ news, E, grownCap w (n + m) cap E⟩]), .inr ⟨w.heap.size, 0, grownCap w (n + m) cap E, grownCap w (n + m) cap E, [], [], rfl, hge, by simp [hol, hnl], rfl, .inl rfl, by omega, by simp⟩, rfl, ?_⟩
        refine HRep.grown (out := [_]) (hh'.sub (fun x hx => List.mem_append_right _ hx) hnd) (Ret.pushD _ _ _ _ ?_ ?_)
        · have e : ∀ k, (Builtin.zeroCells z.cells k).size = k := fun k => by simp [Builtin.zeroCells, hzc]
          rw [Array.size_append, e, List.size_toArray, List.length_append]
          omega
        · simp
      · have hpo : post = [] := by
          rcases hpo with h | h
          · exact h
          · omega
        subst hpo
        have hsz2 := hbk.size
        simp only at hsz2
        have hst := run_storeCells (P := C.P) (b := b) (o := o + n) news 0 w full hbk.heap oM (by rw [hbk.size]; exact hbk.free) hcell
        simp only [Nat.add_zero] at hst
        have hap : (Builtin.append_ #[T, tx] ty #[.slice (some ⟨b, o, none⟩) n cap, .slice p m c2]).run C.P w = .ok (.slice (some ⟨b, o, none⟩) (n + m) cap) (setBlk w b (Cl full (o + n) news) E fr) := by
          have hc1 : n * i.size = n := by rw [hs, Nat.mul_one]
          rcases hS.kind with ⟨e', hk⟩ | hk <;> simp [Builtin.append_, run_underlying hu, run_underlying hk, Go.sizeOf, typeInfo, hi, hS.len, hr, hS.cells, Bl, hst, hc1]
        have hex : (execOp a.eval ⟨some d, .call { callee := .builtin .append, args := #[x, y], argTypes := #[T, tx] }, ty, pos, af, g⟩).run C.P w = .ok (.value (.slice (some ⟨b, o, none⟩) (n + m) cap)) (setBlk w b (Cl full (o + n) news) E fr) := by
          simp [execOp, resolve, invoke, builtin, ← h1, ← h2, hap]
        rw [hex]
        refine ⟨(⟨some ⟨b, o, none⟩, n + m, cap⟩, [⟨b, pre ++ (olds ++ news) ++ [], E, cm⟩]), .inr ⟨b, o, cap, cm, pre, [], rfl, hr, by simp [hol, hnl], hpre, .inl rfl, hcm, rfl⟩, rfl, ?_⟩
        refine hh'.upd (.head (cs := pre ++ olds ++ [])) hlt (by rw [putAll_size]; exact hsz2) ?_ hbk.free
        refine prefix_iff.2 fun j u hj => ?_
        rw [Array.getElem?_toList, putAll_get _ _ _ _ oM]
        have hpl := hbk.pre
        simp only [List.append_nil] at hj hpl
        rcases Nat.lt_or_ge j (o + n) with hjn | hjn
        · rw [if_neg oM]
          rw [← List.append_assoc, List.getElem?_append_left (by simp [hpre, hol]; omega)] at hj
          simpa using prefix_iff.1 hpl j u hj
        · rw [← List.append_assoc, List.getElem?_append_right (by simp [hpre, hol]; omega)] at hj
          have e : j - (pre ++ olds).length = j - (o + n) := by simp [hpre, hol]
          rw [e] at hj
          have hlt3 : j - (o + n) < news.length := (List.getElem?_eq_some_iff.1 hj).1
          rw [if_pos oM]
          exact hj
theorem Tr.mkRoomN {T E : TypeId} {x y : Operand} {kx ky : IntKind} {z : Value} {by' size : Nat} {mi : Int} (m : Nat) (hg : An ops sl g = true) (hk : okG c d C.N = true) (hx : Al sl x = some (.int kx 0)) (hy : Al sl y = some (.int ky mi)) (hmi : mi = m)
    (hu : C.P.underlying T = some (.slice E)) (hs : Sz C.P E size) (hz : Zr C.P E z) (hb : By C.P E by') (hn : m ≤ 1000000) (hfit : m * by' ≤ 140737488355328)
    (k : ∀ q, Tr C ops rest ⟨(d, .slice (some ⟨q, 0, none⟩) 0 m) :: sl, ⟨q, [], E, m * size⟩ :: hp⟩ Q) : Tr C ops ((c, ⟨some d, .makeSlice T x y, ty, pos, af, g⟩) :: rest) ⟨sl, hp⟩ Q := by
  subst hmi
  simp only [okG, Bool.and_eq_true, Bool.or_eq_true] at hk
  refine Tr.grow (ρ := Nat) (fun _ => True) (fun q => .slice (some ⟨q, 0, none⟩) 0 m) (fun q => [⟨q, [], E, m * size⟩]) (hk.1.imp nbeq' nbeq') (A4 hg) (B9 (nblt hk.2)) ⟨known2 hx hy, fun l hl => ?_, fun a w hf hh => ?_⟩ (fun q _ => k q)
  · obtain ⟨q, _, hq⟩ := Ch 0 l
    refine ⟨q, trivial, ?_⟩
    simp only [List.singleton_append, List.map_cons, List.nodup_cons]
    exact ⟨fun h => by obtain ⟨b, hb, e⟩ := List.mem_map.1 h; exact hq b hb e, hl⟩
  · have h1 := hf x (by simp [Op.operands]); rw [hx] at h1
    have h2 := hf y (by simp [Op.operands]); rw [hy] at h2
    simp only [Option.some.injEq] at h1 h2
    have rs := Ck hs
    unfold Sz at hs; unfold Zr at hz; unfold By at hb
    cases hi : C.P.info? E with
    | none => rw [hi] at hs; simp at hs
    | some i =>
      rw [hi] at hs hz hb
      simp only [Option.map_some, Option.some.injEq, Option.bind_some] at hs hz hb
      have wn : IntKind.i64.wrap (m : Int) = m := i64_wrap oM
      have w0 : IntKind.i64.wrap 0 = 0 := by decide
      have hm2 : ((by' : Int) * m) = ((m * by' : Nat) : Int) := by rw [Int.mul_comm]; simp
      have n1 : ¬ ((m : Int) < 0) := by omega
      have n2 : ¬ (281474976710656 < (i.bytes : Int) * m) := by rw [hb, hm2]; omega
      have n5 : ¬ (140737488355328 < m * i.bytes) := by rw [hb]; omega
      have hrun : ∃ arr : Array Value, arr.size = m * size ∧ (execOp a.eval ⟨some d, .makeSlice T x y, ty, pos, af, g⟩).run C.P w = .ok (.value (.slice (some ⟨w.heap.size, 0, none⟩) 0 m)) { w with heap := w.heap.push (.cells arr E) } := by
        by_cases h0 : m * size = 0
        · refine ⟨(Array.range (m * size)).map fun x => (#[] : Array Value)[x % 0]!, by simp, ?_⟩
          simp [execOp, Instr.makeSlice, run_underlying hu, asInt, asIntOf, typeInfo, hi, rs, zeroValue, hz, ← h1, ← h2, wn, w0, n1, n2, n5, h0, newRow, newObj, askRoom, roomBytes]
          simp [Sem.run]
        · refine ⟨(Array.range (m * size)).map fun x => z.cells[x % z.cells.size]!, by simp, ?_⟩
          simp [execOp, Instr.makeSlice, run_underlying hu, asInt, asIntOf, typeInfo, hi, rs, zeroValue, hz, ← h1, ← h2, wn, w0, n1, n2, n5, h0, newRow, newObj, askRoom, roomBytes]
          simp [Sem.run]
      obtain ⟨arr, ha, hrun⟩ := hrun
      unfold Oper.wp
      rw [hrun]
      refine ⟨w.heap.size, trivial, rfl, ⟨⟨rfl, rfl, rfl, by simp, fun k hk _ => ?_⟩, fun b hb => ?_, by simp, fun b hb => ?_⟩⟩
      · simp only [Array.getElem?_push]
        rw [if_neg oM]
      · obtain rfl := List.mem_singleton.1 hb
        exact ⟨arr, (0, 0), by simp, ha, by simp, free0⟩
      · obtain rfl := List.mem_singleton.1 hb
        exact .inl (Nat.le_refl _)
theorem Tr.extractB {x : Operand} {vs : Array Value} {i : Nat} {b : Bool} (hg : An ops sl g = true) (hk : okD c d C.N = true) (hx : Al sl x = some (.tuple vs)) (hv : vs[i]? = some (.bool b))
    (kt : b = true → Tr C ops rest ⟨(d, .bool true) :: sl, hp⟩ Q) (kf : b = false → Tr C ops rest ⟨(d, .bool false) :: sl, hp⟩ Q) : Tr C ops ((c, ⟨some d, .extract x i, ty, pos, af, g⟩) :: rest) ⟨sl, hp⟩ Q := by
  cases b
  · exact Tr.eX hg hk hx hv (kf rfl)
  · exact Tr.eX hg hk hx hv (kt rfl)
end
end Hw
end

section
namespace Hw
open Go

def headOf (s h : Nat) : UInt8 := shl8 255 (9 - s) ||| UInt8.ofNat h
theorem head_facts : ∀ s, s < 10 → 1 ≤ s → ∀ h, h < 2 ^ (8 - s) → (s = 9 → h = 0) → Bb (headOf s h) = s ∧ (headV (headOf s h)).toNat = h := by
  decide +kernel
theorem head_back : ∀ n, n < 256 → 1 ≤ Bb (UInt8.ofNat n) ∧ Bb (UInt8.ofNat n) ≤ 9 ∧ (headV (UInt8.ofNat n)).toNat < 2 ^ (8 - Bb (UInt8.ofNat n)) ∧ (Bb (UInt8.ofNat n) = 9 → (headV (UInt8.ofNat n)).toNat = 0) ∧ headOf (Bb (UInt8.ofNat n)) (headV (UInt8.ofNat n)).toNat = UInt8.ofNat n := by
  decide +kernel
theorem head_of (f : UInt8) : 1 ≤ Bb f ∧ Bb f ≤ 9 ∧ (headV f).toNat < 2 ^ (8 - Bb f) ∧ (Bb f = 9 → (headV f).toNat = 0) ∧ headOf (Bb f) (headV f).toNat = f := by
  have h := head_back f.toNat f.toNat_lt
  rwa [UInt8.ofNat_toNat] at h

def beN : List UInt8 → Nat
  | [] => 0
  | b :: l => b.toNat * 256 ^ l.length + beN l
theorem beN_lt : ∀ l, beN l < 256 ^ l.length
  | [] => by simp [beN]
  | b :: l => by
    have h1 := beN_lt l
    have h2 := b.toNat_lt
    rw [beN, List.length_cons, Nat.pow_succ]
    have : b.toNat * 256 ^ l.length + 256 ^ l.length ≤ 256 ^ l.length * 256 := by
      rw [← Nat.succ_mul, Nat.mul_comm]
      exact Nat.mul_le_mul_left _ oM
    omega
theorem beN_inj : ∀ (a b : List UInt8), a.length = b.length → beN a = beN b → a = b
  | [], [], _, _ => rfl
  | x :: a, y :: b, hl, h => by
    simp only [List.length_cons, Nat.add_right_cancel_iff] at hl
    rw [beN, beN, hl] at h
    have h1 := beN_lt a
    have h2 := beN_lt b
    rw [hl] at h1
    have hp : 0 < 256 ^ b.length := Nat.pow_pos dE
    have e1 : x.toNat = y.toNat := by
      have d1 : (x.toNat * 256 ^ b.length + beN a) / 256 ^ b.length = x.toNat := by rw [Nat.mul_comm, Nat.mul_add_div hp, Nat.div_eq_of_lt h1, Nat.add_zero]
      have d2 : (y.toNat * 256 ^ b.length + beN b) / 256 ^ b.length = y.toNat := by rw [Nat.mul_comm, Nat.mul_add_div hp, Nat.div_eq_of_lt h2, Nat.add_zero]
      rw [← d1, ← d2, h]
    rw [e1] at h
    rw [UInt8.toNat_inj.1 e1, beN_inj a b hl oM]
theorem beN_tail (x : UInt64) : ∀ k, k ≤ 8 → beN (tailB x k) = x.toNat % 256 ^ k
  | 0, _ => by simp [tailB, beN, Nat.mod_one]
  | k + 1, hk => by
    have hp : 0 < 256 ^ k := Nat.pow_pos dE
    have e : (2 : Nat) ^ (8 * k) = 256 ^ k := by rw [Nat.pow_mul]
    rw [tailB, beN, tailB_length, beN_tail x k oM, UInt64.toNat_toUInt8]
    have e1 : (Bz x (8 * k)).toNat = x.toNat / 256 ^ k := by
      have h : x.toNat / 2 ^ (8 * k) ≤ x.toNat := Nat.div_le_self _ _
      have := x.toNat_lt
      rw [Bz, UInt64.toNat_ofNat', Nat.mod_eq_of_lt oM, e]
    rw [e1]
    have h3 := Nat.mod_mul (a := 256 ^ k) (b := 256) (x := x.toNat)
    have e2 : (256 : Nat) ^ (k + 1) = 256 ^ k * 256 := Nat.pow_succ ..
    have e3 : (2 : Nat) ^ 8 = 256 := by decide
    rw [e2, h3, e3, Nat.mul_comm (256 ^ k)]
    omega
theorem foldB_nat : ∀ (l : List UInt8) (a : UInt64), a.toNat * 256 ^ l.length + beN l < 2 ^ 64 → (foldB a l).toNat = a.toNat * 256 ^ l.length + beN l
  | [], a, _ => by simp [foldB, beN]
  | b :: l, a, h => by
    rw [beN, List.length_cons, Nat.pow_succ] at h
    have hb := b.toNat_lt
    have hp : 0 < 256 ^ l.length := Nat.pow_pos dE
    have e : a.toNat * (256 ^ l.length * 256) + (b.toNat * 256 ^ l.length + beN l) = (a.toNat * 256 + b.toNat) * 256 ^ l.length + beN l := by
      rw [Nat.add_mul, Nat.mul_assoc, Nat.mul_comm 256, Nat.add_assoc]
    rw [e] at h
    have h1 : a.toNat * 256 + b.toNat < 18446744073709551616 := by
      rw [show (2 : Nat) ^ 64 = 18446744073709551616 by decide] at h
      have : (a.toNat * 256 + b.toNat) * 1 ≤ (a.toNat * 256 + b.toNat) * 256 ^ l.length := Nat.mul_le_mul_left _ hp
      omega
    have hs : (shl64 a 8).toNat = a.toNat * 256 := by
      have e0 : a.toNat * 2 ^ 8 = a.toNat * 256 := rfl
      rw [shl64, UInt64.toNat_ofNat', e0, Nat.mod_eq_of_lt (Nat.lt_of_le_of_lt (Nat.le_add_right _ b.toNat) h1)]
    have ho : (shl64 a 8 ||| b.toUInt64).toNat = a.toNat * 256 + b.toNat := by
      rw [UInt64.toNat_or, hs, show b.toUInt64.toNat = b.toNat from by simp]
      rw [show a.toNat * 256 = 2 ^ 8 * a.toNat by omega, Nat.two_pow_add_eq_or_of_lt oM]
    rw [foldB, foldB_nat l _ (by rw [ho]; exact h), ho, beN, List.length_cons, Nat.pow_succ, e]

theorem or_one (x : Nat) : x ||| 1 = if x % 2 = 0 then x + 1 else x := by
  have h := Nat.or_mod_two_pow (a := x) (b := 1) (n := 1)
  have h2 := Nat.or_div_two_pow (a := x) (b := 1) (n := 1)
  simp only [Nat.pow_one] at h h2
  have e : x % 2 = 0 ∨ x % 2 = 1 := by omega
  have hm : (x ||| 1) % 2 = 1 := by
    rw [h]
    rcases e with e | e <;> rw [e] <;> rfl
  have hd : (x ||| 1) / 2 = x / 2 := by rw [h2]; simp
  split <;> omega
theorem or_one_lt {x k : Nat} (hk : 1 ≤ k) : (x ||| 1) < 2 ^ k ↔ x < 2 ^ k := by
  rw [or_one]
  have : 2 ^ k = 2 * 2 ^ (k - 1) := by rw [← Nat.pow_succ']; congr 1; omega
  split <;> omega
theorem szN_le {x s : Nat} (hs : 1 ≤ s) (h8 : s ≤ 8) : szN x ≤ s ↔ x < 2 ^ (7 * s) := by
  rw [← or_one_lt oM, ← bLen_le]
  unfold szN
  omega
theorem szN_hi {x : Nat} (hs : szN x ≤ 8) : x < 2 ^ (7 * szN x) := (szN_le (A2 x).1 hs).1 (Nat.le_refl _)

theorem headB_of (x : UInt64) : ∃ h, headB x = headOf (szN x.toNat) h ∧ h < 2 ^ (8 - szN x.toNat) ∧ (szN x.toNat = 9 → h = 0) ∧ x.toNat = h * 256 ^ (szN x.toNat - 1) + x.toNat % 256 ^ (szN x.toNat - 1) := by
  have hp := A2 x.toNat
  have hx := x.toNat_lt
  have e : (2 : Nat) ^ (8 * (szN x.toNat - 1)) = 256 ^ (szN x.toNat - 1) := by rw [Nat.pow_mul]
  have e1 : (Bz x (8 * (szN x.toNat - 1))).toNat = x.toNat / 256 ^ (szN x.toNat - 1) := by
    have h : x.toNat / 2 ^ (8 * (szN x.toNat - 1)) ≤ x.toNat := Nat.div_le_self _ _
    rw [Bz, UInt64.toNat_ofNat', Nat.mod_eq_of_lt oM, e]
  have hlt : x.toNat / 256 ^ (szN x.toNat - 1) < 2 ^ (8 - szN x.toNat) ∧ (szN x.toNat = 9 → x.toNat / 256 ^ (szN x.toNat - 1) = 0) := by
    by_cases h9 : szN x.toNat = 9
    · rw [h9]
      have : x.toNat / 256 ^ (9 - 1) = 0 := Nat.div_eq_of_lt (by rw [show (256 : Nat) ^ (9 - 1) = 2 ^ 64 by decide]; exact hx)
      rw [this]
      exact ⟨by decide, fun _ => rfl⟩
    · refine ⟨?_, fun h => absurd h h9⟩
      rw [Nat.div_lt_iff_lt_mul (Nat.pow_pos dE), ← e, ← Nat.pow_add]
      have := szN_hi (x := x.toNat) oM
      rwa [show 8 - szN x.toNat + 8 * (szN x.toNat - 1) = 7 * szN x.toNat by omega]
  refine ⟨x.toNat / 256 ^ (szN x.toNat - 1), ?_, hlt.1, hlt.2, (Nat.div_add_mod' _ _).symm⟩
  unfold headB headOf
  congr 1
  apply UInt8.toNat_inj.1
  rw [UInt64.toNat_toUInt8, e1, UInt8.toNat_ofNat']

theorem num_back (x : UInt64) : Bb (headB x) = szN x.toNat ∧ foldB (headV (headB x)) (tailB x (szN x.toNat - 1)) = x := by
  obtain ⟨h, h1, h2, h3, h4⟩ := headB_of x
  have hp := A2 x.toNat
  have hf := head_facts (szN x.toNat) oM hp.1 h h2 h3
  rw [h1]
  refine ⟨hf.1, UInt64.toNat_inj.1 ?_⟩
  have hb := beN_tail x (szN x.toNat - 1) oM
  rw [foldB_nat _ _ (by rw [tailB_length, hf.2, hb, ← h4]; exact x.toNat_lt), tailB_length, hf.2, hb, ← h4]

theorem num_only {f : UInt8} {l : List UInt8} (hl : l.length = Bb f - 1) (hs : szN (foldB (headV f) l).toNat = Bb f) : A6 (foldB (headV f) l) = f :: l := by
  obtain ⟨h1, h2, h3, h4, h5⟩ := head_of f
  have hb := beN_lt l
  rw [hl] at hb
  have hbound : (headV f).toNat * 256 ^ l.length + beN l < 2 ^ 64 := by
    rw [hl]
    have e8 : (256 : Nat) ^ (Bb f - 1) = 2 ^ (8 * (Bb f - 1)) := by rw [Nat.pow_mul]
    by_cases h9 : Bb f = 9
    · have e9 : (256 : Nat) ^ (Bb f - 1) = 2 ^ 64 := by rw [h9]
      rw [h4 h9, Nat.zero_mul, Nat.zero_add, ← e9]
      exact hb
    · have h6 : (headV f).toNat * 256 ^ (Bb f - 1) + 256 ^ (Bb f - 1) ≤ 2 ^ (8 - Bb f) * 256 ^ (Bb f - 1) := by
        rw [← Nat.succ_mul]; exact Nat.mul_le_mul_right _ h3
      have h7 : 2 ^ (8 - Bb f) * 256 ^ (Bb f - 1) = 2 ^ (7 * Bb f) := by
        rw [e8, ← Nat.pow_add]; congr 1; omega
      have h8 : 2 ^ (7 * Bb f) ≤ 2 ^ 64 := Nat.pow_le_pow_right dE oM
      omega
  have hv := foldB_nat l (headV f) hbound
  obtain ⟨x, hx⟩ : ∃ x, foldB (headV f) l = x := ⟨_, rfl⟩
  rw [hx] at hs hv ⊢
  rw [hl] at hv
  have hp : 0 < 256 ^ (Bb f - 1) := Nat.pow_pos dE
  have hdiv : x.toNat / 256 ^ (Bb f - 1) = (headV f).toNat := by
    rw [hv, Nat.mul_comm, Nat.mul_add_div hp, Nat.div_eq_of_lt hb, Nat.add_zero]
  have hmod : x.toNat % 256 ^ (Bb f - 1) = beN l := by
    rw [hv, Nat.mul_comm, Nat.mul_add_mod, Nat.mod_eq_of_lt hb]
  obtain ⟨h, g1, g2, g3, g4⟩ := headB_of x
  rw [hs] at g1 g2 g3 g4
  have hh : h = (headV f).toNat := by
    rw [← hdiv]
    have hm := Nat.mod_lt x.toNat hp
    rw [g4, Nat.mul_comm, Nat.mul_add_div hp, Nat.div_eq_of_lt hm, Nat.add_zero]
  unfold A6
  rw [g1, hh, h5, hs]
  congr 1
  apply beN_inj
  · rw [tailB_length, hl]
  · rw [beN_tail x _ oM, hmod]
end Hw
end

section
namespace Hw
open Go

def le : List UInt8 → Nat
  | [] => 0
  | b :: l => b.toNat + 256 * le l

def L : Nat := 7237005577332262213973186563042994240857116359379907606001950938285454250989


theorem shr64_toNat (x : UInt64) (n : Nat) : (Bz x n).toNat = x.toNat / 2 ^ n := by
  have h : x.toNat / 2 ^ n ≤ x.toNat := Nat.div_le_self _ _
  have := x.toNat_lt
  rw [Bz, UInt64.toNat_ofNat', Nat.mod_eq_of_lt oM]
end Hw
end

section
namespace Hw
open Go
set_option maxRecDepth 100000

structure Row (z : Nat) (a b c d a' b' c' d' r : UInt64) : Prop where
  val : ((a'.toNat * 2 ^ 64 + b'.toNat) * 2 ^ 64 + c'.toNat) * 2 ^ 64 + d'.toNat + r.toNat * 2 ^ 256 = z + (((a.toNat * 2 ^ 64 + b.toNat) * 2 ^ 64 + c.toNat) * 2 ^ 64 + d.toNat)

section
variable (x y0 y1 y2 y3 a b c d h0 h1 h2 h3 k0 k1 k2 : UInt64)
end

end Hw
end

section
namespace Hw
open Go Go.RowKit

theorem add8_eq (x y : UInt8) : IntKind.u8.wrap ((x.toNat : Int) + y.toNat) = ((x + y).toNat : Int) := by
  have := x.toNat_lt; have := y.toNat_lt
  rw [IntKind.wrap_u8, UInt8.toNat_add]; omega
theorem res_none {C : Cx} {fn : Func} {s : St} (hr : fn.results = #[]) : Res C fn s (.tuple #[]) := by
  intro a w r
  simp [results, hr]
section
variable {C : Cx} {ops : Array Oper} {rest : List (Nat × Oper)} {sl : List (Nat × Value)} {hp : List Blk} {Q : St → Prop} {c d : Nat} {ty : TypeId} {pos : String} {af : Array Edge} {g : Option (Nat × Bool)}
variable {xT yT : TypeId} {x y : Operand} {a b : Int} {p q : UInt8}
theorem Tr.add_u8 (hg : An ops sl g = true) (hk : okD c d C.N = true) (hx : Al sl x = some (u8 p)) (hy : Al sl y = some (u8 q))
    (k : Tr C ops rest ⟨(d, u8 (p + q)) :: sl, hp⟩ Q) : Tr C ops ((c, ⟨some d, .binOp .add xT x y yT, ty, pos, af, g⟩) :: rest) ⟨sl, hp⟩ Q :=
  .bin hg hk hx hy (fun w => by simp only [binOp, Op.intArith, add8_eq]; rfl) k
variable {lo hi : Operand} {o i0 len : Nat} {E : TypeId}
end
end Hw
end

section
namespace Hw
open Go
set_option maxRecDepth 100000

theorem wordOf_id (n : Int) (h : 0 ≤ n ∧ n < 18446744073709551616) : ((A8 n).toNat : Int) = n := by
  rw [A8, UInt64.toNat_ofNat']; omega
end Hw
end

section
namespace Hw
open Go Go.RowKit

section
variable {C : Cx} {ops : Array Oper} {rest : List (Nat × Oper)} {sl : List (Nat × Value)} {hp : List Blk} {Q : St → Prop} {c d : Nat} {ty : TypeId} {pos : String} {af : Array Edge} {g : Option (Nat × Bool)}
variable {xT yT : TypeId} {x y : Operand}
theorem Tr.addN (a b : Nat) (hg : An ops sl g = true) (hk : okD c d C.N = true) (hx : Al sl x = some (i64 (a : Int))) (hy : Al sl y = some (i64 (b : Int))) (hr : a + b ≤ 9223372036854775807)
    (k : Tr C ops rest ⟨(d, i64 ((a + b : Nat) : Int)) :: sl, hp⟩ Q) : Tr C ops ((c, ⟨some d, .binOp .add xT x y yT, ty, pos, af, g⟩) :: rest) ⟨sl, hp⟩ Q := by
  refine Tr.aI hg hk hx hy oM ?_
  rwa [show ((a : Int) + b) = ((a + b : Nat) : Int) by omega]
theorem Tr.subN (a b : Nat) (hg : An ops sl g = true) (hk : okD c d C.N = true) (hx : Al sl x = some (i64 (a : Int))) (hy : Al sl y = some (i64 (b : Int))) (hr : b ≤ a ∧ a ≤ 9223372036854775807)
    (k : Tr C ops rest ⟨(d, i64 ((a - b : Nat) : Int)) :: sl, hp⟩ Q) : Tr C ops ((c, ⟨some d, .binOp .sub xT x y yT, ty, pos, af, g⟩) :: rest) ⟨sl, hp⟩ Q := by
  refine .sub_i64 hg hk hx hy oM ?_
  rwa [show ((a : Int) - b) = ((a - b : Nat) : Int) by omega]
theorem Tr.mulN (a b : Nat) (hg : An ops sl g = true) (hk : okD c d C.N = true) (hx : Al sl x = some (i64 (a : Int))) (hy : Al sl y = some (i64 (b : Int))) (hr : a * b ≤ 9223372036854775807)
    (k : Tr C ops rest ⟨(d, i64 ((a * b : Nat) : Int)) :: sl, hp⟩ Q) : Tr C ops ((c, ⟨some d, .binOp .mul xT x y yT, ty, pos, af, g⟩) :: rest) ⟨sl, hp⟩ Q := by
  have e : ((a : Int) * b) = ((a * b : Nat) : Int) := (Int.natCast_mul a b).symm
  refine .mul_i64 hg hk hx hy (by rw [e]; omega) ?_
  rwa [e]
theorem Tr.remN (a b : Nat) (hg : An ops sl g = true) (hk : okD c d C.N = true) (hx : Al sl x = some (i64 (a : Int))) (hy : Al sl y = some (i64 (b : Int))) (hr : 1 ≤ b)
    (k : Tr C ops rest ⟨(d, i64 ((a % b : Nat) : Int)) :: sl, hp⟩ Q) : Tr C ops ((c, ⟨some d, .binOp .rem xT x y yT, ty, pos, af, g⟩) :: rest) ⟨sl, hp⟩ Q := by
  refine .rem_i64 hg hk hx hy oM ?_
  rwa [show ((a : Int) % b) = ((a % b : Nat) : Int) from rfl]
end
end Hw
end

section
namespace Go.Proofs.YtdifpjmfabhpiaaGreat
open Go Hw
set_option maxRecDepth 100000
structure Rdr where
  fB : Sl
  fE : Int
def Rdr.cells (x : Rdr) : List Value := [x.fB.v] ++ ([i64 x.fE])
structure Rdr.ok (x : Rdr) : Prop where
  t : True
theorem Rdr.length {x : Rdr} (h : x.ok) : x.cells.length = 2 := by simp [Rdr.cells, Aa]
theorem Rdr.isCell {x : Rdr} (h : x.ok) : ∀ u ∈ x.cells, isCell u = true := by
  intro u hu
  simp only [Rdr.cells, List.mem_append, List.mem_singleton, Aa, List.mem_map] at hu
  rcases hu with rfl | rfl <;> first | rfl
theorem Rdr.get_fB {x : Rdr} (h : x.ok) : x.cells[0]? = some (x.fB.v) := by simp [Rdr.cells, Aa, List.getElem?_append]
theorem Rdr.set_fB {x : Rdr} (h : x.ok) (v : Sl) : x.cells.set 0 (v.v) = ({ x with fB := v }).cells := by simp [Rdr.cells, Aa, List.set_append]
theorem Rdr.setS_fB {x : Rdr} (h : x.ok) (p : Option Addr) (n c : Nat) : x.cells.set 0 (.slice p n c) = ({ x with fB := ⟨p, n, c⟩ }).cells := Rdr.set_fB h ⟨p, n, c⟩
theorem Rdr.get_fE {x : Rdr} (h : x.ok) : x.cells[1]? = some (i64 x.fE) := by simp [Rdr.cells, Aa, List.getElem?_append]
theorem Rdr.set_fE {x : Rdr} (h : x.ok) (v : Int) : x.cells.set 1 (i64 v) = ({ x with fE := v }).cells := by simp [Rdr.cells, Aa, List.set_append]
def Rdr.zero : Rdr := ⟨Sl.nil, 0⟩
theorem Rdr.zero_ok : Rdr.zero.ok := by constructor <;> first | exact trivial | simp [Rdr.zero]
theorem Rdr.zr : Zr Tryz.prog 183 (agg Rdr.zero.cells) := by unfold Zr; kernel_rfl
end Go.Proofs.YtdifpjmfabhpiaaGreat
end

section
namespace Hw
open Go
set_option maxRecDepth 100000

def ev : List Nat → Nat
  | [] => 0
  | x :: l => x + 256 * ev l
def addC (l : List Nat) (k v : Nat) : List Nat := l.set k (l.getD k 0 + v)
def inn (a b : List UInt8) (i : Nat) (l : List Nat) : Nat → List Nat
  | 0 => l
  | q + 1 => addC (inn a b i l q) (i + q) ((a.getD i 0).toNat * (b.getD q 0).toNat)
def out (a b : List UInt8) : Nat → List Nat
  | 0 => List.replicate 64 0
  | p + 1 => inn a b p (out a b p) 32
end Hw
end

section
namespace Hw
open Go Go.RowKit

structure RowE (s : Sl) (bl : List Blk) (cells : List Value) (n : Nat) : Prop where
  num : s.n = n
  cap : s.n ≤ s.c
  see : ∀ W, Lies bl W → SeesP W s.p cells
  nil : s.p = none → s.c = 0
section
variable {C : Cx} {ops : Array Oper} {rest : List (Nat × Oper)} {sl : List (Nat × Value)} {hp hp' : List Blk} {Q : St → Prop} {c d : Nat} {ty : TypeId} {pos : String} {af : Array Edge} {g : Option (Nat × Bool)}
theorem Tr.appendE {x y : Operand} {b m size by' c2 : Nat} {T tx E E2 : TypeId} {z : Value} {p : Option Addr} (news : List Value) (hg : An ops sl g = true) (hk : okG c d C.N = true)
    (hx : Al sl x = some (.slice (some ⟨b, 0, none⟩) 0 0)) (hy : Al sl y = some (.slice p m c2)) (hu : C.P.underlying T = some (.slice E)) (hut : C.P.underlying tx = some (.slice E2)) (hs : Sz C.P E size) (hz : Zr C.P E z) (hb : By C.P E by') (hzc : z.cells.size = size)
    (hsee : ∀ w, HRep C hp w → SeesP w p news) (hpn : p = none → m = 0) (hcell : ∀ u ∈ news, isCell u = true) (hbig : m ≤ 1000000) (hfit : m * by' ≤ 140737488355328) (hnl : news.length = m * size)
    (k : ∀ s bl, RowE s bl news m → Tr C ops rest ⟨(d, s.v) :: sl, bl ++ hp⟩ Q) :
    Tr C ops ((c, ⟨some d, .call { callee := .builtin .append, args := #[x, y], argTypes := #[T, tx] }, ty, pos, af, g⟩) :: rest) ⟨sl, hp⟩ Q := by
  simp only [okG, Bool.and_eq_true, Bool.or_eq_true] at hk
  have hrow : ∀ q cap', m ≤ cap' → RowE ⟨some ⟨q, 0, none⟩, m, cap'⟩ [⟨q, news, E, cap' * size⟩] news m := fun q cap' h => ⟨rfl, h, fun W hw => (Acc.some (E := E) h hnl).see hw, fun e => by cases e⟩
  refine Tr.grow (ρ := Sl × List Blk) (fun r => RowE r.1 r.2 news m) (fun r => r.1.v) (fun r => r.2) (hk.1.imp nbeq' nbeq') (A4 hg) (B9 (nblt hk.2))
    ⟨by simpa [Known, Op.operands, Call.operands] using known2 hx hy, fun l hl => ?_, fun a w hf hh => ?_⟩ (fun r hr => k r.1 r.2 hr)
  · obtain ⟨q, _, hq⟩ := Ch 0 l
    refine ⟨(⟨some ⟨q, 0, none⟩, m, m⟩, [⟨q, news, E, m * size⟩]), hrow q m (Nat.le_refl _), ?_⟩
    simp only [List.singleton_append, List.map_cons, List.nodup_cons]
    exact ⟨fun h => by obtain ⟨b, hb, e⟩ := List.mem_map.1 h; exact hq b hb e, hl⟩
  · have h1 := hf x (by simp [Op.operands, Call.operands]); rw [hx] at h1
    have h2 := hf y (by simp [Op.operands, Call.operands]); rw [hy] at h2
    simp only [Option.some.injEq] at h1 h2
    unfold Sz at hs; unfold Zr at hz; unfold By at hb
    cases hi : C.P.info? E with
    | none => rw [hi] at hs; simp at hs
    | some i =>
      rw [hi] at hs hz hb
      simp only [Option.map_some, Option.some.injEq, Option.bind_some] at hs hz hb
      subst hs
      have hS : Src C.P i.size tx (.slice p m c2) m news w := Src.ofP hut (hsee w hh) hpn hnl hcell
      unfold Oper.wp
      rcases Nat.eq_zero_or_pos m with rfl | hm
      · obtain rfl : news = [] := List.eq_nil_of_length_eq_zero (by rw [hnl]; simp)
        have hrun : (Builtin.append_ #[T, tx] ty #[.slice (some ⟨b, 0, none⟩) 0 0, .slice p 0 c2]).run C.P w = .ok (.slice (some ⟨b, 0, none⟩) 0 0) w := by
          rcases hS.kind with ⟨e', hk⟩ | hk <;> simp [Builtin.append_, run_underlying hu, run_underlying hk, Go.sizeOf, typeInfo, hi, hS.len, hS.cells, storeCells]
        have hex : (execOp a.eval ⟨some d, .call { callee := .builtin .append, args := #[x, y], argTypes := #[T, tx] }, ty, pos, af, g⟩).run C.P w = .ok (.value (.slice (some ⟨b, 0, none⟩) 0 0)) w := by
          simp [execOp, resolve, invoke, builtin, ← h1, ← h2, hrun]
        rw [hex]
        exact ⟨(⟨some ⟨b, 0, none⟩, 0, 0⟩, []), ⟨rfl, Nat.le_refl _, fun W _ => SeesP.nil, fun e => by cases e⟩, rfl, ⟨Keeps.refl _ _, by simp, by simp, by simp⟩⟩
      · have hold : (Builtin.firstCells i.size 0 (.slice (some ⟨b, 0, none⟩) 0 0)).run C.P w.drew = .ok ([] : List Value).toArray w.drew :=
          run_firstCells_some w.drew i.size 0 ⟨b, 0, none⟩ 0 0 [] sP (fun j u hj => by simp at hj)
        have hrun := run_append_grow_src (P := C.P) w T tx ty E i z hu hi hz (some ⟨b, 0, none⟩) 0 0 [] hold _ m news hS oM oM (growslice_fits oM (by rw [hb]; simpa using hfit))
        simp only [Nat.zero_add, List.nil_append] at hrun
        have hge := grownCap_ge w m 0 E
        have hex : (execOp a.eval ⟨some d, .call { callee := .builtin .append, args := #[x, y], argTypes := #[T, tx] }, ty, pos, af, g⟩).run C.P w = .ok (.value (.slice (some ⟨w.heap.size, 0, none⟩) m (grownCap w m 0 E))) (w.drew.alloc (.cells (news.toArray ++ Builtin.zeroCells z.cells (grownCap w m 0 E - m)) E)) := by
          simp [execOp, resolve, invoke, builtin, ← h1, ← h2, hrun]
        rw [hex]
        refine ⟨(⟨some ⟨w.heap.size, 0, none⟩, m, grownCap w m 0 E⟩, [⟨w.heap.size, news, E, grownCap w m 0 E * i.size⟩]), hrow _ _ hge, rfl, Ret.pushD _ _ _ _ ?_ sP⟩
        have e : grownCap w m 0 E * i.size = m * i.size + (grownCap w m 0 E - m) * i.size := by rw [← Nat.add_mul]; congr 1; omega
        simp [Builtin.zeroCells, hnl, hzc, e]
end
end Hw
end

section
namespace Hw
open Go Go.RowKit
class ST (P : Program) (T : TypeId) (n : outParam Nat) : Prop where h : Sz P T n
theorem sZ {P : Program} {T : TypeId} {n : Nat} [i : ST P T n] : Sz P T n := i.h
theorem oG {p : Prop} (h : p := by first | exact oK | exact ⟨trivial⟩ | exact hW.ok | exact okr | exact rd1_ok _ _ _ _ _ _ | exact hX | exact okB35 | exact okC92 | exact ⟨okC51⟩ | exact okr.o_fCut | exact hro | exact ok21 | exact rdr_ok _ _ _ _ _ _ | exact okX _ | exact his.ok | exact okX5 | exact hK | exact exCert_ok _ _ | exact exCut_ok _ | exact exVote_ok | exact ok16 | exact ok22 | exact ok27 | exact hi.ok | exact okC | exact Be _ | exact hW.1.ok) : p := h
theorem gF {p : Prop} (h : p := by first | exact Rdr.get_fB oG | exact Rdr.get_fE oG | exact Block.get_fLinks oG | exact Cut.get_fHeads oG | exact Cert.get_fVotes oG | exact Kept.get_fVotes oG | exact Cut.get_fHeight oG | exact Kept.get_fCerts oG | exact Kept.get_fCuts oG | exact Reader.get_fAt oG | exact Block.get_fSeq oG | exact Block.get_fData oG | exact Kept.get_fBlocks oG | exact Vote.get_fPhase oG | exact Vote.get_fHeight oG | exact Vote.get_fProof oG | exact Vote.get_fRound oG | exact Reader.get_fErr oG | exact Reader.get_fB oG | exact Record.get_fData oG | exact Record.get_fKind oG | rfl | exact get_words (by first | omega | (simp; done) | (simp; omega)) | exact Bw (by first | omega | (simp; done) | (simp; omega)) | exact get_ints (by first | omega | (simp; done) | (simp; omega))) : p := h
theorem gL {p : Prop} (h : p := by first | exact Kept.length oG | exact Record.length oG | exact Cut.length oG | exact Block.length oG | exact Vote.length oG | exact Rdr.length oG | exact Cert.length oG | exact Reader.length oG | rfl | (simp; done) | assumption | (rw [Aa, List.length_map]; assumption)) : p := h
theorem gC {p : Prop} (h : p := by first | exact Kept.isCell oG | exact Record.isCell oG | exact Cut.isCell oG | exact Block.isCell oG | exact Vote.isCell oG | exact Rdr.isCell oG | exact Cert.isCell oG | exact Reader.isCell oG | exact As _ | (simp [isCell]; done)) : p := h
theorem gS {p : Prop} (h : p := by first | exact Rdr.set_fE oG _ | exact Block.set_fSeq oG _ | exact Reader.set_fAt oG _ | exact Reader.set_fErr oG _ | exact Vote.set_fPhase oG _ | exact Vote.set_fProof oG _ | exact Cut.set_fHeight oG _ | exact Kept.setS_fBlocks oG _ _ _ | exact Kept.setS_fCerts oG _ _ _ | exact Kept.setS_fCuts oG _ _ _ | exact Kept.setS_fVotes oG _ _ _ | exact Kept.set_fBlocks oG _ | exact Kept.set_fCerts oG _ | exact Kept.set_fCuts oG _ | exact Kept.set_fVotes oG _ | exact set_words _ _ _ | exact set_bytes _ _ _ | exact set_ints _ _ _ | rfl) : p := h
theorem gT {p : Prop} (h : p := by first | (rw [Kept.length oG]; decide) | (rw [Record.length oG]; decide) | (rw [Cut.length oG]; decide) | (rw [Block.length oG]; decide) | (rw [Vote.length oG]; decide) | (rw [Rdr.length oG]; decide) | (rw [Cert.length oG]; decide) | (rw [Reader.length oG]; decide)) : p := h
theorem gV {p : Prop} (h : p := by first | exact cv_u8_u64 _ | exact cv_u64_u8 _ | exact cv_u8_i64 _ | exact cv_i64_u64 _ | exact cv_i64_u8 _) : p := h
theorem sY {p : Prop} (h : p := by first | exact sZ | exact Go.Proofs.YtdifpjmfabhpiaaGreat.Sz48 | exact Go.Proofs.YtdifpjmfabhpiaaGreat.Sz58 | exact Go.Proofs.YtdifpjmfabhpiaaGreat.Sz91 | exact Go.Proofs.YtdifpjmfabhpiaaGreat.Sz51 | exact Go.Proofs.YtdifpjmfabhpiaaGreat.Sz53 | exact Go.Proofs.YtdifpjmfabhpiaaGreat.Sz24 | exact Go.Proofs.YtdifpjmfabhpiaaGreat.Sz32 | exact Go.Proofs.YtdifpjmfabhpiaaGreat.Sz27 | exact Go.Proofs.YtdifpjmfabhpiaaGreat.Sz5 | exact Go.Proofs.YtdifpjmfabhpiaaGreat.Sz81 | exact Go.Proofs.YtdifpjmfabhpiaaGreat.Sz50 | exact Go.Proofs.YtdifpjmfabhpiaaGreat.Sz3 | exact Go.Proofs.YtdifpjmfabhpiaaGreat.Sz23 | exact Go.Proofs.YtdifpjmfabhpiaaGreat.Sz79 | exact Go.Proofs.YtdifpjmfabhpiaaGreat.Sz25 | exact Go.Proofs.YtdifpjmfabhpiaaGreat.Sz22 | exact Go.Proofs.YtdifpjmfabhpiaaGreat.Sz55 | exact Go.Proofs.YtdifpjmfabhpiaaGreat.Sz75 | exact Go.Proofs.YtdifpjmfabhpiaaGreat.Sz77 | exact Go.Proofs.YtdifpjmfabhpiaaGreat.Sz129) : p := h
structure Kp (p : Prop) : Prop where o : p
theorem G1 {p q : Prop} (k : q) (h : Kp q → p := by intro k; (first | refine Tr.nil ?_ | with_reducible refine at_n ?_ | with_reducible refine at_x ?_ | with_reducible refine at_r ?_ | with_reducible refine bl_n ?_ | with_reducible refine bl_h ?_ | with_reducible refine bl_r ?_ | with_reducible refine en_n ?_ | with_reducible refine en_r ?_ | with_reducible refine Sat.seq ?_ | with_reducible refine Sat.region ?_ | with_reducible refine Sat.ret ?_ | with_reducible refine Sat.skip ?_ | with_reducible refine Sat.exit ?_ | with_reducible refine Sat.block ?_ | refine Tr.m rfl rfl rfl ?_ | refine Tr.a rfl rfl rfl ?_ | refine Tr.skp rfl rfl ?_ | refine Tr.fld rfl rfl rfl uY rfl sY dE _ rfl ?_ | refine Tr.load1 rfl rfl rfl uY rfl mM gF ?_ | refine Tr.pick rfl rfl rfl rfl rfl rfl ?_ | refine Tr.lenSl rfl rfl rfl uY ?_ | refine Tr.aI rfl rfl rfl rfl oM ?_ | refine Tr.sub_i64 rfl rfl rfl rfl oM ?_ | refine Tr.eX rfl rfl rfl rfl ?_ | refine Tr.nC rfl rfl rfl ?_ | refine Tr.conv rfl rfl rfl uY uY gV ?_ | refine Tr.lss rfl rfl rfl rfl rfl ?_ | refine Tr.gtr rfl rfl rfl rfl rfl ?_ | refine Tr.geq rfl rfl rfl rfl rfl ?_ | refine Tr.leq rfl rfl rfl rfl rfl ?_ | refine Tr.eqi rfl rfl rfl rfl rfl ?_ | refine Tr.nei rfl rfl rfl rfl rfl ?_ | refine Tr.not rfl rfl rfl ?_ | refine Tr.boxA rfl rfl ?_ | refine Tr.sliceArr rfl rfl rfl uY sZ ?_ | refine Tr.add_u64 rfl rfl rfl rfl ?_ | refine Tr.mul_u64 rfl rfl rfl rfl ?_ | refine Tr.and_u64 rfl rfl rfl rfl ?_ | refine Tr.or_u64 rfl rfl rfl rfl ?_ | refine Tr.xor_u64 rfl rfl rfl rfl ?_ | refine Tr.makeFunc rfl rfl rfl rfl ?_ | refine Tr.lA rfl rfl rfl uY rfl sZ mM gL ?_ | refine Tr.sA rfl rfl rfl rfl gC sZ gL mM gL uU ?_ | refine Tr.s1 rfl rfl rfl rfl rfl sZ mM gT gS uU ?_); exact k.o) : p := h ⟨k⟩
theorem G2 {p q : Prop} (k : q) (h : Kp q → p := by intro k; (iterate 2 (refine G1 ?_)); exact k.o) : p := h ⟨k⟩
theorem G3 {p q : Prop} (k : q) (h : Kp q → p := by intro k; (iterate 3 (refine G1 ?_)); exact k.o) : p := h ⟨k⟩
theorem G4 {p q : Prop} (k : q) (h : Kp q → p := by intro k; (iterate 4 (refine G1 ?_)); exact k.o) : p := h ⟨k⟩
theorem G5 {p q : Prop} (k : q) (h : Kp q → p := by intro k; (iterate 5 (refine G1 ?_)); exact k.o) : p := h ⟨k⟩
theorem G6 {p q : Prop} (k : q) (h : Kp q → p := by intro k; (iterate 6 (refine G1 ?_)); exact k.o) : p := h ⟨k⟩
theorem G7 {p q : Prop} (k : q) (h : Kp q → p := by intro k; (iterate 7 (refine G1 ?_)); exact k.o) : p := h ⟨k⟩
theorem G8 {p q : Prop} (k : q) (h : Kp q → p := by intro k; (iterate 8 (refine G1 ?_)); exact k.o) : p := h ⟨k⟩
theorem G9 {p q : Prop} (k : q) (h : Kp q → p := by intro k; (iterate 9 (refine G1 ?_)); exact k.o) : p := h ⟨k⟩
theorem G10 {p q : Prop} (k : q) (h : Kp q → p := by intro k; (iterate 10 (refine G1 ?_)); exact k.o) : p := h ⟨k⟩
theorem G11 {p q : Prop} (k : q) (h : Kp q → p := by intro k; (iterate 11 (refine G1 ?_)); exact k.o) : p := h ⟨k⟩
theorem G12 {p q : Prop} (k : q) (h : Kp q → p := by intro k; (iterate 12 (refine G1 ?_)); exact k.o) : p := h ⟨k⟩
theorem G13 {p q : Prop} (k : q) (h : Kp q → p := by intro k; (iterate 13 (refine G1 ?_)); exact k.o) : p := h ⟨k⟩
theorem G14 {p q : Prop} (k : q) (h : Kp q → p := by intro k; (iterate 14 (refine G1 ?_)); exact k.o) : p := h ⟨k⟩
theorem G15 {p q : Prop} (k : q) (h : Kp q → p := by intro k; (iterate 15 (refine G1 ?_)); exact k.o) : p := h ⟨k⟩
theorem G16 {p q : Prop} (k : q) (h : Kp q → p := by intro k; (iterate 16 (refine G1 ?_)); exact k.o) : p := h ⟨k⟩
theorem G17 {p q : Prop} (k : q) (h : Kp q → p := by intro k; (iterate 17 (refine G1 ?_)); exact k.o) : p := h ⟨k⟩
theorem G18 {p q : Prop} (k : q) (h : Kp q → p := by intro k; (iterate 18 (refine G1 ?_)); exact k.o) : p := h ⟨k⟩
theorem G19 {p q : Prop} (k : q) (h : Kp q → p := by intro k; (iterate 19 (refine G1 ?_)); exact k.o) : p := h ⟨k⟩
theorem G20 {p q : Prop} (k : q) (h : Kp q → p := by intro k; (iterate 20 (refine G1 ?_)); exact k.o) : p := h ⟨k⟩
theorem G21 {p q : Prop} (k : q) (h : Kp q → p := by intro k; (iterate 21 (refine G1 ?_)); exact k.o) : p := h ⟨k⟩
theorem G22 {p q : Prop} (k : q) (h : Kp q → p := by intro k; (iterate 22 (refine G1 ?_)); exact k.o) : p := h ⟨k⟩
theorem G23 {p q : Prop} (k : q) (h : Kp q → p := by intro k; (iterate 23 (refine G1 ?_)); exact k.o) : p := h ⟨k⟩
theorem G24 {p q : Prop} (k : q) (h : Kp q → p := by intro k; (iterate 24 (refine G1 ?_)); exact k.o) : p := h ⟨k⟩
theorem G25 {p q : Prop} (k : q) (h : Kp q → p := by intro k; (iterate 25 (refine G1 ?_)); exact k.o) : p := h ⟨k⟩
theorem G26 {p q : Prop} (k : q) (h : Kp q → p := by intro k; (iterate 26 (refine G1 ?_)); exact k.o) : p := h ⟨k⟩
theorem G27 {p q : Prop} (k : q) (h : Kp q → p := by intro k; (iterate 27 (refine G1 ?_)); exact k.o) : p := h ⟨k⟩
theorem G29 {p q : Prop} (k : q) (h : Kp q → p := by intro k; (iterate 29 (refine G1 ?_)); exact k.o) : p := h ⟨k⟩
theorem G30 {p q : Prop} (k : q) (h : Kp q → p := by intro k; (iterate 30 (refine G1 ?_)); exact k.o) : p := h ⟨k⟩
theorem G31 {p q : Prop} (k : q) (h : Kp q → p := by intro k; (iterate 31 (refine G1 ?_)); exact k.o) : p := h ⟨k⟩
theorem G34 {p q : Prop} (k : q) (h : Kp q → p := by intro k; (iterate 34 (refine G1 ?_)); exact k.o) : p := h ⟨k⟩
theorem G36 {p q : Prop} (k : q) (h : Kp q → p := by intro k; (iterate 36 (refine G1 ?_)); exact k.o) : p := h ⟨k⟩
theorem G40 {p q : Prop} (k : q) (h : Kp q → p := by intro k; (iterate 40 (refine G1 ?_)); exact k.o) : p := h ⟨k⟩
theorem G41 {p q : Prop} (k : q) (h : Kp q → p := by intro k; (iterate 41 (refine G1 ?_)); exact k.o) : p := h ⟨k⟩
theorem G42 {p q : Prop} (k : q) (h : Kp q → p := by intro k; (iterate 42 (refine G1 ?_)); exact k.o) : p := h ⟨k⟩
theorem G48 {p q : Prop} (k : q) (h : Kp q → p := by intro k; (iterate 48 (refine G1 ?_)); exact k.o) : p := h ⟨k⟩
theorem G51 {p q : Prop} (k : q) (h : Kp q → p := by intro k; (iterate 51 (refine G1 ?_)); exact k.o) : p := h ⟨k⟩
end Hw
namespace Go.Proofs.YtdifpjmfabhpiaaGreat
open Go Hw
instance : ST Tryz.prog 48 1 := ⟨Sz48⟩
instance : ST Tryz.prog 58 1 := ⟨Sz58⟩
instance : ST Tryz.prog 91 2 := ⟨Sz91⟩
instance : ST Tryz.prog 51 1 := ⟨Sz51⟩
instance : ST Tryz.prog 53 34 := ⟨Sz53⟩
instance : ST Tryz.prog 24 1 := ⟨Sz24⟩
instance : ST Tryz.prog 32 1 := ⟨Sz32⟩
instance : ST Tryz.prog 27 4 := ⟨Sz27⟩
instance : ST Tryz.prog 5 1 := ⟨Sz5⟩
instance : ST Tryz.prog 81 132 := ⟨Sz81⟩
instance : ST Tryz.prog 50 32 := ⟨Sz50⟩
instance : ST Tryz.prog 3 1 := ⟨Sz3⟩
instance : ST Tryz.prog 23 1 := ⟨Sz23⟩
instance : ST Tryz.prog 79 131 := ⟨Sz79⟩
instance : ST Tryz.prog 25 1 := ⟨Sz25⟩
instance : ST Tryz.prog 22 1 := ⟨Sz22⟩
instance : ST Tryz.prog 55 35 := ⟨Sz55⟩
instance : ST Tryz.prog 75 32 := ⟨Sz75⟩
instance : ST Tryz.prog 77 64 := ⟨Sz77⟩
instance : ST Tryz.prog 129 1 := ⟨Sz129⟩
end Go.Proofs.YtdifpjmfabhpiaaGreat
end

section
namespace Go.Proofs.YtdifpjmfabhpiaaGreat
open Go Hw

def cmpI (a b : Int) : Int := if a < b then -1 else if b < a then 1 else 0
theorem bytealg_run {w : World} {p q : Option Addr} {n m c1 c2 : Nat} {a b : List UInt8} (ha : a.length = n) (hb : b.length = m) (h1 : SeesP w p (Aa a)) (h2 : SeesP w q (Aa b)) :
    (callFunc 208 [.slice p n c1, .slice q m c2].toArray).run Tryz.prog w = .ok (.value (i64 (cmpB a b))) w := by
  rw [run_callFunc_extern Tryz.func208 zK zK zK (e := Extern.BytealgCompare.compare) zK]
  rw [show [Value.slice p n c1, Value.slice q m c2].toArray = #[.slice p n c1, .slice q m c2] from rfl, run_compareB ha hb h1 h2]
  rfl

theorem bytes_cmp (p q : Option Addr) (c1 c2 n m : Nat) (a b : List UInt8) (ha : a.length = n) (hb : b.length = m) : Meets Tryz.prog 123 [.slice p n c1, .slice q m c2] [] (fun W => SeesP W p (Aa a) ∧ SeesP W q (Aa b)) (fun v out => v = i64 (cmpB a b) ∧ out = []) := by
 intro W hW
 refine Ag Tryz.func123 J 8 Tryz.ntmps123 J (G9 ?_)
 refine .extL J J J J (fun w h => bytealg_run ha hb (Ao h J hW.1) (Ao h J hW.2)) (G5 ?_)
 refine ⟨_, [], Ad J J, sP, sP, ?_, rfl⟩
 rfl


def badAt (prev : List UInt8) (ls : List (List UInt8)) (i : Nat) : Bool := decide (ls.getD i [] = List.replicate 32 0) || (decide (ls.getD i [] = prev) || (decide ((0 : Int) < (i : Int)) && decide ((0 : Int) ≤ cmpB (ls.getD (i - 1) []) (ls.getD i []))))
def linksBad (prev : List UInt8) (ls : List (List UInt8)) : Bool := (List.range ls.length).any (badAt prev ls)
def bheadB (B : Block) : Bool := decide ((4294967295 : Int) < (B.fSeq.toNat : Int)) || (!decide (decide (B.fPrev = List.replicate 32 0) = decide ((B.fSeq.toNat : Int) = 0)) || (decide ((16 : Int) < (B.fLinks.n : Int)) || decide ((512 : Int) < (B.fData.n : Int))))
def bhead (B : Block) : Prop := bheadB B = true
theorem linksBad_at {prev : List UInt8} {ls : List (List UInt8)} {k : Nat} (hk : k < ls.length) (h : badAt prev ls k = true) : linksBad prev ls = true := by
  rw [linksBad, List.any_eq_true]; exact ⟨k, List.mem_range.2 hk, h⟩
theorem linksBad_not {prev : List UInt8} {ls : List (List UInt8)} (h : ∀ j, j < ls.length → badAt prev ls j = false) : linksBad prev ls = false := by
  rw [linksBad, List.any_eq_false]; intro x hx; rw [h x (List.mem_range.1 hx)]; simp
def bcheck (B : Block) (ls : List (List UInt8)) : Int := if bheadB B = true then 2 else (if linksBad B.fPrev ls = true then 2 else 0)
theorem bcheck_head {B : Block} {ls : List (List UInt8)} (h : bhead B) : bcheck B ls = 2 := by unfold bcheck; unfold bhead at h; rw [if_pos h]
theorem bcheck_bad {B : Block} {ls : List (List UInt8)} (h : ¬ bhead B) (hb : linksBad B.fPrev ls = true) : bcheck B ls = 2 := by unfold bcheck; unfold bhead at h; rw [if_neg h, if_pos hb]
theorem bcheck_ok {B : Block} {ls : List (List UInt8)} (h : ¬ bhead B) (hb : linksBad B.fPrev ls = false) : bcheck B ls = 0 := by unfold bcheck; unfold bhead at h; rw [if_neg h, if_neg (by rw [hb]; simp)]

theorem block_cmp (a b : List UInt8) (ha : a.length = 32) (hb : b.length = 32) : Meets Tryz.prog 178 [agg (Aa a), agg (Aa b)] [] (fun _ => True) (fun v out => v = i64 (cmpB a b) ∧ out = []) := by
 intro W hW
 refine Ag Tryz.func178 J 8 Tryz.ntmps178 J (G3 ?_)
 intro n2 hn2 hf2
 refine G1 ?_
 intro n3 hn3 hf3
 refine G4 ?_
 refine .draw [(0, 0), (0, 1), (3, 2), (0, 3)] Ba zK (G2 ?_)
 refine .cV J J J J Body123 (bytes_cmp _ _ _ _ _ _ a b ha hb) (fun W2 h => ⟨SeesP.of (Aj h Z1), SeesP.of (Aj h Z0)⟩) ?_
 refine G5 ?_
 refine ⟨_, [], Ad J J, sP, sP, ?_, rfl⟩
 rfl

theorem block_check (B : Block) (hB : B.ok) (ls : List (List UInt8)) : Meets Tryz.prog 82 [agg B.cells] [] (fun W => RowsAt W B.fLinks 32 ls) (fun v out => v = i64 (bcheck B ls) ∧ out = []) := by
 intro W hW
 have hcx : B.fLinks.n ≤ maxLen := hW.max
 simp only [maxLen] at hcx
 have hcn := hW.cap
 refine Ag Tryz.func82 J 65 Tryz.ntmps82 J (G3 ?_)
 intro n1 hn1 hf1
 refine G5 ?_
 refine .build (cs := Aa (List.replicate 32 0)) J J J (fun w => by kernel_rfl) ?_
 refine .alloc (cs := (Aa (List.replicate 32 0))) J Zr50 J ?_
 intro n3 hn3 hf3
 refine .sA J J J J zB Sz50 sP Z0 sP zU ?_
 refine G4 ?_
 refine .draw [(0, 0), (1, 1), (0, 2), (0, 3), (0, 4), (1, 5), (1, 6), (0, 7), (0, 8), (1, 9), (0, 10), (0, 11), (0, 12), (0, 13), (0, 14), (1, 15), (0, 16), (0, 17), (0, 18), (0, 19), (0, 20), (1, 21), (0, 22), (0, 23), (0, 24)] Ba zK (G2 ?_)
 refine two (fun r hr k => Tr.gtr J J J J hr k) (fun hs2_20 => ?_) (fun hs2_20 => ?_)
 ·
  have hs2_2 := of_decide_eq_true hs2_20
  refine G24 ?_
  refine .cond_t J J (G8 ?_)
  refine ⟨_, [], Ad J J, sP, sP, ?_, rfl⟩
  exact congrArg i64 (bcheck_head (by unfold bhead bheadB; simp_all)).symm
 have hs2_2 := of_decide_eq_false hs2_20
 refine G2 ?_
 refine .lN (Aa _) J J J Y50.h J Sz50 Z1 (Block.row_fPrev zA) (Block.rl_fPrev zA) ?_
 refine .lA J J J Y50.h J Sz50 Z0 sP ?_
 refine .eql_bytes J J J J Tryz.eqGuardType50 Y50.h Y5.h Sz5 (by (simp [hB.l_fPrev]; done)) sP J ?_
 refine G3 ?_
 refine two (fun r hr k => Tr.neb J J J J Y4 hr k) (fun hs2_110 => ?_) (fun hs2_110 => ?_)
 ·
  have hs2_11 := nd_t hs2_110
  refine G15 ?_
  refine .cond_t J J (G8 ?_)
  refine ⟨_, [], Ad J J, sP, sP, ?_, rfl⟩
  exact congrArg i64 (bcheck_head (by unfold bhead bheadB; simp_all)).symm
 have hs2_11 := nd_f hs2_110
 refine G5 ?_
 refine two (fun r hr k => Tr.gtr J J J J hr k) (fun hs2_170 => ?_) (fun hs2_170 => ?_)
 ·
  have hs2_17 := of_decide_eq_true hs2_170
  refine G9 ?_
  refine .cond_t J J (G8 ?_)
  refine ⟨_, [], Ad J J, sP, sP, ?_, rfl⟩
  exact congrArg i64 (bcheck_head (by unfold bhead bheadB; simp_all)).symm
 have hs2_17 := of_decide_eq_false hs2_170
 refine G9 ?_
 refine .condP J (fun hc0 => ?_) (fun hc0 => ?_)
 ·
  refine G8 ?_
  refine ⟨_, [], Ad J J, sP, sP, ?_, rfl⟩
  exact congrArg i64 (bcheck_head (by unfold bhead bheadB; simp_all)).symm
 have hnb : ¬ bhead B := by unfold bhead bheadB; simp_all
 refine G12 ?_
 refine .loop (ι := Nat) (fun k => ⟨[(1, ptr n1 0), (3, ptr n3 0), (33, B.fLinks.v), (34, i64 (B.fLinks.n : Int)), (35, i64 (k : Int))], [⟨n3, Aa (List.replicate 32 0), 50, 32⟩, ⟨n1, B.cells, 79, B.cells.length⟩]⟩) (fun k => k ≤ B.fLinks.n ∧ ∀ j, j < k → badAt B.fPrev ls j = false) (fun k => B.fLinks.n - k) (0) ?_ ?_ ?_
 · exact ⟨by omega, fun j hj => by omega⟩
 · exact Ai (wk1 rfl (wk1 rfl (wk1 rfl (wk1 rfl (wk1 rfl wk0))))) (wh1 Z0 (wh1 Z1 wh0)) nD
 rintro k ⟨hk, hg⟩
 refine G6 ?_
 refine .condP J (fun hc1 => ?_) (fun hc1 => ?_)
 ·
  have hk2 : k < B.fLinks.n := by omega
  have hll := hW.len
  obtain ⟨b, o, hbp, hbs⟩ := hW.see.at (by rw [Bi hW.row]; omega)
  have hr0 : (ls.getD k []).length = 32 := Bg hW.row oM
  have hr1 : (ls.getD (k - 1) []).length = 32 := Bg hW.row oM
  refine G2 ?_
  refine .join (ι := Unit) (fun _u => ⟨[(1, ptr n1 0), (3, ptr n3 0), (33, B.fLinks.v), (34, i64 (B.fLinks.n : Int)), (35, i64 (k : Int))], [⟨n3, Aa (List.replicate 32 0), 50, 32⟩, ⟨n1, B.cells, 79, B.cells.length⟩]⟩) (fun _u => badAt B.fPrev ls k = false) ?_ ?_
  ·
   refine G4 ?_
   refine .idxSlP 32 J J J hbp J Y51.h Sz50 k J oM (.loadEN (Aa (ls.getD (k) [])) J J J Y50.h J Sz50 sP (by rw [Aa, List.length_map]; exact Bg hW.row (by rw [hW.len]; omega)) (sees_row hW.row hbs (by rw [hW.len]; omega)) ?_)
   refine .alloc (cs := (Aa (List.replicate 32 0))) J Zr50 J ?_
   intro n5 hn5 hf5
   refine G1 ?_
   refine .sA J J J J zB Sz50 (by (rw [Aa, List.length_map]; assumption)) Z0 sP zU ?_
   refine G3 ?_
   refine .draw [(1, 0), (1, 1), (0, 2), (0, 3), (1, 4), (0, 5), (1, 6), (0, 7), (0, 8), (0, 9), (0, 10), (0, 11), (0, 12), (0, 13), (1, 14), (0, 15), (0, 16), (0, 17), (1, 18), (1, 19), (3, 20), (0, 21), (0, 22), (0, 23)] Ba zK (.lA J J J Y50.h J Sz50 Z0 (by (rw [Aa, List.length_map]; assumption)) ?_)
   refine .lA J J J Y50.h J Sz50 Z1 sP ?_
   refine two (fun r hr k => Tr.eql_bytes J J J J Tryz.eqGuardType50 Y50.h Y5.h Sz5 zA sP hr k) (fun hs7_20 => ?_) (fun hs7_20 => ?_)
   ·
    have hs7_2 := of_decide_eq_true hs7_20
    refine G23 ?_
    refine .cond_t J J (G12 ?_)
    refine ⟨_, [], Ad J J, sP, sP, ?_, rfl⟩
    exact congrArg i64 (bcheck_bad hnb (linksBad_at (k := k) oM (by unfold badAt; simp_all))).symm
   have hs7_2 := of_decide_eq_false hs7_20
   refine G1 ?_
   refine .lA J J J Y50.h J Sz50 Z0 (by (rw [Aa, List.length_map]; assumption)) ?_
   refine G1 ?_
   refine .lN (Aa _) J J J Y50.h J Sz50 Z2 (Block.row_fPrev zA) (Block.rl_fPrev zA) ?_
   refine two (fun r hr k => Tr.eql_bytes J J J J Tryz.eqGuardType50 Y50.h Y5.h Sz5 zA (by (simp [hB.l_fPrev]; done)) hr k) (fun hs7_70 => ?_) (fun hs7_70 => ?_)
   ·
    have hs7_7 := of_decide_eq_true hs7_70
    refine G18 ?_
    refine .cond_t J J (G12 ?_)
    refine ⟨_, [], Ad J J, sP, sP, ?_, rfl⟩
    exact congrArg i64 (bcheck_bad hnb (linksBad_at (k := k) oM (by unfold badAt; simp_all))).symm
   have hs7_7 := of_decide_eq_false hs7_70
   refine G3 ?_
   refine two (fun r hr k => Tr.gtr J J J J hr k) (fun hs7_110 => ?_) (fun hs7_110 => ?_)
   ·
    have hs7_11 := of_decide_eq_true hs7_110
    refine G5 ?_
    refine .idxSlP 32 J J J hbp J Y51.h Sz50 (k - 1) oM oM (.loadEN (Aa (ls.getD (k - 1) [])) J J J Y50.h J Sz50 sP (by rw [Aa, List.length_map]; exact Bg hW.row (by rw [hW.len]; omega)) (sees_row hW.row hbs (by rw [hW.len]; omega)) ?_)
    refine .lA J J J Y50.h J Sz50 Z0 (by (rw [Aa, List.length_map]; assumption)) ?_
    refine .cV J J J J Body178 (block_cmp _ _ hr1 hr0) tV (G5 ?_)
    refine .condP J (fun hc2 => ?_) (fun hc2 => ?_)
    ·
     refine G12 ?_
     refine ⟨_, [], Ad J J, sP, sP, ?_, rfl⟩
     exact congrArg i64 (bcheck_bad hnb (linksBad_at (k := k) oM (by unfold badAt; simp_all))).symm
    refine G3 ?_
    refine ⟨(), by unfold badAt; simp_all, Ai (wk1 J (wk1 J (wk1 J (wk1 J (wk1 J wk0))))) (wh1 Z1 (wh1 Z2 wh0)) nD⟩
   have hs7_11 := of_decide_eq_false hs7_110
   refine G14 ?_
   refine .cond_f J J (G3 ?_)
   refine ⟨(), by unfold badAt; simp_all, Ai (wk1 J (wk1 J (wk1 J (wk1 J (wk1 J wk0))))) (wh1 Z1 (wh1 Z2 wh0)) nD⟩
  intro _u hj
  have hgk := hj
  refine G5 ?_
  exact ⟨k + 1, ⟨by omega, fun j hj => by rcases Nat.lt_succ_iff_lt_or_eq.1 hj with h | rfl; exact hg j h; exact hgk⟩, by omega, Ai (wk1 rfl (wk1 rfl (wk1 rfl (wk1 rfl (wk1 rfl wk0))))) (wh1 Z0 (wh1 Z1 wh0)) nD⟩
 obtain rfl : k = B.fLinks.n := by omega
 refine G12 ?_
 refine ⟨_, [], Ad J J, sP, sP, ?_, rfl⟩
 exact congrArg i64 (bcheck_ok hnb (linksBad_not (by rw [hW.len]; exact hg))).symm
theorem kit_names (s : Sl) (ls : List (List UInt8)) (hn : s.n ≤ 500000) : Meets Tryz.prog 124 [s.v] [] (fun W => RowsAt W s 32 ls) (fun v out => FreshRow v out (Bs ls) 50 s.n 32) := by
 intro W hW
 refine Ag Tryz.func124 J 6 Tryz.ntmps124 J (G7 ?_)
 refine .mkRow (z := agg (Aa (List.replicate 32 0))) [] ([]) J J J Y51.h Sz50 Zr50 J J (by intro v hv; cases hv) dE (rfl) ?_
 intro q0
 refine G1 ?_
 refine .appendSl (z := agg (Aa (List.replicate 32 0))) (by' := 32) (Bs ls) J J J J J Y51.h Y51.h Sz50 Zr50 (by unfold By; kernel_rfl) J (fun w h => Ao h J hW.see) (fun e => by have := hW.nil e; have := hW.cap; omega) (flatB_cell ls) Az J J oM oM oM (by rw [Bi hW.row, hW.len]) ?_
 intro q1 c1 hq1
 refine G5 ?_
 refine ⟨_, [⟨q1, [] ++ Bs ls, 50, c1 * 32⟩], Ad J J, (by intro b hb; rw [List.mem_singleton.1 hb]; exact B7), B2, ⟨q1, c1, by rw [Nat.zero_add], by omega, rfl⟩⟩

theorem kit_own (s : Sl) (l : List UInt8) (hn : s.n ≤ 500000) : Meets Tryz.prog 27 [s.v] [] (fun W => BytesAt W s l) (fun v out => FreshRow v out (Aa l) 5 s.n 1) := by
 intro W hW
 refine Ag Tryz.func27 J 6 Tryz.ntmps27 J (G7 ?_)
 refine .mkRow (z := u8 0) [] ([]) J J J Y58.h Sz5 Zr5 J J (by intro v hv; cases hv) dE (rfl) ?_
 intro q0
 refine G1 ?_
 refine .appendSl (z := u8 0) (by' := 1) (Aa l) J J J J J Y58.h Y58.h Sz5 Zr5 (by unfold By; kernel_rfl) J (fun w h => Ao h J hW.see) (fun e => by have := hW.nil e; have := hW.cap; omega) (by simp [Aa, isCell, u8]) Az J J oM oM oM (by rw [Aa, List.length_map, hW.len, Nat.mul_one]) ?_
 intro q1 c1 hq1
 refine G5 ?_
 refine ⟨_, [⟨q1, [] ++ Aa l, 5, c1 * 1⟩], Ad J J, (by intro b hb; rw [List.mem_singleton.1 hb]; exact B7), B2, ⟨q1, c1, by rw [Nat.zero_add], by omega, rfl⟩⟩

def ownB (B : Block) (q1 c1 q2 c2 : Nat) : Block := { B with fLinks := ⟨some ⟨q1, 0, none⟩, B.fLinks.n, c1⟩, fData := ⟨some ⟨q2, 0, none⟩, B.fData.n, c2⟩ }
theorem ownB_ok {B : Block} (h : B.ok) (q1 c1 q2 c2 : Nat) : (ownB B q1 c1 q2 c2).ok := ⟨h.l_fWriter, h.l_fPrev, h.l_fSig⟩
def OwnedBlock (B : Block) (ls : List (List UInt8)) (l : List UInt8) (v : Value) (out : List Blk) : Prop := ∃ q1 c1 q2 c2, v = agg (ownB B q1 c1 q2 c2).cells ∧ B.fLinks.n ≤ c1 ∧ B.fData.n ≤ c2 ∧ out = [⟨q2, Aa l, 5, c2 * 1⟩, ⟨q1, Bs ls, 50, c1 * 32⟩]
theorem OwnedBlock.loose (B : Block) (ls : List (List UInt8)) (l : List UInt8) : Loose (OwnedBlock B ls l) := fun k hk => by
  obtain ⟨q1, _, h1⟩ := Ch 0 k
  obtain ⟨q2, h2', h2⟩ := Ch (q1 + 1) k
  refine ⟨_, _, ⟨q1, B.fLinks.n, q2, B.fData.n, rfl, Nat.le_refl _, Nat.le_refl _, rfl⟩, ?_⟩
  simp only [List.cons_append, List.nil_append, List.map_cons, List.nodup_cons, List.mem_cons]
  refine ⟨?_, fun h => ?_, hk⟩
  · rintro (h | h)
    · omega
    · obtain ⟨b, hb, e⟩ := List.mem_map.1 h; exact h2 b hb e
  · obtain ⟨b, hb, e⟩ := List.mem_map.1 h; exact h1 b hb e
theorem rows_ext {C : Cx} {hp : List Blk} {w : World} {s : Sl} {m : Nat} {ls : List (List UInt8)} (h : HRep C hp w) (hl : C.lent = []) (hr : RowsAt C.W0 s m ls) : RowsAt w s m ls := ⟨hr.len, hr.row, hr.cap, Ao h hl hr.see, hr.max, hr.nil⟩
theorem bytes_ext {C : Cx} {hp : List Blk} {w : World} {s : Sl} {l : List UInt8} (h : HRep C hp w) (hl : C.lent = []) (hr : BytesAt C.W0 s l) : BytesAt w s l := ⟨hr.len, hr.cap, Ao h hl hr.see, hr.max, hr.nil⟩

theorem kit_own_block (B : Block) (hB : B.ok) (ls : List (List UInt8)) (l : List UInt8) (hn : B.fLinks.n ≤ 500000) (hd : B.fData.n ≤ 500000) : Meets Tryz.prog 37 [agg B.cells] [] (fun W => RowsAt W B.fLinks 32 ls ∧ BytesAt W B.fData l) (OwnedBlock B ls l) := by
 intro W hW
 refine Ag Tryz.func37 J 12 Tryz.ntmps37 J (G3 ?_)
 intro n1 hn1 hf1
 refine .alloc (cs := Block.zero.cells) J Block.zr J ?_
 intro n2 hn2 hf2
 refine G3 ?_
 refine .draw [(0, 0), (1, 1), (0, 3), (1, 4), (3, 2), (0, 6), (3, 5), (4, 7), (0, 8), (4, 9)] Ba zK (G4 ?_)
 refine .call J J J J Body124 (kit_names _ ls hn) (FreshRow.loose _ _ _ _) (fun w h => rows_ext h J hW.1) ?_
 rintro v1 out1 ⟨q1, c1, rfl, hc1, rfl⟩
 refine G1 ?_
 refine .call J J J J Body27 (kit_own _ l hd) (FreshRow.loose _ _ _ _) (fun w h => bytes_ext h J hW.2) ?_
 rintro v2 out2 ⟨q2, c2, rfl, hc2, rfl⟩
 refine .s1 J J J J J Sz51 Z3 (by rw [Block.length zA]; decide) (by exact Block.setS_fLinks zA _ _ _) (by exact upd3) ?_
 refine G1 ?_
 refine .s1 J J J J J Sz58 Z3 (by rw [Block.length (by exact ⟨hB.l_fWriter, hB.l_fPrev, hB.l_fSig⟩)]; decide) (by exact Block.setS_fData (by exact ⟨hB.l_fWriter, hB.l_fPrev, hB.l_fSig⟩) _ _ _) (by exact upd3) ?_
 refine G4 ?_
 refine .lA J J J Y79.h J Sz79 Z3 (Block.length (by exact ⟨hB.l_fWriter, hB.l_fPrev, hB.l_fSig⟩)) ?_
 refine .sA J J J J (Block.isCell (by exact ⟨hB.l_fWriter, hB.l_fPrev, hB.l_fSig⟩)) Sz79 (Block.length (by exact ⟨hB.l_fWriter, hB.l_fPrev, hB.l_fSig⟩)) Z2 (Block.length (by exact Block.zero_ok)) (by exact upd2) ?_
 refine G4 ?_
 refine ⟨_, [⟨q2, Aa l, 5, c2 * 1⟩, ⟨q1, Bs ls, 50, c1 * 32⟩], Bo J J Y79.h J Sz79 Z2 (Block.length (ownB_ok hB q1 c1 q2 c2)), (by intro b hb; rcases List.mem_cons.1 hb with rfl | hb; exact B7; rw [List.mem_singleton.1 hb]; exact mem1), (fun h => h.sublist sP), ⟨q1, c1, q2, c2, rfl, hc1, hc2, rfl⟩⟩

theorem take_step {α : Type} {xs bs : List α} {k : Nat} (d : α) (ha : k < xs.length) (hb : k < bs.length) (h : xs.take k = bs.take k) (he : xs.getD k d = bs.getD k d) : xs.take (k + 1) = bs.take (k + 1) := by
  rw [List.take_succ_eq_append_getElem ha, List.take_succ_eq_append_getElem hb, h]
  have e1 : xs.getD k d = xs[k] := by simp [List.getD, ha]
  have e2 : bs.getD k d = bs[k] := by simp [List.getD, hb]
  rw [← e1, ← e2, he]

theorem digests_eq (p q : Option Addr) (n c1 c2 : Nat) (xs bs : List (List UInt8)) (hra : ∀ l ∈ xs, l.length = 32) (hrb : ∀ l ∈ bs, l.length = 32) (ha : xs.length = n) (hb : bs.length = n) (hn : n ≤ 1000000) : Meets Tryz.prog 130 [.slice p n c1, .slice q n c2] [] (fun W => SeesP W p (Bs xs) ∧ SeesP W q (Bs bs)) (fun v out => v = .bool (decide (xs = bs)) ∧ out = []) := by
 intro W hW
 refine Ag Tryz.func130 J 26 Tryz.ntmps130 J (G12 ?_)
 refine .nei J J J J (show (!decide _) = false from congrArg not (decide_eq_true (rfl))) (G2 ?_)
 refine .cond_f J (rfl) (G9 ?_)
 refine .loop (ι := Nat) (fun k => ⟨[(0, .slice p n c1), (1, .slice q n c2), (5, i64 (k : Int))], []⟩) (fun k => k ≤ n ∧ xs.take k = bs.take k) (fun k => n - k) (0) ?_ ?_ ?_
 · exact ⟨by omega, rfl⟩
 · exact Ai (wk1 rfl (wk1 rfl (wk1 rfl wk0))) wh0 nD
 rintro k ⟨hk, hg⟩
 refine G9 ?_
 refine .condP J (fun hc1 => ?_) (fun hc1 => ?_)
 ·
  have hk2 : k < n := by omega
  obtain ⟨b1, o1, hp1, hs1⟩ := hW.1.at (by rw [Bi hra]; omega)
  obtain ⟨b2, o2, hp2, hs2⟩ := hW.2.at (by rw [Bi hrb]; omega)
  have r1 : (xs.getD k []).length = 32 := Bg hra oM
  have r2 : (bs.getD k []).length = 32 := Bg hrb oM
  refine G5 ?_
  refine .draw [(0, 0), (0, 1), (0, 2), (1, 3), (0, 4), (0, 5), (0, 6), (1, 7), (0, 8)] Ba zK (G2 ?_)
  refine .idxSlP 32 J J J hp1 J Y51.h Sz50 k J oM (.loadEN (Aa (xs.getD k [])) J J J Y50.h J Sz50 sP (by rw [Aa, List.length_map]; exact Bg hra oM) (sees_row hra hs1 oM) ?_)
  refine G2 ?_
  refine .idxSlP 32 J J J hp2 J Y51.h Sz50 k J oM (.loadEN (Aa (bs.getD k [])) J J J Y50.h J Sz50 sP (by rw [Aa, List.length_map]; exact Bg hrb oM) (sees_row hrb hs2 oM) ?_)
  refine .neq_bytes J J J J Tryz.eqGuardType50 Y50.h Y5.h Sz5 zA zA J ?_
  refine G2 ?_
  refine .condNP J (fun hc2 => ?_) (fun hc2 => ?_)
  ·
   refine G12 ?_
   refine ⟨_, [], Ad J J, sP, sP, ?_, rfl⟩
   (rw [decide_eq_false (fun e => hc2 (by rw [e]))]; done)
  refine G9 ?_
  exact ⟨k + 1, ⟨by omega, take_step [] oM oM hg hc2⟩, by omega, Ai (wk1 rfl (wk1 rfl (wk1 rfl wk0))) wh0 nD⟩
 obtain rfl : k = n := by omega
 refine G12 ?_
 refine ⟨_, [], Ad J J, sP, sP, ?_, rfl⟩
 (rw [List.take_of_length_le oM, List.take_of_length_le oM] at hg; rw [decide_eq_true hg]; done)
theorem digests_ne (p q : Option Addr) (n m c1 c2 : Nat) (xs bs : List (List UInt8)) (hra : ∀ l ∈ xs, l.length = 32) (hrb : ∀ l ∈ bs, l.length = 32) (ha : xs.length = n) (hb : bs.length = m) (hn : n ≤ 1000000) (hnm : n ≠ m) : Meets Tryz.prog 130 [.slice p n c1, .slice q m c2] [] (fun W => SeesP W p (Bs xs) ∧ SeesP W q (Bs bs)) (fun v out => v = .bool (decide (xs = bs)) ∧ out = []) := by
 intro W hW
 refine Ag Tryz.func130 J 26 Tryz.ntmps130 J (G12 ?_)
 refine .nei J J J J (show (!decide _) = true from congrArg not (decide_eq_false oM)) (G2 ?_)
 refine .cond_t J (rfl) (G8 ?_)
 refine ⟨_, [], Ad J J, sP, sP, ?_, rfl⟩
 rw [decide_eq_false (fun e => hnm (by rw [← ha, ← hb, e]))]


def len8S : ByteArray := ⟨#[0, 1, 2, 2, 3, 3, 3, 3, 4, 4, 4, 4, 4, 4, 4, 4, 5, 5, 5, 5, 5, 5, 5, 5, 5, 5, 5, 5, 5, 5, 5, 5, 6, 6, 6, 6, 6, 6, 6, 6, 6, 6, 6, 6, 6, 6, 6, 6, 6, 6, 6, 6, 6, 6, 6, 6, 6, 6, 6, 6, 6, 6, 6, 6, 7, 7, 7, 7, 7, 7, 7, 7, 7, 7, 7, 7, 7, 7, 7, 7, 7, 7, 7, 7, 7, 7, 7, 7, 7, 7, 7, 7, 7, 7, 7, 7, 7, 7, 7, 7, 7, 7, 7, 7, 7, 7, 7, 7, 7, 7, 7, 7, 7, 7, 7, 7, 7, 7, 7, 7, 7, 7, 7, 7, 7, 7, 7, 7, 8, 8, 8, 8, 8, 8, 8, 8, 8, 8, 8, 8, 8, 8, 8, 8, 8, 8, 8, 8, 8, 8, 8, 8, 8, 8, 8, 8, 8, 8, 8, 8, 8, 8, 8, 8, 8, 8, 8, 8, 8, 8, 8, 8, 8, 8, 8, 8, 8, 8, 8, 8, 8, 8, 8, 8, 8, 8, 8, 8, 8, 8, 8, 8, 8, 8, 8, 8, 8, 8, 8, 8, 8, 8, 8, 8, 8, 8, 8, 8, 8, 8, 8, 8, 8, 8, 8, 8, 8, 8, 8, 8, 8, 8, 8, 8, 8, 8, 8, 8, 8, 8, 8, 8, 8, 8, 8, 8, 8, 8, 8, 8, 8, 8, 8, 8, 8, 8, 8, 8, 8, 8, 8, 8, 8, 8, 8, 8]⟩
theorem len8_all : ∀ n, n < 256 → len8S.data.toList[n]? = some (UInt8.ofNat (Cd n)) := by decide
theorem len8_get (x : UInt8) : len8S[x.toNat]? = some (UInt8.ofNat (Cd x.toNat)) := by
  have h := len8_all x.toNat x.toNat_lt
  have h2 : x.toNat < len8S.size := x.toNat_lt
  have e : len8S[x.toNat]? = len8S.data.toList[x.toNat]? := by
    rw [getElem?_pos len8S x.toNat h2, List.getElem?_eq_getElem (by exact x.toNat_lt)]
    rfl
  rw [e]; exact h
theorem len8_nat (x : UInt8) : (UInt8.ofNat (Cd x.toNat)).toNat = Cd x.toNat := by
  have : Cd x.toNat ≤ 8 := bLen_le.2 x.toNat_lt
  rw [UInt8.toNat_ofNat', Nat.mod_eq_of_lt oM]

theorem bits_len8 (x : UInt8) : Meets Tryz.prog 232 [u8 x] [] (fun _ => True) (fun v out => v = i64 ((Cd x.toNat : Nat) : Int) ∧ out = []) := by
 intro W hW
 refine Ag Tryz.func232 J 6 Tryz.ntmps232 J (G8 ?_)
 refine .idxStr (s := len8S) J J J J Y9 _ J (len8_get x) (G6 ?_)
 refine ⟨_, [], Ad J J, sP, sP, ?_, rfl⟩
 rw [len8_nat]

theorem bits_lz8 (x : UInt8) : Meets Tryz.prog 189 [u8 x] [] (fun _ => True) (fun v out => v = i64 (8 - ((Cd x.toNat : Nat) : Int)) ∧ out = []) := by
 intro W hW
 have hb : Cd x.toNat ≤ 8 := bLen_le.2 x.toNat_lt
 refine Ag Tryz.func189 J 6 Tryz.ntmps189 J (G8 ?_)
 refine .cV J J J J Body232 (bits_len8 _) tV (G6 ?_)
 refine ⟨_, [], Ad J J, sP, sP, ?_, rfl⟩
 rfl

theorem shr64_nat (x : UInt64) (n : Nat) : (Bz x n).toNat = x.toNat / 2 ^ n := by
  have h : x.toNat / 2 ^ n ≤ x.toNat := Nat.div_le_self _ _
  have := x.toNat_lt
  rw [Bz, UInt64.toNat_ofNat', Nat.mod_eq_of_lt oM]

theorem bits_len64 (x : UInt64) : Meets Tryz.prog 233 [u64 x] [] (fun _ => True) (fun v out => v = i64 ((Cd x.toNat : Nat) : Int) ∧ out = []) := by
 intro W hW
 have hx := x.toNat_lt
 refine Ag Tryz.func233 J 25 Tryz.ntmps233 J (G5 ?_)
 refine .join (ι := UInt64 × Nat) (fun p => ⟨[(0, u64 p.1), (2, i64 (p.2 : Int))], []⟩) (fun p => Cd x.toNat = p.2 + Cd p.1.toNat ∧ p.1.toNat < 2 ^ 32 ∧ p.2 ≤ 32) ?_ ?_
 ·
  refine G6 ?_
  refine .condP J (fun hc0 => ?_) (fun hc0 => ?_)
  ·
   refine G3 ?_
   refine .shr_u64 J J J J 32 J dE (G7 ?_)
   exact ⟨(Bz x 32, 0 + 32), ⟨by simp only [shr64_nat]; have := bLen_shr (n := x.toNat) (k := 32) oM; omega, by simp only [shr64_nat]; omega, by simp only []; omega⟩, Ai (wk1 rfl (wk1 (by rfl) wk0)) wh0 nD⟩
  refine G2 ?_
  exact ⟨(x, 0), ⟨by simp only []; omega, by simp only []; omega, by simp only []; omega⟩, Ai (wk1 rfl (wk1 (by rfl) wk0)) wh0 nD⟩
 intro p hj
 obtain ⟨y, n⟩ := p
 obtain ⟨hb, hy, hn⟩ := hj
 simp only at hb hy hn ⊢
 refine .join (ι := UInt64 × Nat) (fun p => ⟨[(0, u64 p.1), (2, i64 (p.2 : Int))], []⟩) (fun p => Cd x.toNat = p.2 + Cd p.1.toNat ∧ p.1.toNat < 2 ^ 16 ∧ p.2 ≤ 48) ?_ ?_
 ·
  refine G6 ?_
  refine .condP J (fun hc1 => ?_) (fun hc1 => ?_)
  ·
   refine G3 ?_
   refine .shr_u64 J J J J 16 J dE (G9 ?_)
   exact ⟨(Bz y 16, n + 16), ⟨by simp only [shr64_nat]; have := bLen_shr (n := y.toNat) (k := 16) oM; omega, by simp only [shr64_nat]; omega, by simp only []; omega⟩, Ai (wk1 rfl (wk1 (by rfl) wk0)) wh0 nD⟩
  refine G2 ?_
  exact ⟨(y, n), ⟨by simp only []; omega, by simp only []; omega, by simp only []; omega⟩, Ai (wk1 rfl (wk1 (by rfl) wk0)) wh0 nD⟩
 intro p hj
 obtain ⟨y, n⟩ := p
 obtain ⟨hb, hy, hn⟩ := hj
 simp only at hb hy hn ⊢
 refine .join (ι := UInt64 × Nat) (fun p => ⟨[(0, u64 p.1), (2, i64 (p.2 : Int))], []⟩) (fun p => Cd x.toNat = p.2 + Cd p.1.toNat ∧ p.1.toNat < 2 ^ 8 ∧ p.2 ≤ 56) ?_ ?_
 ·
  refine G6 ?_
  refine .condP J (fun hc2 => ?_) (fun hc2 => ?_)
  ·
   refine G3 ?_
   refine .shr_u64 J J J J 8 J dE (G9 ?_)
   exact ⟨(Bz y 8, n + 8), ⟨by simp only [shr64_nat]; have := bLen_shr (n := y.toNat) (k := 8) oM; omega, by simp only [shr64_nat]; omega, by simp only []; omega⟩, Ai (wk1 rfl (wk1 (by rfl) wk0)) wh0 nD⟩
  refine G2 ?_
  exact ⟨(y, n), ⟨by simp only []; omega, by simp only []; omega, by simp only []; omega⟩, Ai (wk1 rfl (wk1 (by rfl) wk0)) wh0 nD⟩
 intro p hj
 obtain ⟨y, n⟩ := p
 obtain ⟨hb, hy, hn⟩ := hj
 simp only at hb hy hn ⊢
 refine G5 ?_
 refine .idxStr (s := len8S) J J J J Y9 _ J (len8_get y.toUInt8) ?_
 have h8 : y.toUInt8.toNat = y.toNat := by simp; omega
 have h9 := len8_nat y.toUInt8
 have h10 : Cd y.toUInt8.toNat ≤ 8 := bLen_le.2 (by rw [h8]; omega)
 refine G7 ?_
 refine ⟨_, [], Ad J J, sP, sP, ?_, rfl⟩
 rw [h9, h8, hb, Int.natCast_add]
theorem oct_size (x : UInt64) : Meets Tryz.prog 191 [u64 x] [] (fun _ => True) (fun v out => v = i64 ((szN x.toNat : Nat) : Int) ∧ out = []) := by
 intro W hW
 have hb : Cd (x ||| 1).toNat ≤ 64 := bLen_le.2 (x ||| 1).toNat_lt
 have ho : (x ||| 1).toNat = x.toNat ||| 1 := by rw [UInt64.toNat_or]; rfl
 refine Ag Tryz.func191 J 9 Tryz.ntmps191 J (G8 ?_)
 refine .or_u64 J J J (show Al _ _ = some (u64 1) from rfl) (.cV J J J J Body233 (bits_len64 _) tV (G1 ?_))
 refine .quo_i64 J J J J oM (.min2 J J J J (rfl) (G5 ?_))
 refine ⟨_, [], Ad J J, sP, sP, ?_, rfl⟩
 rw [szN, ← ho]; congr 1; split <;> omega

theorem oct_grown (p : Option Addr) (n c m : Nat) (l : List UInt8) (hl : l.length = n) (hp : p = none → n = 0) (hn : n ≤ 100000) (hm : m ≤ 100000) : Meets Tryz.prog 186 [.slice p n c, i64 (m : Int)] [] (fun W => SeesP W p (Aa l)) (fun v out => FreshRow v out (Aa l) 5 n 1) := by
 intro W hW
 refine Ag Tryz.func186 J 12 Tryz.ntmps186 J (G11 ?_)
 refine .mkRoom (z := u8 0) (by' := 1) (n + m) J J J J oM Y58.h Sz5 Zr5 (by unfold By; kernel_rfl) J oM oM ?_
 intro n9
 refine G1 ?_
 refine .appendSl (z := u8 0) (by' := 1) (Aa l) J J J J J Y58.h Y58.h Sz5 Zr5 (by unfold By; kernel_rfl) J (fun w h => Ao h J hW) hp (by simp [Aa, isCell, u8]) Az oM J oM oM oM (by simp [Aa, hl]) ?_
 intro q1 c1 hq1
 refine G5 ?_
 refine ⟨_, [⟨q1, [] ++ Aa l, 5, c1 * 1⟩], Ad J J, (by intro b hb; rw [List.mem_singleton.1 hb]; exact B7), B2, ⟨q1, c1, by rw [Nat.zero_add], by omega, rfl⟩⟩

theorem oct_number (q n c : Nat) (l : List UInt8) (x : UInt64) (hl : l.length = n) (hnc : n ≤ c) (hn : n ≤ 200000) : Meets Tryz.prog 198 [.slice (some ⟨q, 0, none⟩) n c, u64 x] [q] (fun W => BlkOk W ⟨q, Aa (l), 5, c * 1⟩) (fun v out => FreshRow v out (Aa (l ++ A6 x)) 5 (n + szN x.toNat) 1) := by
 intro W hW
 have hz := A2 x.toNat
 refine A3 (hp0 := [⟨q, Aa (l), 5, c * 1⟩]) Tryz.func198 J 37 Tryz.ntmps198 J (HRep.one hW) (G8 ?_)
 refine .cV J J J J Body191 (oct_size _) tV (G4 ?_)
 refine .draw [(0, 0), (0, 1), (0, 2), (0, 3), (0, 4), (0, 5), (0, 6), (0, 7), (0, 8), (0, 9), (0, 10), (4, 11), (4, 12), (0, 13)] Ba zK (G3 ?_)
 refine .shl_u8 J J (show Al _ _ = some (u8 255) from rfl) J (9 - szN x.toNat) oM oM (G3 ?_)
 refine .mul_i64 J J J J oM (.shr_u64 J J J J (8 * (szN x.toNat - 1)) oM oM (G1 ?_))
 refine .or_u8 J J J J (.mkRow (z := u8 0) [u8 (headB x)] (Aa [headB x]) J J J Y58.h Sz5 Zr5 J J (by intro v hv; rw [List.mem_singleton.1 hv]; rfl) dE J ?_)
 intro q20
 refine .appendSl (z := u8 0) (by' := 1) (Aa [headB x]) J J J J J Y58.h Y58.h Sz5 Zr5 (by unfold By; kernel_rfl) J (fun w h => SeesP.of (Aj h B7)) (fun e => by cases e) (by simp [Aa, isCell, u8]) (rem_there Az) J (by simp [Aa, hl]) oM oM oM (by rfl) ?_
 intro q1 c1 hq1
 refine G12 ?_
 refine .loop (ι := Nat × Nat × Nat) (fun p => ⟨[(0, .slice (some ⟨p.2.1, 0, none⟩) (n + 1 + p.1) p.2.2), (1, u64 x), (5, i64 ((szN x.toNat : Nat) : Int)), (6, i64 (((szN x.toNat : Nat) : Int) - 2 - (p.1 : Int)))], [⟨p.2.1, Aa (l ++ numUp x p.1), 5, p.2.2 * 1⟩]⟩) (fun p => p.1 ≤ szN x.toNat - 1 ∧ n + 1 + p.1 ≤ p.2.2) (fun p => szN x.toNat - 1 - p.1) ((0, q1, c1)) ?_ ?_ ?_
 · exact ⟨Nat.zero_le _, hq1⟩
 · exact Ai (wk1 rfl (wk1 rfl (wk1 rfl (wk1 (by rw [show (((szN x.toNat : Nat) : Int) - 2 - ((0 : Nat) : Int)) = ((szN x.toNat : Nat) : Int) - 2 by omega]; rfl) wk0)))) (wh1 (by rw [numUp_zero]; simp only [Aa, List.map_append]; exact B7) wh0) nD
 rintro p ⟨hp1, hp2⟩
 refine G7 ?_
 refine .condP J (fun hc0 => ?_) (fun hc0 => ?_)
 ·
  have hp3 : p.1 < szN x.toNat - 1 := by omega
  refine G8 ?_
  refine .mul_i64 J J J J oM (.shr_u64 J J J J (8 * (szN x.toNat - 2 - p.1)) oM oM (G1 ?_))
  refine .mkRow (z := u8 0) [u8 ((Bz x (8 * (szN x.toNat - 2 - p.1))).toUInt8)] (Aa [(Bz x (8 * (szN x.toNat - 2 - p.1))).toUInt8]) J J J Y58.h Sz5 Zr5 J J (by intro v hv; rw [List.mem_singleton.1 hv]; rfl) dE J ?_
  intro q34
  refine .appendSl (z := u8 0) (by' := 1) (Aa [(Bz x (8 * (szN x.toNat - 2 - p.1))).toUInt8]) J J J J J Y58.h Y58.h Sz5 Zr5 (by unfold By; kernel_rfl) J (fun w h => SeesP.of (Aj h B7)) (fun e => by cases e) (by simp [Aa, isCell, u8]) (rem_there Az) J (by rw [Aa, List.length_map, List.length_append, hl, numUp_length x p.1 oM]; omega) oM oM oM (by rfl) ?_
  intro q2 c2 hq2
  refine G10 ?_
  exact ⟨(p.1 + 1, q2, c2), ⟨by simp only []; omega, by simp only []; omega⟩, by simp only []; omega, Ai (wk1 (by rw [show n + 1 + (p.1 + 1) = n + 1 + p.1 + 1 by omega]; rfl) (wk1 rfl (wk1 rfl (wk1 (by rw [show (((szN x.toNat : Nat) : Int) - 2 - ((p.1 + 1 : Nat) : Int)) = ((szN x.toNat : Nat) : Int) - 2 - (p.1 : Int) - 1 by omega]; rfl) wk0)))) (wh1 (by rw [numUp_step x p.1 oM, ← List.append_assoc]; simp only [Aa, List.map_append]; exact B7) wh0) nD⟩
 have hp3 : p.1 = szN x.toNat - 1 := by omega
 refine G13 ?_
 refine ⟨_, [⟨p.2.1, Aa (l ++ A6 x), 5, p.2.2 * 1⟩], Ad J J, (by intro b hb; rw [List.mem_singleton.1 hb, ← numUp_all, ← hp3]; exact B7), B2, ⟨p.2.1, p.2.2, by rw [show n + 1 + p.1 = n + szN x.toNat by omega], by omega, rfl⟩⟩
theorem oct_Number (p : Option Addr) (n c : Nat) (l : List UInt8) (x : UInt64) (hl : l.length = n) (hp : p = none → n = 0) (hn : n ≤ 90000) : Meets Tryz.prog 106 [.slice p n c, u64 x] [] (fun W => SeesP W p (Aa l)) (fun v out => FreshRow v out (Aa (l ++ A6 x)) 5 (n + szN x.toNat) 1) := by
 intro W hW
 have hz := A2 x.toNat
 refine Ag Tryz.func106 J 11 Tryz.ntmps106 J (G9 ?_)
 refine .cV J J J J Body191 (oct_size _) tV (.call J J J J Body186 (oct_grown p n c (szN x.toNat) l hl hp oM oM) (FreshRow.loose _ _ _ _) (fun w h => Ao h J hW) ?_)
 rintro v1 out1 ⟨q1, c1, rfl, hc1, rfl⟩
 refine G1 ?_
 refine .callL (L := [⟨q1, Aa (l), 5, c1 * 1⟩]) J J J J J Body198 (oct_number q1 (n) c1 (l) x (by simp [hl]) hc1 oM) Az lO (fun w h => Ak h Z0) ?_
 rintro v2 out2 ⟨q2, c2, rfl, hc2, rfl⟩
 refine G5 ?_
 refine ⟨_, [⟨q2, Aa (l ++ A6 x), 5, c2 * 1⟩], Ad J J, (by intro b hb; rw [List.mem_singleton.1 hb]; exact B7), B2, ⟨q2, c2, rfl, hc2, rfl⟩⟩

theorem oct_Block (p r : Option Addr) (n c m d : Nat) (l ys : List UInt8) (hl : l.length = n) (hy : ys.length = m) (hp : p = none → n = 0) (hr : r = none → m = 0) (hn : n ≤ 40000) (hm : m ≤ 40000) : Meets Tryz.prog 121 [.slice p n c, .slice r m d] [] (fun W => SeesP W p (Aa l) ∧ SeesP W r (Aa ys)) (fun v out => FreshRow v out (Aa (l ++ A6 (UInt64.ofNat m) ++ ys)) 5 (n + szN m + m) 1) := by
 intro W hW
 have hz := A2 m
 have hw : A8 (m : Int) = UInt64.ofNat m := by simp only [A8]; congr 1; omega
 have hmn : (UInt64.ofNat m).toNat = m := by rw [UInt64.toNat_ofNat', Nat.mod_eq_of_lt oM]
 refine Ag Tryz.func121 J 20 Tryz.ntmps121 J (G10 ?_)
 rw [hw]
 refine G7 ?_
 refine .cV J J J J Body191 (oct_size _) tV ?_
 rw [hmn]
 refine G3 ?_
 refine .call J J J J Body186 (oct_grown p n c (szN m + m) l hl hp oM oM) (FreshRow.loose _ _ _ _) (fun w h => Ao h J hW.1) ?_
 rintro v1 out1 ⟨q1, c1, rfl, hc1, rfl⟩
 refine G1 ?_
 refine .callL (L := [⟨q1, Aa (l), 5, c1 * 1⟩]) J J J J J Body198 (oct_number q1 n c1 l (UInt64.ofNat m) hl hc1 oM) Az lO (fun w h => Ak h Z0) ?_
 rintro v2 out2 ⟨q2, c2, rfl, hc2, rfl⟩
 rw [hmn] at hc2 ⊢
 refine G1 ?_
 refine .appendSl (z := u8 0) (by' := 1) (Aa ys) J J J J J Y58.h Y58.h Sz5 Zr5 (by unfold By; kernel_rfl) J (fun w h => Ao h J hW.2) hr (by simp [Aa, isCell, u8]) Az J (by rw [Aa, List.length_map, List.length_append, Ax, hl, hmn, Nat.mul_one]) oM oM oM (by simp [Aa, hy]) ?_
 intro q3 c3 hq3
 refine G5 ?_
 refine ⟨_, [⟨q3, Aa (l ++ A6 (UInt64.ofNat m) ++ ys), 5, c3 * 1⟩], Ad J J, (by intro b hb; rw [List.mem_singleton.1 hb]; simp only [Aa, List.map_append]; exact B7), B2, ⟨q3, c3, rfl, hq3, rfl⟩⟩


theorem res_none {C : Cx} {fn : Func} {s : St} (hr : fn.results = #[]) : Res C fn s (.tuple #[]) := fun a w r => by
  simp [results, hr]
def rdr (n q N cp at' : Nat) (e : Int) : Reader := ⟨.pointer (some ⟨n, 0, none⟩), ⟨some ⟨q, 0, none⟩, N, cp⟩, (at' : Int), e⟩
theorem rdr_ok (n q N cp at' : Nat) (e : Int) : (rdr n q N cp at' e).ok := ⟨rfl⟩
def RB (n q N cp at' : Nat) (e : Int) : Blk := ⟨n, (rdr n q N cp at' e).cells, 219, 4⟩
theorem rdr_at (n q N cp a k : Nat) (e : Int) : rdr n q N cp (a + k) e = ⟨.pointer (some ⟨n, 0, none⟩), ⟨some ⟨q, 0, none⟩, N, cp⟩, (a : Int) + (k : Int), e⟩ := by simp [rdr]
theorem rb_self {w : World} {n q N cp at' : Nat} {e : Int} (h : BlkOk w (RB n q N cp at' e)) : w.cell? ⟨n, 0, none⟩ = some (ptr n 0) := BlkOk.cell0 h rfl

theorem rd_made (n : Nat) : Meets Tryz.prog 206 [ptr n 0] [] (fun W => W.cell? ⟨n, 0, none⟩ = some (ptr n 0)) (fun v out => v = .bool true ∧ out = []) := by
 intro W hW
 refine Ag Tryz.func206 J 13 Tryz.ntmps206 J (G8 ?_)
 refine .neqNilP J J J J Y129 (G4 ?_)
 refine .loadE J J J Y129 J sP (hW) (G1 ?_)
 refine .eqSameP J J J J Y129 Sz219 (G6 ?_)
 refine ⟨_, [], Ad J J, sP, sP, ?_, rfl⟩
 rfl

theorem rd_take_err (n q N cp at' : Nat) (e : Int) (k : UInt64) (hat : at' ≤ N) (hN : N ≤ cp) (hbig : N ≤ 1000000) (he : ¬ e = 0) : Meets Tryz.prog 187 [ptr n 0, u64 k] [n] (fun W => BlkOk W (RB n q N cp (at') (e))) (fun v out => v = .tuple #[.slice none 0 0, .bool false] ∧ out = [RB n q N cp (at') (e)]) := by
 intro W hW
 have hfB : (rdr n q N cp at' (e)).fB.n = N := rfl
 have hfA : (rdr n q N cp at' (e)).fAt = (at' : Int) := rfl
 have hfE : (rdr n q N cp at' (e)).fErr = (e) := rfl
 have hwd : (A8 (((rdr n q N cp at' (e)).fB.n : Int) - (rdr n q N cp at' (e)).fAt)).toNat = N - at' := by
  rw [hfB, hfA, show ((N : Int) - (at' : Int)) = ((N - at' : Nat) : Int) by omega]; simp only [A8, UInt64.toNat_ofNat']; omega
 refine A3 (hp0 := [RB n q N cp (at') (e)]) Tryz.func187 J 56 Tryz.ntmps187 J (HRep.one hW) (G10 ?_)
 refine .cV J J J J Body206 (rd_made n) (fun w h => rb_self (Ak h Z0)) ?_
 refine G6 ?_
 refine .nei J J J J (show (!decide _) = true from congrArg not (decide_eq_false (he))) (G3 ?_)
 refine .cond_t J (rfl) (G9 ?_)
 refine ⟨_, [RB n q N cp (at') (e)], A9 J J J, (by intro b hb; rw [List.mem_singleton.1 hb]; exact B7), B2, ?_⟩
 exact ⟨rfl, rfl⟩

theorem rd_take_more (n q N cp at' : Nat) (k : UInt64) (hat : at' ≤ N) (hN : N ≤ cp) (hbig : N ≤ 1000000) (hk : N < at' + k.toNat) : Meets Tryz.prog 187 [ptr n 0, u64 k] [n] (fun W => BlkOk W (RB n q N cp (at') (0))) (fun v out => v = .tuple #[.slice none 0 0, .bool false] ∧ out = [RB n q N cp (at') (5)]) := by
 intro W hW
 have hfB : (rdr n q N cp at' (0)).fB.n = N := rfl
 have hfA : (rdr n q N cp at' (0)).fAt = (at' : Int) := rfl
 have hfE : (rdr n q N cp at' (0)).fErr = (0) := rfl
 have hwd : (A8 (((rdr n q N cp at' (0)).fB.n : Int) - (rdr n q N cp at' (0)).fAt)).toNat = N - at' := by
  rw [hfB, hfA, show ((N : Int) - (at' : Int)) = ((N - at' : Nat) : Int) by omega]; simp only [A8, UInt64.toNat_ofNat']; omega
 refine A3 (hp0 := [RB n q N cp (at') (0)]) Tryz.func187 J 56 Tryz.ntmps187 J (HRep.one hW) (G10 ?_)
 refine .cV J J J J Body206 (rd_made n) (fun w h => rb_self (Ak h Z0)) ?_
 refine G6 ?_
 refine .nei J J J J (show (!decide _) = false from congrArg not (decide_eq_true (rfl))) (G3 ?_)
 refine .cond_f J (rfl) (G4 ?_)
 refine .draw [(0, 0), (0, 1), (0, 2), (0, 3), (1, 4), (0, 5), (0, 6), (0, 7), (0, 8), (1, 9), (0, 10), (0, 11), (0, 12)] Ba zK (G12 ?_)
 refine .gtr J J J J (decide_eq_true (by rw [hwd]; omega)) ?_
 refine G2 ?_
 refine .cond_t J (rfl) (G17 ?_)
 refine ⟨_, [RB n q N cp (at') (5)], A9 J J J, (by intro b hb; rw [List.mem_singleton.1 hb]; exact B7), B2, ?_⟩
 exact ⟨rfl, rfl⟩

theorem rd_take_ok (n q N cp at' : Nat) (k : UInt64) (hat : at' ≤ N) (hN : N ≤ cp) (hbig : N ≤ 1000000) (hk : at' + k.toNat ≤ N) : Meets Tryz.prog 187 [ptr n 0, u64 k] [n] (fun W => BlkOk W (RB n q N cp (at') (0))) (fun v out => v = .tuple #[.slice (some ⟨q, if cp = at' then 0 else 0 + at' * 1, none⟩) k.toNat (cp - at'), .bool true] ∧ out = [RB n q N cp (at' + k.toNat) (0)]) := by
 intro W hW
 have hfB : (rdr n q N cp at' (0)).fB.n = N := rfl
 have hfA : (rdr n q N cp at' (0)).fAt = (at' : Int) := rfl
 have hfE : (rdr n q N cp at' (0)).fErr = (0) := rfl
 have hwd : (A8 (((rdr n q N cp at' (0)).fB.n : Int) - (rdr n q N cp at' (0)).fAt)).toNat = N - at' := by
  rw [hfB, hfA, show ((N : Int) - (at' : Int)) = ((N - at' : Nat) : Int) by omega]; simp only [A8, UInt64.toNat_ofNat']; omega
 refine A3 (hp0 := [RB n q N cp (at') (0)]) Tryz.func187 J 56 Tryz.ntmps187 J (HRep.one hW) (G10 ?_)
 refine .cV J J J J Body206 (rd_made n) (fun w h => rb_self (Ak h Z0)) ?_
 refine G6 ?_
 refine .nei J J J J (show (!decide _) = false from congrArg not (decide_eq_true (rfl))) (G3 ?_)
 refine .cond_f J (rfl) (G4 ?_)
 refine .draw [(0, 0), (0, 1), (0, 2), (0, 3), (1, 4), (0, 5), (0, 6), (0, 7), (0, 8), (1, 9), (0, 10), (0, 11), (0, 12)] Ba zK (G12 ?_)
 refine .gtr J J J J (decide_eq_false (by rw [hwd]; omega)) ?_
 refine G2 ?_
 refine .cond_f J (rfl) (G11 ?_)
 refine .join (ι := Unit) (fun _u => ⟨[(0, ptr n 0), (1, u64 k), (6, i64 (at' : Int))], [⟨n, (rdr n q N cp (at' + k.toNat) 0).cells, 219, 4⟩]⟩) (fun _u => True) ?_ ?_
 ·
  refine G6 ?_
  refine .conv J J J Y48.h Y3.h (cv_u64_i64 oM) (G6 ?_)
  refine ⟨(), trivial, Ai (wk1 J (wk1 J (wk1 J wk0))) (wh1 (by rw [rdr_at]; exact B7) wh0) nD⟩
 intro _u hj
 have hfA2 : (rdr n q N cp (at' + k.toNat) 0).fAt = ((at' + k.toNat : Nat) : Int) := rfl
 have hfC2 : (rdr n q N cp (at' + k.toNat) 0).fB.c = cp := rfl
 refine .seq (.draw [(0, 0), (0, 1), (0, 2), (1, 3), (0, 4), (0, 5), (0, 6), (0, 7), (1, 8), (0, 9), (0, 10), (0, 11)] Ba zK (G9 ?_))
 refine .sliceLoHiN at' (at'+k.toNat) J J J J J J oM oM oM Y58.h Sz5 (G6 ?_)
 refine ⟨_, [RB n q N cp (at' + k.toNat) (0)], A9 J J J, (by intro b hb; rw [List.mem_singleton.1 hb]; exact B7), B2, ?_⟩
 exact ⟨congrArg (fun z => Value.tuple #[.slice (some ⟨q, if cp = at' then 0 else 0 + at' * 1, none⟩) z (cp - at'), .bool true]) (Nat.add_sub_cancel_left ..), rfl⟩
theorem rd_fail (n q N cp at' : Nat) (e : Int) (a : Nat) (e2 : Int) : Meets Tryz.prog 190 [ptr n 0, i64 (a : Int), i64 e2] [n] (fun W => BlkOk W (RB n q N cp at' e)) (fun v out => v = .tuple #[] ∧ out = [RB n q N cp (a) (e2)]) := by
 intro W hW
 refine A3 (hp0 := [RB n q N cp at' e]) Tryz.func190 J 14 Tryz.ntmps190 J (HRep.one hW) (G17 ?_)
 refine ⟨_, [RB n q N cp (a) (e2)], res_none J, (by intro b hb; rw [List.mem_singleton.1 hb]; exact B7), B2, ?_⟩
 exact ⟨rfl, rfl⟩

theorem rd_take_first (n q N cp at' : Nat) (hat : at' < N) (hN : N ≤ cp) (hbig : N ≤ 1000000) : Meets Tryz.prog 187 [ptr n 0, u64 1] [n] (fun W => BlkOk W (RB n q N cp at' 0)) (fun v out => v = .tuple #[.slice (some ⟨q, at', none⟩) 1 (cp - at'), .bool true] ∧ out = [RB n q N cp (at' + 1) 0]) := by
  have := rd_take_ok n q N cp at' 1 oM hN hbig (by show at' + 1 ≤ N; omega)
  rw [if_neg oM, Nat.zero_add, Nat.mul_one] at this
  exact this

theorem rd_num_err (n q N cp at' : Nat) (e : Int) (xs : List UInt8) (hx : xs.length = N) (hat : at' ≤ N) (hN : N ≤ cp) (hbig : N ≤ 1000000) (he : ¬ e = 0) : Meets Tryz.prog 94 [ptr n 0] [n] (fun W => BlkOk W (RB n q N cp (at') (e)) ∧ B8 W q 0 (Aa xs) ∧ q ≠ n) (fun v out => v = u64 0 ∧ out = [RB n q N cp (at') (e)]) := by
 intro W hW
 have hb8 := b8_le (xs.getD at' 0)
 have hcw := cnt_word (xs.getD at' 0)
 have hcn : (Bb (xs.getD at' 0)) = 9 - Cd (255 ^^^ (xs.getD at' 0)).toNat := rfl
 refine A3 (hp0 := [RB n q N cp (at') (e)]) Tryz.func94 J 73 Tryz.ntmps94 J (HRep.one hW.1) (G2 ?_)
 refine .a J J (show Al _ _ = some (u64 0) from rfl) (G5 ?_)
 refine .callL (L := [RB n q N cp (at') (e)]) J J J J J Body187 (rd_take_err n q N cp at' e 1 hat hN hbig he) Az lO (fun w h => Ak h Z0) ?_
 rintro v2 out2 ⟨rfl, rfl⟩
 refine G14 ?_
 refine .cond_t J (rfl) (G2 ?_)
 refine .a J J (show Al _ _ = some (u64 0) from rfl) (G5 ?_)
 refine ⟨_, [RB n q N cp (at') (e)], Ad J J, (by intro b hb; rw [List.mem_singleton.1 hb]; exact B7), B2, ?_⟩
 exact ⟨rfl, rfl⟩

theorem rd_num_end (n q N cp at' : Nat) (xs : List UInt8) (hx : xs.length = N) (hat : at' ≤ N) (hN : N ≤ cp) (hbig : N ≤ 1000000) (hk : N ≤ at') : Meets Tryz.prog 94 [ptr n 0] [n] (fun W => BlkOk W (RB n q N cp (at') (0)) ∧ B8 W q 0 (Aa xs) ∧ q ≠ n) (fun v out => v = u64 0 ∧ out = [RB n q N cp (at') (5)]) := by
 intro W hW
 have hb8 := b8_le (xs.getD at' 0)
 have hcw := cnt_word (xs.getD at' 0)
 have hcn : (Bb (xs.getD at' 0)) = 9 - Cd (255 ^^^ (xs.getD at' 0)).toNat := rfl
 refine A3 (hp0 := [RB n q N cp (at') (0)]) Tryz.func94 J 73 Tryz.ntmps94 J (HRep.one hW.1) (G2 ?_)
 refine .a J J (show Al _ _ = some (u64 0) from rfl) (G5 ?_)
 refine .callL (L := [RB n q N cp (at') (0)]) J J J J J Body187 (rd_take_more n q N cp at' 1 hat hN hbig (by show N < at' + 1; omega)) Az lO (fun w h => Ak h Z0) ?_
 rintro v2 out2 ⟨rfl, rfl⟩
 refine G14 ?_
 refine .cond_t J (rfl) (G2 ?_)
 refine .a J J (show Al _ _ = some (u64 0) from rfl) (G5 ?_)
 refine ⟨_, [RB n q N cp (at') (5)], Ad J J, (by intro b hb; rw [List.mem_singleton.1 hb]; exact B7), B2, ?_⟩
 exact ⟨rfl, rfl⟩

theorem rd_num_short (n q N cp at' : Nat) (xs : List UInt8) (hx : xs.length = N) (hat : at' ≤ N) (hN : N ≤ cp) (hbig : N ≤ 1000000) (hk : at' < N) (hk2 : N < at' + (Bb (xs.getD at' 0))) : Meets Tryz.prog 94 [ptr n 0] [n] (fun W => BlkOk W (RB n q N cp (at') (0)) ∧ B8 W q 0 (Aa xs) ∧ q ≠ n) (fun v out => v = u64 0 ∧ out = [RB n q N cp (at') (5)]) := by
 intro W hW
 have hb8 := b8_le (xs.getD at' 0)
 have hcw := cnt_word (xs.getD at' 0)
 have hcn : (Bb (xs.getD at' 0)) = 9 - Cd (255 ^^^ (xs.getD at' 0)).toNat := rfl
 refine A3 (hp0 := [RB n q N cp (at') (0)]) Tryz.func94 J 73 Tryz.ntmps94 J (HRep.one hW.1) (G2 ?_)
 refine .a J J (show Al _ _ = some (u64 0) from rfl) (G5 ?_)
 refine .callL (L := [RB n q N cp (at') (0)]) J J J J J Body187 (rd_take_first n q N cp at' oM hN hbig) Az lO (fun w h => Ak h Z0) ?_
 rintro v2 out2 ⟨rfl, rfl⟩
 refine G14 ?_
 refine .cond_f J (rfl) (G2 ?_)
 refine .join (ι := Unit) (fun _u => ⟨[(0, ptr n 0), (3, .slice (some ⟨q, at', none⟩) 1 (cp - at')), (5, i64 (at' : Int))], [⟨n, (rdr n q N cp (at' + 1) (0)).cells, 219, 4⟩]⟩) (fun _u => True) ?_ ?_
 ·
  refine G5 ?_
  have hfA4 : (rdr n q N cp (at' + 1) 0).fAt = ((at' + 1 : Nat) : Int) := rfl
  refine G4 ?_
  refine ⟨(), trivial, Ai (wk1 J (wk1 J (wk1 (congrArg (fun z => some (i64 z)) (show (rdr n q N cp (at' + 1) 0).fAt - 1 = (at' : Int) by simp [rdr])) wk0))) (wh1 Z0 wh0) nD⟩
 intro _u hj
 skip
 refine G3 ?_
 refine .idxSlO J J J J Y58.h Sz5 0 J oM (.loadE J J J Y5.h J (by (simp; exact hW.2.2)) ((by have := hW.2.1 at' _ (Bw oM); rwa [Nat.zero_add] at this)) ?_)
 refine .not_u8 J J J (.cV J J J J Body189 (bits_lz8 _) tV (G10 ?_))
 refine .callL (L := [RB n q N cp (at' + 1) (0)]) J J J J J Body187 (rd_take_more n q N cp (at' + 1) (A8 (8 - ((Cd (255 ^^^ (xs.getD at' 0)).toNat : Nat) : Int) + 1 - 1)) oM hN hbig (by rw [hcw]; omega)) Az lO (fun w h => Ak h Z0) ?_
 rintro v2 out2 ⟨rfl, rfl⟩
 refine G14 ?_
 refine .cond_t J (rfl) (G8 ?_)
 refine .callL (L := [RB n q N cp (at' + 1) (5)]) J J J J J Body190 (rd_fail n q N cp (at' + 1) 5 at' 5) Az lO (fun w h => Ak h Z0) ?_
 rintro v2 out2 ⟨rfl, rfl⟩
 refine G4 ?_
 refine .a J J (show Al _ _ = some (u64 0) from rfl) (G5 ?_)
 refine ⟨_, [RB n q N cp (at') (5)], Ad J J, (by intro b hb; rw [List.mem_singleton.1 hb]; exact B7), B2, ?_⟩
 exact ⟨rfl, rfl⟩
theorem rd_num_bad (n q N cp at' : Nat) (xs : List UInt8) (hx : xs.length = N) (hat : at' ≤ N) (hN : N ≤ cp) (hbig : N ≤ 1000000) (hk2 : at' + (Bb (xs.getD at' 0)) ≤ N) (hz : ¬ szN (numV xs at').toNat = (Bb (xs.getD at' 0))) : Meets Tryz.prog 94 [ptr n 0] [n] (fun W => BlkOk W (RB n q N cp (at') (0)) ∧ B8 W q 0 (Aa xs) ∧ q ≠ n) (fun v out => v = u64 0 ∧ out = [RB n q N cp (at') (4)]) := by
 intro W hW
 have hb8 := b8_le (xs.getD at' 0)
 have hcw := cnt_word (xs.getD at' 0)
 have hcn : (Bb (xs.getD at' 0)) = 9 - Cd (255 ^^^ (xs.getD at' 0)).toNat := rfl
 refine A3 (hp0 := [RB n q N cp (at') (0)]) Tryz.func94 J 73 Tryz.ntmps94 J (HRep.one hW.1) (G2 ?_)
 refine .a J J (show Al _ _ = some (u64 0) from rfl) (G5 ?_)
 refine .callL (L := [RB n q N cp (at') (0)]) J J J J J Body187 (rd_take_first n q N cp at' oM hN hbig) Az lO (fun w h => Ak h Z0) ?_
 rintro v2 out2 ⟨rfl, rfl⟩
 refine G14 ?_
 refine .cond_f J (rfl) (G2 ?_)
 refine .join (ι := Unit) (fun _u => ⟨[(0, ptr n 0), (3, .slice (some ⟨q, at', none⟩) 1 (cp - at')), (5, i64 (at' : Int))], [⟨n, (rdr n q N cp (at' + 1) (0)).cells, 219, 4⟩]⟩) (fun _u => True) ?_ ?_
 ·
  refine G5 ?_
  have hfA4 : (rdr n q N cp (at' + 1) 0).fAt = ((at' + 1 : Nat) : Int) := rfl
  refine G4 ?_
  refine ⟨(), trivial, Ai (wk1 J (wk1 J (wk1 (congrArg (fun z => some (i64 z)) (show (rdr n q N cp (at' + 1) 0).fAt - 1 = (at' : Int) by simp [rdr])) wk0))) (wh1 Z0 wh0) nD⟩
 intro _u hj
 skip
 refine G3 ?_
 refine .idxSlO J J J J Y58.h Sz5 0 J oM (.loadE J J J Y5.h J (by (simp; exact hW.2.2)) ((by have := hW.2.1 at' _ (Bw oM); rwa [Nat.zero_add] at this)) ?_)
 refine .not_u8 J J J (.cV J J J J Body189 (bits_lz8 _) tV (G10 ?_))
 refine .callL (L := [RB n q N cp (at' + 1) (0)]) J J J J J Body187 (rd_take_ok n q N cp (at' + 1) (A8 (8 - ((Cd (255 ^^^ (xs.getD at' 0)).toNat : Nat) : Int) + 1 - 1)) oM hN hbig (by rw [hcw]; omega)) Az lO (fun w h => Ak h Z0) ?_
 rintro v2 out2 ⟨rfl, rfl⟩
 refine G14 ?_
 refine .cond_f J (rfl) (G2 ?_)
 refine .join (ι := Unit) (fun _u => ⟨[(0, ptr n 0), (5, i64 (at' : Int)), (6, i64 (8 - ((Cd (255 ^^^ (xs.getD at' 0)).toNat : Nat) : Int) + 1)), (7, .slice (some ⟨q, if cp = at' + 1 then 0 else 0 + (at' + 1) * 1, none⟩) (A8 (8 - ((Cd (255 ^^^ (xs.getD at' 0)).toNat : Nat) : Int) + 1 - 1)).toNat (cp - (at' + 1))), (8, u64 (foldB (headV (xs.getD at' 0)) ((xs.drop (at' + 1)).take 0)))], [⟨n, (rdr n q N cp (at' + 1 + (A8 (8 - ((Cd (255 ^^^ (xs.getD at' 0)).toNat : Nat) : Int) + 1 - 1)).toNat) (0)).cells, 219, 4⟩]⟩) (fun _u => True) ?_ ?_
 ·
  refine .draw [(0, 0), (0, 1), (1, 2), (0, 3), (0, 4), (0, 5), (0, 6), (0, 7)] Ba zK (G1 ?_)
  refine .idxSlO J J J J Y58.h Sz5 0 J oM (.loadE J J J Y5.h J (by (simp; exact hW.2.2)) ((by have := hW.2.1 at' _ (Bw oM); rwa [Nat.zero_add] at this)) ?_)
  refine G1 ?_
  refine .shr_u8w J J (show Al _ _ = some (u8 255) from rfl) J (Bb (xs.getD at' 0)) oM (.and_u8 J J J J (G4 ?_))
  refine ⟨(), trivial, Ai (wk1 J (wk1 J (wk1 J (wk1 J (wk1 J wk0))))) (wh1 Z0 wh0) nD⟩
 intro _u hj
 skip
 refine G9 ?_
 refine .loop (ι := Nat) (fun j => ⟨[(0, ptr n 0), (5, i64 (at' : Int)), (6, i64 (8 - ((Cd (255 ^^^ (xs.getD at' 0)).toNat : Nat) : Int) + 1)), (53, .slice (some ⟨q, if cp = at' + 1 then 0 else 0 + (at' + 1) * 1, none⟩) (A8 (8 - ((Cd (255 ^^^ (xs.getD at' 0)).toNat : Nat) : Int) + 1 - 1)).toNat (cp - (at' + 1))), (54, i64 ((A8 (8 - ((Cd (255 ^^^ (xs.getD at' 0)).toNat : Nat) : Int) + 1 - 1)).toNat : Int)), (55, i64 (j : Int)), (8, u64 (foldB (headV (xs.getD at' 0)) ((xs.drop (at' + 1)).take j)))], [⟨n, (rdr n q N cp (at' + 1 + (A8 (8 - ((Cd (255 ^^^ (xs.getD at' 0)).toNat : Nat) : Int) + 1 - 1)).toNat) (0)).cells, 219, 4⟩]⟩) (fun j => j ≤ (A8 (8 - ((Cd (255 ^^^ (xs.getD at' 0)).toNat : Nat) : Int) + 1 - 1)).toNat) (fun j => (A8 (8 - ((Cd (255 ^^^ (xs.getD at' 0)).toNat : Nat) : Int) + 1 - 1)).toNat - j) (0) ?_ ?_ ?_
 · exact Nat.zero_le _
 · exact Ai (wk1 rfl (wk1 rfl (wk1 rfl (wk1 rfl (wk1 rfl (wk1 rfl (wk1 rfl wk0))))))) (wh1 Z0 wh0) nD
 rintro j hj
 refine G6 ?_
 refine .condP J (fun hc2 => ?_) (fun hc2 => ?_)
 ·
  have hj2 : j < (A8 (8 - ((Cd (255 ^^^ (xs.getD at' 0)).toNat : Nat) : Int) + 1 - 1)).toNat := by omega
  refine G6 ?_
  refine .idxSlO J J J J Y58.h Sz5 _ J oM (.loadE J J J Y5.h J (by (simp; exact hW.2.2)) ((by have h9 := hW.2.1 (at' + 1 + j) _ (Bw oM); rw [if_neg oM]; rw [Nat.zero_add] at h9; rw [show 0 + (at' + 1) * 1 + j = at' + 1 + j by omega]; exact h9)) ?_)
  refine G5 ?_
  refine .shl_u64 J J J J 8 J dE (G12 ?_)
  exact ⟨j + 1, by omega, by omega, Ai (wk1 rfl (wk1 rfl (wk1 rfl (wk1 rfl (wk1 rfl (wk1 rfl (wk1 (by rw [foldB_step xs (at' + 1) j _ oM]; rfl) wk0))))))) (wh1 Z0 wh0) nD⟩
 have hj2 : j = (Bb (xs.getD at' 0)) - 1 := by omega
 refine G8 ?_
 have hnv : numV xs at' = foldB (headV (xs.getD at' 0)) ((xs.drop (at' + 1)).take j) := by rw [numV, hj2]
 refine G1 ?_
 refine .cV J J J J Body191 (oct_size _) tV (G1 ?_)
 refine .nei J J J J (show (!decide _) = true from congrArg not (decide_eq_false (by rw [← hnv]; omega))) ?_
 refine G2 ?_
 refine .cond_t J (rfl) (G4 ?_)
 refine .callL (L := [RB n q N cp (at' + 1 + (A8 (8 - ((Cd (255 ^^^ (xs.getD at' 0)).toNat : Nat) : Int) + 1 - 1)).toNat) (0)]) J J J J J Body190 (rd_fail n q N cp (at' + 1 + (A8 (8 - ((Cd (255 ^^^ (xs.getD at' 0)).toNat : Nat) : Int) + 1 - 1)).toNat) 0 at' 4) Az lO (fun w h => Ak h Z0) ?_
 rintro v2 out2 ⟨rfl, rfl⟩
 refine G4 ?_
 refine .a J J (show Al _ _ = some (u64 0) from rfl) (G5 ?_)
 refine ⟨_, [RB n q N cp (at') (4)], Ad J J, (by intro b hb; rw [List.mem_singleton.1 hb]; exact B7), B2, ?_⟩
 exact ⟨rfl, rfl⟩
theorem rd_num_ok (n q N cp at' : Nat) (xs : List UInt8) (hx : xs.length = N) (hat : at' ≤ N) (hN : N ≤ cp) (hbig : N ≤ 1000000) (hk2 : at' + (Bb (xs.getD at' 0)) ≤ N) (hz : szN (numV xs at').toNat = (Bb (xs.getD at' 0))) : Meets Tryz.prog 94 [ptr n 0] [n] (fun W => BlkOk W (RB n q N cp (at') (0)) ∧ B8 W q 0 (Aa xs) ∧ q ≠ n) (fun v out => v = u64 (numV xs at') ∧ out = [RB n q N cp (at' + (Bb (xs.getD at' 0))) (0)]) := by
 intro W hW
 have hb8 := b8_le (xs.getD at' 0)
 have hcw := cnt_word (xs.getD at' 0)
 have hcn : (Bb (xs.getD at' 0)) = 9 - Cd (255 ^^^ (xs.getD at' 0)).toNat := rfl
 refine A3 (hp0 := [RB n q N cp (at') (0)]) Tryz.func94 J 73 Tryz.ntmps94 J (HRep.one hW.1) (G2 ?_)
 refine .a J J (show Al _ _ = some (u64 0) from rfl) (G5 ?_)
 refine .callL (L := [RB n q N cp (at') (0)]) J J J J J Body187 (rd_take_first n q N cp at' oM hN hbig) Az lO (fun w h => Ak h Z0) ?_
 rintro v2 out2 ⟨rfl, rfl⟩
 refine G14 ?_
 refine .cond_f J (rfl) (G2 ?_)
 refine .join (ι := Unit) (fun _u => ⟨[(0, ptr n 0), (3, .slice (some ⟨q, at', none⟩) 1 (cp - at')), (5, i64 (at' : Int))], [⟨n, (rdr n q N cp (at' + 1) (0)).cells, 219, 4⟩]⟩) (fun _u => True) ?_ ?_
 ·
  refine G5 ?_
  have hfA4 : (rdr n q N cp (at' + 1) 0).fAt = ((at' + 1 : Nat) : Int) := rfl
  refine G4 ?_
  refine ⟨(), trivial, Ai (wk1 J (wk1 J (wk1 (congrArg (fun z => some (i64 z)) (show (rdr n q N cp (at' + 1) 0).fAt - 1 = (at' : Int) by simp [rdr])) wk0))) (wh1 Z0 wh0) nD⟩
 intro _u hj
 skip
 refine G3 ?_
 refine .idxSlO J J J J Y58.h Sz5 0 J oM (.loadE J J J Y5.h J (by (simp; exact hW.2.2)) ((by have := hW.2.1 at' _ (Bw oM); rwa [Nat.zero_add] at this)) ?_)
 refine .not_u8 J J J (.cV J J J J Body189 (bits_lz8 _) tV (G10 ?_))
 refine .callL (L := [RB n q N cp (at' + 1) (0)]) J J J J J Body187 (rd_take_ok n q N cp (at' + 1) (A8 (8 - ((Cd (255 ^^^ (xs.getD at' 0)).toNat : Nat) : Int) + 1 - 1)) oM hN hbig (by rw [hcw]; omega)) Az lO (fun w h => Ak h Z0) ?_
 rintro v2 out2 ⟨rfl, rfl⟩
 refine G14 ?_
 refine .cond_f J (rfl) (G2 ?_)
 refine .join (ι := Unit) (fun _u => ⟨[(0, ptr n 0), (5, i64 (at' : Int)), (6, i64 (8 - ((Cd (255 ^^^ (xs.getD at' 0)).toNat : Nat) : Int) + 1)), (7, .slice (some ⟨q, if cp = at' + 1 then 0 else 0 + (at' + 1) * 1, none⟩) (A8 (8 - ((Cd (255 ^^^ (xs.getD at' 0)).toNat : Nat) : Int) + 1 - 1)).toNat (cp - (at' + 1))), (8, u64 (foldB (headV (xs.getD at' 0)) ((xs.drop (at' + 1)).take 0)))], [⟨n, (rdr n q N cp (at' + 1 + (A8 (8 - ((Cd (255 ^^^ (xs.getD at' 0)).toNat : Nat) : Int) + 1 - 1)).toNat) (0)).cells, 219, 4⟩]⟩) (fun _u => True) ?_ ?_
 ·
  refine .draw [(0, 0), (0, 1), (1, 2), (0, 3), (0, 4), (0, 5), (0, 6), (0, 7)] Ba zK (G1 ?_)
  refine .idxSlO J J J J Y58.h Sz5 0 J oM (.loadE J J J Y5.h J (by (simp; exact hW.2.2)) ((by have := hW.2.1 at' _ (Bw oM); rwa [Nat.zero_add] at this)) ?_)
  refine G1 ?_
  refine .shr_u8w J J (show Al _ _ = some (u8 255) from rfl) J (Bb (xs.getD at' 0)) oM (.and_u8 J J J J (G4 ?_))
  refine ⟨(), trivial, Ai (wk1 J (wk1 J (wk1 J (wk1 J (wk1 J wk0))))) (wh1 Z0 wh0) nD⟩
 intro _u hj
 skip
 refine G9 ?_
 refine .loop (ι := Nat) (fun j => ⟨[(0, ptr n 0), (5, i64 (at' : Int)), (6, i64 (8 - ((Cd (255 ^^^ (xs.getD at' 0)).toNat : Nat) : Int) + 1)), (53, .slice (some ⟨q, if cp = at' + 1 then 0 else 0 + (at' + 1) * 1, none⟩) (A8 (8 - ((Cd (255 ^^^ (xs.getD at' 0)).toNat : Nat) : Int) + 1 - 1)).toNat (cp - (at' + 1))), (54, i64 ((A8 (8 - ((Cd (255 ^^^ (xs.getD at' 0)).toNat : Nat) : Int) + 1 - 1)).toNat : Int)), (55, i64 (j : Int)), (8, u64 (foldB (headV (xs.getD at' 0)) ((xs.drop (at' + 1)).take j)))], [⟨n, (rdr n q N cp (at' + 1 + (A8 (8 - ((Cd (255 ^^^ (xs.getD at' 0)).toNat : Nat) : Int) + 1 - 1)).toNat) (0)).cells, 219, 4⟩]⟩) (fun j => j ≤ (A8 (8 - ((Cd (255 ^^^ (xs.getD at' 0)).toNat : Nat) : Int) + 1 - 1)).toNat) (fun j => (A8 (8 - ((Cd (255 ^^^ (xs.getD at' 0)).toNat : Nat) : Int) + 1 - 1)).toNat - j) (0) ?_ ?_ ?_
 · exact Nat.zero_le _
 · exact Ai (wk1 rfl (wk1 rfl (wk1 rfl (wk1 rfl (wk1 rfl (wk1 rfl (wk1 rfl wk0))))))) (wh1 Z0 wh0) nD
 rintro j hj
 refine G6 ?_
 refine .condP J (fun hc2 => ?_) (fun hc2 => ?_)
 ·
  have hj2 : j < (A8 (8 - ((Cd (255 ^^^ (xs.getD at' 0)).toNat : Nat) : Int) + 1 - 1)).toNat := by omega
  refine G6 ?_
  refine .idxSlO J J J J Y58.h Sz5 _ J oM (.loadE J J J Y5.h J (by (simp; exact hW.2.2)) ((by have h9 := hW.2.1 (at' + 1 + j) _ (Bw oM); rw [if_neg oM]; rw [Nat.zero_add] at h9; rw [show 0 + (at' + 1) * 1 + j = at' + 1 + j by omega]; exact h9)) ?_)
  refine G5 ?_
  refine .shl_u64 J J J J 8 J dE (G12 ?_)
  exact ⟨j + 1, by omega, by omega, Ai (wk1 rfl (wk1 rfl (wk1 rfl (wk1 rfl (wk1 rfl (wk1 rfl (wk1 (by rw [foldB_step xs (at' + 1) j _ oM]; rfl) wk0))))))) (wh1 Z0 wh0) nD⟩
 have hj2 : j = (Bb (xs.getD at' 0)) - 1 := by omega
 refine G8 ?_
 have hnv : numV xs at' = foldB (headV (xs.getD at' 0)) ((xs.drop (at' + 1)).take j) := by rw [numV, hj2]
 refine G1 ?_
 refine .cV J J J J Body191 (oct_size _) tV (G1 ?_)
 refine .nei J J J J (show (!decide _) = false from congrArg not (decide_eq_true (by rw [← hnv, hz]; omega))) ?_
 refine G2 ?_
 refine .cond_f J (rfl) (G10 ?_)
 refine ⟨_, [RB n q N cp (at' + (Bb (xs.getD at' 0))) (0)], Ad J J, (by intro b hb; rw [List.mem_singleton.1 hb, show at' + (Bb (xs.getD at' 0)) = at' + 1 + (A8 (8 - ((Cd (255 ^^^ (xs.getD at' 0)).toNat : Nat) : Int) + 1 - 1)).toNat by rw [hcw]; omega]; exact B7), B2, ?_⟩
 exact ⟨by rw [hnv], rfl⟩
theorem rd_take_pos (n q N cp at' : Nat) (k : UInt64) (hN : N ≤ cp) (hbig : N ≤ 1000000) (hk : at' + k.toNat ≤ N) (hk0 : 0 < k.toNat) : Meets Tryz.prog 187 [ptr n 0, u64 k] [n] (fun W => BlkOk W (RB n q N cp at' 0)) (fun v out => v = .tuple #[.slice (some ⟨q, at', none⟩) k.toNat (cp - at'), .bool true] ∧ out = [RB n q N cp (at' + k.toNat) 0]) := by
  have := rd_take_ok n q N cp at' k oM hN hbig hk
  rw [if_neg oM, Nat.zero_add, Nat.mul_one] at this
  exact this
def A5 (xs : List UInt8) (a : Nat) (e : Int) : UInt64 × Nat × Int :=
  if ¬ e = 0 then (0, a, e) else if xs.length ≤ a then (0, a, 5) else if xs.length < a + Bb (xs.getD a 0) then (0, a, 5) else if szN (numV xs a).toNat = Bb (xs.getD a 0) then (numV xs a, a + Bb (xs.getD a 0), 0) else (0, a, 4)
theorem numR_at (xs : List UInt8) (a : Nat) (e : Int) (h : a ≤ xs.length) : (A5 xs a e).2.1 ≤ xs.length := by
  unfold A5
  split
  · exact h
  split
  · exact h
  split
  · exact h
  split
  · simp only; omega
  · exact h
theorem rd_Number (n q N cp at' : Nat) (e : Int) (xs : List UInt8) (hx : xs.length = N) (hat : at' ≤ N) (hN : N ≤ cp) (hbig : N ≤ 1000000) : Meets Tryz.prog 94 [ptr n 0] [n] (fun W => BlkOk W (RB n q N cp at' e) ∧ B8 W q 0 (Aa xs) ∧ q ≠ n)
    (fun v out => v = u64 (A5 xs at' e).1 ∧ out = [RB n q N cp (A5 xs at' e).2.1 (A5 xs at' e).2.2]) := by
  unfold A5
  by_cases he : e = 0
  · subst he
    rw [if_neg sP]
    by_cases h1 : xs.length ≤ at'
    · rw [if_pos h1]; exact rd_num_end n q N cp at' xs hx hat hN hbig oM
    · rw [if_neg h1]
      by_cases h2 : xs.length < at' + Bb (xs.getD at' 0)
      · rw [if_pos h2]; exact rd_num_short n q N cp at' xs hx hat hN hbig oM oM
      · rw [if_neg h2]
        by_cases h3 : szN (numV xs at').toNat = Bb (xs.getD at' 0)
        · rw [if_pos h3]; exact rd_num_ok n q N cp at' xs hx hat hN hbig oM h3
        · rw [if_neg h3]; exact rd_num_bad n q N cp at' xs hx hat hN hbig oM h3
  · rw [if_pos he]; exact rd_num_err n q N cp at' e xs hx hat hN hbig he

theorem rd_dig_err (n q N cp at' : Nat) (e : Int) (xs : List UInt8) (hx : xs.length = N) (hat : at' ≤ N) (hN : N ≤ cp) (hbig : N ≤ 1000000) (he : ¬ e = 0) : Meets Tryz.prog 173 [ptr n 0] [n] (fun W => BlkOk W (RB n q N cp (at') (e)) ∧ B8 W q 0 (Aa xs) ∧ q ≠ n) (fun v out => v = agg (Aa (List.replicate 32 0)) ∧ out = [RB n q N cp (at') (e)]) := by
 intro W hW
 refine A3 (hp0 := [RB n q N cp (at') (e)]) Tryz.func173 J 16 Tryz.ntmps173 J (HRep.one hW.1) (G2 ?_)
 refine .alloc (cs := (Aa (List.replicate 32 0))) J Zr50 J ?_
 intro n2 hn2 hf2
 refine G5 ?_
 refine .callL (L := [RB n q N cp (at') (e)]) J J J J J Body187 (rd_take_err n q N cp at' e 32 hat hN hbig he) (rem_there Az) lO (fun w h => Ak h Z1) ?_
 rintro v2 out2 ⟨rfl, rfl⟩
 refine G14 ?_
 refine .cond_t J (rfl) (G2 ?_)
 refine .build (cs := Aa (List.replicate 32 0)) J J J (fun w => by kernel_rfl) ?_
 refine .sA J J J J zE Sz50 sP Z1 sP zV ?_
 refine G5 ?_
 refine ⟨_, [RB n q N cp (at') (e)], Bo J J Y50.h J Sz50 Z1 sP, (by intro b hb; rw [List.mem_singleton.1 hb]; exact B7), B2, ?_⟩
 exact ⟨rfl, rfl⟩

theorem rd_dig_more (n q N cp at' : Nat) (xs : List UInt8) (hx : xs.length = N) (hat : at' ≤ N) (hN : N ≤ cp) (hbig : N ≤ 1000000) (hk : N < at' + 32) : Meets Tryz.prog 173 [ptr n 0] [n] (fun W => BlkOk W (RB n q N cp (at') (0)) ∧ B8 W q 0 (Aa xs) ∧ q ≠ n) (fun v out => v = agg (Aa (List.replicate 32 0)) ∧ out = [RB n q N cp (at') (5)]) := by
 intro W hW
 refine A3 (hp0 := [RB n q N cp (at') (0)]) Tryz.func173 J 16 Tryz.ntmps173 J (HRep.one hW.1) (G2 ?_)
 refine .alloc (cs := (Aa (List.replicate 32 0))) J Zr50 J ?_
 intro n2 hn2 hf2
 refine G5 ?_
 refine .callL (L := [RB n q N cp (at') (0)]) J J J J J Body187 (rd_take_more n q N cp at' 32 hat hN hbig hk) (rem_there Az) lO (fun w h => Ak h Z1) ?_
 rintro v2 out2 ⟨rfl, rfl⟩
 refine G14 ?_
 refine .cond_t J (rfl) (G2 ?_)
 refine .build (cs := Aa (List.replicate 32 0)) J J J (fun w => by kernel_rfl) ?_
 refine .sA J J J J zE Sz50 sP Z1 sP zV ?_
 refine G5 ?_
 refine ⟨_, [RB n q N cp (at') (5)], Bo J J Y50.h J Sz50 Z1 sP, (by intro b hb; rw [List.mem_singleton.1 hb]; exact B7), B2, ?_⟩
 exact ⟨rfl, rfl⟩

theorem sees_cut {w : World} {q : Nat} {xs : List UInt8} (h : B8 w q 0 (Aa xs)) (a k : Nat) : B8 w q a (Aa ((xs.drop a).take k)) := fun j v hj => by
  simp only [Aa, List.map_take, List.map_drop, List.getElem?_take] at hj
  split at hj
  · rw [List.getElem?_drop] at hj
    have := h (a + j) v hj
    rwa [Nat.zero_add] at this
  · cases hj

theorem rd_dig_ok (n q N cp at' : Nat) (xs : List UInt8) (hx : xs.length = N) (hat : at' ≤ N) (hN : N ≤ cp) (hbig : N ≤ 1000000) (hk : at' + 32 ≤ N) : Meets Tryz.prog 173 [ptr n 0] [n] (fun W => BlkOk W (RB n q N cp (at') (0)) ∧ B8 W q 0 (Aa xs) ∧ q ≠ n) (fun v out => v = agg (Aa ((xs.drop at').take 32)) ∧ out = [RB n q N cp (at' + 32) (0)]) := by
 intro W hW
 have hdl : ((xs.drop at').take 32).length = 32 := by simp; omega
 refine A3 (hp0 := [RB n q N cp (at') (0)]) Tryz.func173 J 16 Tryz.ntmps173 J (HRep.one hW.1) (G2 ?_)
 refine .alloc (cs := (Aa (List.replicate 32 0))) J Zr50 J ?_
 intro n2 hn2 hf2
 refine G5 ?_
 refine .callL (L := [RB n q N cp (at') (0)]) J J J J J Body187 (rd_take_pos n q N cp at' 32 hN hbig hk dE) (rem_there Az) lO (fun w h => Ak h Z1) ?_
 rintro v2 out2 ⟨rfl, rfl⟩
 refine G14 ?_
 refine .cond_f J (rfl) (G5 ?_)
 refine .s2a J J J Y50.h dE (.loadEN (Aa ((xs.drop at').take 32)) J J J Y50.h J Sz50 (by simp; exact hW.2.2) (by rw [Aa, List.length_map]; exact hdl) (sees_cut hW.2.1 at' 32) ?_)
 refine .sA J J J J zE Sz50 (by (rw [Aa, List.length_map]; assumption)) Z1 sP zV ?_
 refine G4 ?_
 refine ⟨_, [RB n q N cp (at' + 32) (0)], Bo J J Y50.h J Sz50 Z1 (by rw [Aa, List.length_map]; exact hdl), (by intro b hb; rw [List.mem_singleton.1 hb]; exact B7), B2, ?_⟩
 exact ⟨rfl, rfl⟩

def Cf (xs : List UInt8) (a : Nat) (e : Int) : List UInt8 × Nat × Int :=
  if ¬ e = 0 then (List.replicate 32 0, a, e) else if xs.length < a + 32 then (List.replicate 32 0, a, 5) else ((xs.drop a).take 32, a + 32, 0)
theorem digR_at (xs : List UInt8) (a : Nat) (e : Int) (h : a ≤ xs.length) : (Cf xs a e).2.1 ≤ xs.length ∧ (Cf xs a e).1.length = 32 := by
  unfold Cf
  split
  · exact ⟨h, rfl⟩
  split
  · exact ⟨h, rfl⟩
  · exact ⟨by simp only; omega, by simp; omega⟩
theorem rd_Digest (n q N cp at' : Nat) (e : Int) (xs : List UInt8) (hx : xs.length = N) (hat : at' ≤ N) (hN : N ≤ cp) (hbig : N ≤ 1000000) : Meets Tryz.prog 173 [ptr n 0] [n] (fun W => BlkOk W (RB n q N cp at' e) ∧ B8 W q 0 (Aa xs) ∧ q ≠ n)
    (fun v out => v = agg (Aa (Cf xs at' e).1) ∧ out = [RB n q N cp (Cf xs at' e).2.1 (Cf xs at' e).2.2]) := by
  unfold Cf
  by_cases he : e = 0
  · subst he
    rw [if_neg sP]
    by_cases h1 : xs.length < at' + 32
    · rw [if_pos h1]; exact rd_dig_more n q N cp at' xs hx hat hN hbig oM
    · rw [if_neg h1]; exact rd_dig_ok n q N cp at' xs hx hat hN hbig oM
  · rw [if_pos he]; exact rd_dig_err n q N cp at' e xs hx hat hN hbig he


theorem BlkOk.keep {ex : List Nat} {w w' : World} {b : Blk} (h : Keeps ex w w') (hb : BlkOk w b) (hn : b.n ∉ ex) : BlkOk w' b := hb.of_heap (h.block b.n hb.lt hn)

def RdNew (N : Nat) (xs : List UInt8) (v : Value) (out : List Blk) : Prop := ∃ n q cp, v = ptr n 0 ∧ N ≤ cp ∧ out = [RB n q N cp 0 0, ⟨q, Aa xs, 5, cp * 1⟩]
theorem RdNew.loose (N : Nat) (xs : List UInt8) : Loose (RdNew N xs) := fun k hk => by
  obtain ⟨q1, _, h1⟩ := Ch 0 k
  obtain ⟨q2, h2', h2⟩ := Ch (q1 + 1) k
  refine ⟨_, _, ⟨q2, q1, N, rfl, Nat.le_refl _, rfl⟩, ?_⟩
  simp only [RB, List.cons_append, List.nil_append, List.map_cons, List.nodup_cons, List.mem_cons]
  refine ⟨?_, fun h => ?_, hk⟩
  · rintro (h | h)
    · omega
    · obtain ⟨b, hb, e⟩ := List.mem_map.1 h; exact h2 b hb e
  · obtain ⟨b, hb, e⟩ := List.mem_map.1 h; exact h1 b hb e

theorem oct_Read (p : Option Addr) (n c : Nat) (xs : List UInt8) (hl : xs.length = n) (hp : p = none → n = 0) (hn : n ≤ 90000) : Meets Tryz.prog 91 [.slice p n c] [] (fun W => SeesP W p (Aa xs)) (RdNew n xs) := by
 intro W hW
 refine Ag Tryz.func91 J 13 Tryz.ntmps91 J (G8 ?_)
 refine .call J J J J Body186 (oct_grown p n c 0 xs hl hp oM oM) (FreshRow.loose _ _ _ _) (fun w h => Ao h J hW) ?_
 rintro v1 out1 ⟨q1, c1, rfl, hc1, rfl⟩
 refine .build (cs := (⟨.pointer none, ⟨some ⟨q1, 0, none⟩, n, c1⟩, 0, 0⟩ : Reader).cells) J J J (fun w => by kernel_rfl) ?_
 refine G1 ?_
 intro n7 hn7 hf7
 refine G9 ?_
 refine .s1 J J J J J Sz129 Z0 (by rw [Reader.length (by exact ⟨rfl⟩)]; decide) (Reader.set_fSelf (by exact ⟨rfl⟩) _) zU ?_
 refine G10 ?_
 refine ⟨_, [RB n7 q1 n c1 0 0, ⟨q1, Aa xs, 5, c1 * 1⟩], Ad J J, (by intro b hb; rcases List.mem_cons.1 hb with rfl | hb; exact B7; rw [List.mem_singleton.1 hb]; exact mem1), (fun h => h.sublist (by simp [RB])), ⟨n7, q1, c1, rfl, hc1, rfl⟩⟩

theorem rd_Err (n q N cp at' : Nat) (e : Int) : Meets Tryz.prog 192 [ptr n 0] [] (fun W => BlkOk W (RB n q N cp (at') (e))) (fun v out => v = i64 e ∧ out = []) := by
 intro W hW
 refine Ag Tryz.func192 J 10 Tryz.ntmps192 J (G9 ?_)
 refine .cV J J J J Body206 (rd_made n) (fun w h => h.keeps.cell sP (rb_self hW)) (G3 ?_)
 refine .cond_f J J (G7 ?_)
 refine .loadE J J J Y32.h J sP (BlkOk.cell0 (o := 3) hW J) (G5 ?_)
 refine ⟨_, [], Ad J J, sP, sP, ?_, rfl⟩
 rfl

theorem rd_Left (n q N cp at' : Nat) (e : Int) (hat : at' ≤ N) (hbig : N ≤ 1000000) : Meets Tryz.prog 197 [ptr n 0] [] (fun W => BlkOk W (RB n q N cp (at') (e))) (fun v out => v = i64 ((N : Int) - (at' : Int)) ∧ out = []) := by
 intro W hW
 have hfB : (rdr n q N cp at' e).fB.n = N := rfl
 have hfA : (rdr n q N cp at' e).fAt = (at' : Int) := rfl
 refine Ag Tryz.func197 J 16 Tryz.ntmps197 J (G9 ?_)
 refine .cV J J J J Body206 (rd_made n) (fun w h => h.keeps.cell sP (rb_self hW)) (G3 ?_)
 refine .cond_f J J (G3 ?_)
 refine .draw [(0, 0), (0, 1), (0, 2), (1, 3), (0, 4), (0, 5), (0, 6), (0, 7), (1, 8), (0, 9), (0, 10)] Ba zK (G3 ?_)
 refine .loadE J J J Y58.h J sP (BlkOk.cell0 (o := 1) hW J) (.lenSl (n := N) J J J Y58.h (G3 ?_))
 refine .loadE J J J Y3.h J sP (BlkOk.cell0 (o := 2) hW J) (G6 ?_)
 refine ⟨_, [], Ad J J, sP, sP, ?_, rfl⟩
 rfl

def endR (N a : Nat) (e : Int) : Int := if e = 0 then (if (0 : Int) < (N : Int) - (a : Int) then 4 else 0) else e

theorem rd_End (n q N cp at' : Nat) (e : Int) (hat : at' ≤ N) (hbig : N ≤ 1000000) : Meets Tryz.prog 105 [ptr n 0] [] (fun W => BlkOk W (RB n q N cp (at') (e))) (fun v out => v = i64 (endR N at' e) ∧ out = []) := by
 intro W hW
 refine Ag Tryz.func105 J 12 Tryz.ntmps105 J (G9 ?_)
 refine .cV J J J J Body192 (rd_Err n q N cp at' e) (fun w h => (BlkOk.keep h.keeps hW sP)) (G9 ?_)
 refine .condNP J (fun hc0 => ?_) (fun hc0 => ?_)
 ·
  refine G9 ?_
  refine ⟨_, [], Ad J J, sP, sP, ?_, rfl⟩
  (simp only [endR, if_neg hc0]; done)
 refine G6 ?_
 refine .cV J J J J Body197 (rd_Left n q N cp at' e hat hbig) (fun w h => (BlkOk.keep h.keeps hW sP)) (G3 ?_)
 refine .condP J (fun hc1 => ?_) (fun hc1 => ?_)
 ·
  refine G8 ?_
  refine ⟨_, [], Ad J J, sP, sP, ?_, rfl⟩
  (simp only [endR, if_pos (show e = 0 by omega), if_pos hc1]; done)
 refine G9 ?_
 refine ⟨_, [], Ad J J, sP, sP, ?_, rfl⟩
 (simp only [endR, if_pos (show e = 0 by omega), if_neg hc1]; done)
theorem rd_take64_err (n q N cp at' : Nat) (e : Int) (m : Nat) (hm0 : 0 < m) (hm : m ≤ 90000) (xs : List UInt8) (hx : xs.length = N) (hat : at' ≤ N) (hN : N ≤ cp) (hbig : N ≤ 1000000) (he : ¬ e = 0) : Meets Tryz.prog 174 [ptr n 0, i64 (m : Int)] [n] (fun W => BlkOk W (RB n q N cp (at') (e)) ∧ B8 W q 0 (Aa xs) ∧ q ≠ n) (fun v out => v = .slice none 0 0 ∧ out = [RB n q N cp (at') (e)]) := by
 intro W hW
 have hkm : (A8 (if (0 : Int) > (m : Int) then 0 else (m : Int))).toNat = m := by
  rw [if_neg oM]
  simp only [A8, UInt64.toNat_ofNat']
  omega
 refine A3 (hp0 := [RB n q N cp (at') (e)]) Tryz.func174 J 19 Tryz.ntmps174 J (HRep.one hW.1) (G9 ?_)
 refine .max2 J J J J (rfl) (G1 ?_)
 refine .callL (L := [RB n q N cp (at') (e)]) J J J J J Body187 (rd_take_err n q N cp at' e (A8 (if (0 : Int) > (m : Int) then 0 else (m : Int))) hat hN hbig he) Az lO (fun w h => Ak h Z0) ?_
 rintro v2 out2 ⟨rfl, rfl⟩
 refine G14 ?_
 refine .cond_t J (rfl) (G8 ?_)
 refine ⟨_, [RB n q N cp (at') (e)], Ad J J, (by intro b hb; rw [List.mem_singleton.1 hb]; exact B7), B2, ?_⟩
 exact ⟨rfl, rfl⟩

theorem rd_take64_more (n q N cp at' : Nat) (m : Nat) (hm0 : 0 < m) (hm : m ≤ 90000) (xs : List UInt8) (hx : xs.length = N) (hat : at' ≤ N) (hN : N ≤ cp) (hbig : N ≤ 1000000) (hk : N < at' + m) : Meets Tryz.prog 174 [ptr n 0, i64 (m : Int)] [n] (fun W => BlkOk W (RB n q N cp (at') (0)) ∧ B8 W q 0 (Aa xs) ∧ q ≠ n) (fun v out => v = .slice none 0 0 ∧ out = [RB n q N cp (at') (5)]) := by
 intro W hW
 have hkm : (A8 (if (0 : Int) > (m : Int) then 0 else (m : Int))).toNat = m := by
  rw [if_neg oM]
  simp only [A8, UInt64.toNat_ofNat']
  omega
 refine A3 (hp0 := [RB n q N cp (at') (0)]) Tryz.func174 J 19 Tryz.ntmps174 J (HRep.one hW.1) (G9 ?_)
 refine .max2 J J J J (rfl) (G1 ?_)
 refine .callL (L := [RB n q N cp (at') (0)]) J J J J J Body187 (rd_take_more n q N cp at' (A8 (if (0 : Int) > (m : Int) then 0 else (m : Int))) hat hN hbig (by rw [hkm]; exact hk)) Az lO (fun w h => Ak h Z0) ?_
 rintro v2 out2 ⟨rfl, rfl⟩
 refine G14 ?_
 refine .cond_t J (rfl) (G8 ?_)
 refine ⟨_, [RB n q N cp (at') (5)], Ad J J, (by intro b hb; rw [List.mem_singleton.1 hb]; exact B7), B2, ?_⟩
 exact ⟨rfl, rfl⟩

theorem rd_take64_ok (n q N cp at' : Nat) (m : Nat) (hm0 : 0 < m) (hm : m ≤ 90000) (xs : List UInt8) (hx : xs.length = N) (hat : at' ≤ N) (hN : N ≤ cp) (hbig : N ≤ 1000000) (hk : at' + m ≤ N) (hN2 : N ≤ 90000) : Meets Tryz.prog 174 [ptr n 0, i64 (m : Int)] [n] (fun W => BlkOk W (RB n q N cp (at') (0)) ∧ B8 W q 0 (Aa xs) ∧ q ≠ n) (fun v out => ∃ q1 c1, v = .slice (some ⟨q1, 0, none⟩) m c1 ∧ m ≤ c1 ∧ out = [⟨q1, Aa ((xs.drop (at')).take (m)), 5, c1 * 1⟩, RB n q N cp (at' + m) (0)]) := by
 intro W hW
 have hkm : (A8 (if (0 : Int) > (m : Int) then 0 else (m : Int))).toNat = m := by
  rw [if_neg oM]
  simp only [A8, UInt64.toNat_ofNat']
  omega
 refine A3 (hp0 := [RB n q N cp (at') (0)]) Tryz.func174 J 19 Tryz.ntmps174 J (HRep.one hW.1) (G9 ?_)
 refine .max2 J J J J (rfl) (G1 ?_)
 refine .callL (L := [RB n q N cp (at') (0)]) J J J J J Body187 (rd_take_pos n q N cp at' (A8 (if (0 : Int) > (m : Int) then 0 else (m : Int))) hN hbig (by rw [hkm]; exact hk) (by rw [hkm]; exact hm0)) Az lO (fun w h => Ak h Z0) ?_
 rintro v2 out2 ⟨rfl, rfl⟩
 rw [hkm]
 refine G14 ?_
 refine .cond_f J (rfl) (G5 ?_)
 refine .call J J J J Body186 (oct_grown (some ⟨q, at', none⟩) m (cp - at') 0 ((xs.drop (at')).take (m)) (by simp; omega) (fun e => by cases e) oM oM) (FreshRow.loose _ _ _ _) (fun w h => SeesP.of (Bt h (by simp; exact hW.2.2) (sees_cut hW.2.1 (at') (m)))) ?_
 rintro v1 out1 ⟨q1, c1, rfl, hc1, rfl⟩
 refine G5 ?_
 refine ⟨_, [⟨q1, Aa ((xs.drop (at')).take (m)), 5, c1 * 1⟩, RB n q N cp (at' + m) (0)], Ad J J, (by intro b hb; rcases List.mem_cons.1 hb with rfl | hb; exact B7; rw [List.mem_singleton.1 hb]; exact mem1), (fun h => h.sublist (by simp [RB])), ?_⟩
 exact ⟨q1, c1, rfl, hc1, rfl⟩

theorem rd_blk_err (n q N cp at' : Nat) (e : Int) (xs : List UInt8) (hx : xs.length = N) (hat : at' ≤ N) (hN : N ≤ cp) (hbig : N ≤ 1000000) (he1' : ¬ (A5 xs at' e).2.2 = 0) (hN2 : N ≤ 90000) : Meets Tryz.prog 120 [ptr n 0] [n] (fun W => BlkOk W (RB n q N cp (at') (e)) ∧ B8 W q 0 (Aa xs) ∧ q ≠ n) (fun v out => v = .slice none 0 0 ∧ out = [RB n q N cp at' ((A5 xs at' e).2.2)]) := by
 intro W hW
 have hna := (numR_at xs at' e oM)
 rw [hx] at hna
 obtain ⟨a1, ha1⟩ : ∃ a1, a1 = (A5 xs at' e).2.1 := ⟨_, rfl⟩
 obtain ⟨e1, he1⟩ : ∃ e1, e1 = (A5 xs at' e).2.2 := ⟨_, rfl⟩
 obtain ⟨k1, hk1⟩ : ∃ k1, k1 = (A5 xs at' e).1 := ⟨_, rfl⟩
 have hNum := rd_Number n q N cp at' e xs hx hat hN hbig
 rw [← ha1, ← he1, ← hk1] at hNum
 rw [← ha1] at hna
 refine A3 (hp0 := [RB n q N cp (at') (e)]) Tryz.func120 J 33 Tryz.ntmps120 J (HRep.one hW.1) (G9 ?_)
 refine .cV J J J J Body206 (rd_made n) (fun w h => rb_self (Ak h Z0)) ?_
 refine G3 ?_
 refine .cond_f J J (G2 ?_)
 refine .join (ι := Unit) (fun _u => ⟨[(0, ptr n 0), (3, i64 (at' : Int))], [⟨n, (rdr n q N cp at' e).cells, 219, 4⟩]⟩) (fun _u => True) ?_ ?_
 ·
  refine G8 ?_
  refine ⟨(), trivial, Ai (wk1 J (wk1 J wk0)) (wh1 Z0 wh0) nD⟩
 intro _u hj
 skip
 refine G3 ?_
 refine .callL (L := [RB n q N cp (at') (e)]) J J J J J Body94 (hNum) Az lO (fun w h => ⟨Ak h Z0, Bt h (by simp; exact hW.2.2) hW.2.1, hW.2.2⟩) ?_
 rintro v2 out2 ⟨rfl, rfl⟩
 refine G7 ?_
 refine .callL (L := [RB n q N cp (a1) (e1)]) J J J J J Body187 (rd_take_err n q N cp a1 e1 k1 hna hN hbig (by rw [he1]; exact he1')) Az lO (fun w h => Ak h Z0) ?_
 rintro v2 out2 ⟨rfl, rfl⟩
 refine G14 ?_
 refine .cond_t J (rfl) (G8 ?_)
 refine .callL (L := [RB n q N cp (a1) (e1)]) J J J J J Body190 (rd_fail n q N cp a1 e1 at' e1) Az lO (fun w h => Ak h Z0) ?_
 rintro v3 out3 ⟨rfl, rfl⟩
 refine G10 ?_
 refine ⟨_, [RB n q N cp at' e1], Ad J J, (by intro b hb; rw [List.mem_singleton.1 hb]; exact B7), B2, ?_⟩
 exact ⟨rfl, by rw [he1]⟩
theorem rd_blk_more (n q N cp at' : Nat) (e : Int) (xs : List UInt8) (hx : xs.length = N) (hat : at' ≤ N) (hN : N ≤ cp) (hbig : N ≤ 1000000) (he1' : (A5 xs at' e).2.2 = 0) (hk : N < (A5 xs at' e).2.1 + ((A5 xs at' e).1).toNat) (hN2 : N ≤ 90000) : Meets Tryz.prog 120 [ptr n 0] [n] (fun W => BlkOk W (RB n q N cp (at') (e)) ∧ B8 W q 0 (Aa xs) ∧ q ≠ n) (fun v out => v = .slice none 0 0 ∧ out = [RB n q N cp (at') (5)]) := by
 intro W hW
 have hna := (numR_at xs at' e oM)
 rw [hx] at hna
 obtain ⟨a1, ha1⟩ : ∃ a1, a1 = (A5 xs at' e).2.1 := ⟨_, rfl⟩
 obtain ⟨e1, he1⟩ : ∃ e1, e1 = (A5 xs at' e).2.2 := ⟨_, rfl⟩
 obtain ⟨k1, hk1⟩ : ∃ k1, k1 = (A5 xs at' e).1 := ⟨_, rfl⟩
 have hNum := rd_Number n q N cp at' e xs hx hat hN hbig
 rw [← ha1, ← he1, ← hk1] at hNum
 rw [← ha1] at hna
 have he2 : e1 = 0 := by rw [he1]; exact he1'
 clear he1
 subst he2
 have hk1' : k1 = (A5 xs at' e).1 := hk1
 refine A3 (hp0 := [RB n q N cp (at') (e)]) Tryz.func120 J 33 Tryz.ntmps120 J (HRep.one hW.1) (G9 ?_)
 refine .cV J J J J Body206 (rd_made n) (fun w h => rb_self (Ak h Z0)) ?_
 refine G3 ?_
 refine .cond_f J J (G2 ?_)
 refine .join (ι := Unit) (fun _u => ⟨[(0, ptr n 0), (3, i64 (at' : Int))], [⟨n, (rdr n q N cp at' e).cells, 219, 4⟩]⟩) (fun _u => True) ?_ ?_
 ·
  refine G8 ?_
  refine ⟨(), trivial, Ai (wk1 J (wk1 J wk0)) (wh1 Z0 wh0) nD⟩
 intro _u hj
 skip
 refine G3 ?_
 refine .callL (L := [RB n q N cp (at') (e)]) J J J J J Body94 (hNum) Az lO (fun w h => ⟨Ak h Z0, Bt h (by simp; exact hW.2.2) hW.2.1, hW.2.2⟩) ?_
 rintro v2 out2 ⟨rfl, rfl⟩
 refine G7 ?_
 refine .callL (L := [RB n q N cp (a1) (0)]) J J J J J Body187 (rd_take_more n q N cp a1 k1 hna hN hbig (by rw [ha1, hk1]; exact hk)) Az lO (fun w h => Ak h Z0) ?_
 rintro v2 out2 ⟨rfl, rfl⟩
 refine G14 ?_
 refine .cond_t J (rfl) (G8 ?_)
 refine .callL (L := [RB n q N cp (a1) (5)]) J J J J J Body190 (rd_fail n q N cp a1 5 at' 5) Az lO (fun w h => Ak h Z0) ?_
 rintro v3 out3 ⟨rfl, rfl⟩
 refine G10 ?_
 refine ⟨_, [RB n q N cp (at') (5)], Ad J J, (by intro b hb; rw [List.mem_singleton.1 hb]; exact B7), B2, ?_⟩
 exact ⟨rfl, rfl⟩
theorem sees_cutP {w : World} {q cp N a k : Nat} {xs : List UInt8} (h : B8 w q 0 (Aa xs)) (hx : xs.length = N) (hN : N ≤ cp) : SeesP w (some ⟨q, if cp = a then 0 else 0 + a * 1, none⟩) (Aa ((xs.drop a).take k)) := fun j v hj => by
  have hc := sees_cut h a k j v hj
  have hlt : j < (Aa ((xs.drop a).take k)).length := (List.getElem?_eq_some_iff.1 hj).1
  simp only [Aa, List.length_map, List.length_take, List.length_drop] at hlt
  refine ⟨q, a, ?_, hc⟩
  rw [if_neg oM, Nat.zero_add, Nat.mul_one]
def blkR (xs : List UInt8) (a : Nat) (e : Int) : Option (List UInt8) × Nat × Int :=
  if ¬ (A5 xs a e).2.2 = 0 then (none, a, (A5 xs a e).2.2) else if xs.length < (A5 xs a e).2.1 + (A5 xs a e).1.toNat then (none, a, 5) else (some ((xs.drop (A5 xs a e).2.1).take (A5 xs a e).1.toNat), (A5 xs a e).2.1 + (A5 xs a e).1.toNat, 0)

theorem rd_blk_ok (n q N cp at' : Nat) (e : Int) (xs : List UInt8) (hx : xs.length = N) (hat : at' ≤ N) (hN : N ≤ cp) (hbig : N ≤ 1000000) (he1' : (A5 xs at' e).2.2 = 0) (hk : (A5 xs at' e).2.1 + ((A5 xs at' e).1).toNat ≤ N) (hN2 : N ≤ 90000) : Meets Tryz.prog 120 [ptr n 0] [n] (fun W => BlkOk W (RB n q N cp (at') (e)) ∧ B8 W q 0 (Aa xs) ∧ q ≠ n) (fun v out => ∃ q1 c1, v = .slice (some ⟨q1, 0, none⟩) (A5 xs at' e).1.toNat c1 ∧ (A5 xs at' e).1.toNat ≤ c1 ∧ out = [⟨q1, Aa ((xs.drop ((A5 xs at' e).2.1)).take ((A5 xs at' e).1.toNat)), 5, c1 * 1⟩, RB n q N cp ((A5 xs at' e).2.1 + (A5 xs at' e).1.toNat) (0)]) := by
 intro W hW
 have hna := (numR_at xs at' e oM)
 rw [hx] at hna
 obtain ⟨a1, ha1⟩ : ∃ a1, a1 = (A5 xs at' e).2.1 := ⟨_, rfl⟩
 obtain ⟨e1, he1⟩ : ∃ e1, e1 = (A5 xs at' e).2.2 := ⟨_, rfl⟩
 obtain ⟨k1, hk1⟩ : ∃ k1, k1 = (A5 xs at' e).1 := ⟨_, rfl⟩
 have hNum := rd_Number n q N cp at' e xs hx hat hN hbig
 rw [← ha1, ← he1, ← hk1] at hNum
 rw [← ha1] at hna
 have he2 : e1 = 0 := by rw [he1]; exact he1'
 clear he1
 subst he2
 have hk1' : k1 = (A5 xs at' e).1 := hk1
 have hk9 : a1 + k1.toNat ≤ N := by rw [ha1, hk1]; exact hk
 refine A3 (hp0 := [RB n q N cp (at') (e)]) Tryz.func120 J 33 Tryz.ntmps120 J (HRep.one hW.1) (G9 ?_)
 refine .cV J J J J Body206 (rd_made n) (fun w h => rb_self (Ak h Z0)) ?_
 refine G3 ?_
 refine .cond_f J J (G2 ?_)
 refine .join (ι := Unit) (fun _u => ⟨[(0, ptr n 0), (3, i64 (at' : Int))], [⟨n, (rdr n q N cp at' e).cells, 219, 4⟩]⟩) (fun _u => True) ?_ ?_
 ·
  refine G8 ?_
  refine ⟨(), trivial, Ai (wk1 J (wk1 J wk0)) (wh1 Z0 wh0) nD⟩
 intro _u hj
 skip
 refine G3 ?_
 refine .callL (L := [RB n q N cp (at') (e)]) J J J J J Body94 (hNum) Az lO (fun w h => ⟨Ak h Z0, Bt h (by simp; exact hW.2.2) hW.2.1, hW.2.2⟩) ?_
 rintro v2 out2 ⟨rfl, rfl⟩
 refine G7 ?_
 refine .callL (L := [RB n q N cp (a1) (0)]) J J J J J Body187 (rd_take_ok n q N cp a1 k1 hna hN hbig (by rw [ha1, hk1]; exact hk)) Az lO (fun w h => Ak h Z0) ?_
 rintro v2 out2 ⟨rfl, rfl⟩
 refine G14 ?_
 refine .cond_f J (rfl) (G5 ?_)
 refine .call J J J J Body186 (oct_grown _ k1.toNat (cp - a1) 0 ((xs.drop (a1)).take (k1.toNat)) (by simp; omega) (fun e => by cases e) oM oM) (FreshRow.loose _ _ _ _) (fun w h => sees_cutP (Bt h (by simp; exact hW.2.2) hW.2.1) hx hN) ?_
 rintro v1 out1 ⟨q1, c1, rfl, hc1, rfl⟩
 refine G5 ?_
 refine ⟨_, [⟨q1, Aa ((xs.drop (a1)).take (k1.toNat)), 5, c1 * 1⟩, RB n q N cp (a1 + k1.toNat) 0], Ad J J, (by intro b hb; rcases List.mem_cons.1 hb with rfl | hb; exact B7; rw [List.mem_singleton.1 hb]; exact mem1), (fun h => h.sublist (by simp [RB])), ?_⟩
 rw [← ha1, ← hk1]
 exact ⟨q1, c1, rfl, hc1, rfl⟩

theorem clone_bytes (a : Addr) (n c : Nat) (l : List UInt8) (hl : l.length = n) (hn : n ≤ 90000) : Meets Tryz.prog 223 [.slice (some a) n c] [] (fun W => SeesP W (some a) (Aa l)) (fun v out => FreshRow v out (Aa l) 5 n 1) := by
 intro W hW
 refine Ag Tryz.func223 J 8 Tryz.ntmps223 J (G9 ?_)
 refine .eqNilS (r := false) J J J J Y58.h J (G2 ?_)
 refine .cond_f J (rfl) (G4 ?_)
 refine .mkRow (z := u8 0) [] [] rfl J J Y58.h Sz5 Zr5 J J (by intro v hv; cases hv) dE J ?_
 intro q0
 refine G1 ?_
 refine .appendSl (z := u8 0) (by' := 1) (Aa l) J J J J J Y58.h Y58.h Sz5 Zr5 (by unfold By; kernel_rfl) J (fun w h => Ao h J hW) (fun e => by cases e) (by simp [Aa, isCell, u8]) Az J J oM oM oM (by simp [Aa, hl]) ?_
 intro q1 c1 hq1
 refine G5 ?_
 refine ⟨_, [⟨q1, [] ++ Aa l, 5, c1 * 1⟩], Ad J J, (by intro b hb; rw [List.mem_singleton.1 hb]; exact B7), B2, ⟨q1, c1, by rw [Nat.zero_add], by omega, rfl⟩⟩

def bodyB (B : Block) (ls : List (List UInt8)) (ds : List UInt8) : List UInt8 := B.fWriter ++ A6 B.fSeq ++ B.fPrev ++ A6 (UInt64.ofNat B.fLinks.n) ++ ls.flatten ++ (A6 (UInt64.ofNat B.fData.n) ++ ds)
theorem word_nat {n : Nat} (h : n ≤ 1000000) : A8 (n : Int) = UInt64.ofNat n := by simp only [A8]; congr 1; omega
theorem Bc {n : Nat} (h : n ≤ 1000000) : (UInt64.ofNat n).toNat = n := by rw [UInt64.toNat_ofNat', Nat.mod_eq_of_lt oM]
theorem flatten_take_step {ls : List (List UInt8)} {k : Nat} (hk : k < ls.length) : (ls.take (k + 1)).flatten = (ls.take k).flatten ++ ls.getD k [] := by
  rw [List.take_succ_eq_append_getElem hk, List.flatten_append]
  simp [List.getD, hk]
theorem Bn {ls : List (List UInt8)} (h : ∀ l ∈ ls, l.length = 32) {k : Nat} (hk : k ≤ ls.length) : (ls.take k).flatten.length = k * 32 := by
  rw [flatten_len 32 _ (fun l hl => h l (List.mem_of_mem_take hl)), List.length_take, Nat.min_eq_left hk]

theorem block_body (B : Block) (hB : B.ok) (ls : List (List UInt8)) (ds : List UInt8) (hn : B.fLinks.n ≤ 40) (hd : B.fData.n ≤ 2000) : Meets Tryz.prog 200 [agg B.cells] [] (fun W => RowsAt W B.fLinks 32 ls ∧ BytesAt W B.fData ds) (fun v out => ∃ N, N = (bodyB B ls ds).length ∧ N ≤ 4000 ∧ FreshRow v out (Aa (bodyB B ls ds)) 5 N 1) := by
 intro W hW
 have hz1 := A2 B.fSeq.toNat
 have hz2 := A2 (UInt64.ofNat B.fLinks.n).toNat
 have hz3 := A2 B.fData.n
 have hw2 := word_nat (n := B.fLinks.n) oM
 have hll := hW.1.len
 refine Ag Tryz.func200 J 41 Tryz.ntmps200 J (G3 ?_)
 intro n1 hn1 hf1
 refine G7 ?_
 refine .call J J J J Body223 (clone_bytes ⟨n1, 0, none⟩ 32 32 B.fWriter hB.l_fWriter oM) (FreshRow.loose _ _ _ _) (fun W2 W2h => (SeesP.of (sees_part W2h Z0 (Block.see_fWriter hB)))) ?_
 rintro v1 out1 ⟨q1, c1, rfl, hc1, rfl⟩
 refine G8 ?_
 refine .call J J J J Body106 (oct_Number none 0 0 [] (B.fSeq) J (fun _ => rfl) oM) (FreshRow.loose _ _ _ _) (fun _ _ => SeesP.nil) ?_
 rintro v2 out2 ⟨q2, c2, rfl, hc2, rfl⟩
 refine .appendSl (z := u8 0) (by' := 1) (Aa ([] ++ A6 B.fSeq)) J J J J J Y58.h Y58.h Sz5 Zr5 (by unfold By; kernel_rfl) J (fun w h => SeesP.of (Aj h B7)) (fun e => by cases e) (As _) (rem_there Az) J (by simp only [Aa, List.length_map, List.length_append, Ax, hB.l_fWriter, hB.l_fPrev, List.length_nil]; try omega) hc1 oM oM (by simp [Ax]) ?_
 intro q3 c3 hq3
 refine G8 ?_
 refine .appendSl (z := u8 0) (by' := 1) (Aa B.fPrev) J J J J J Y58.h Y58.h Sz5 Zr5 (by unfold By; kernel_rfl) J (fun W2 W2h => (SeesP.of (sees_part W2h Z2 (Block.see_fPrev hB)))) (fun e => by cases e) (As _) Az J (by simp only [Aa, List.length_map, List.length_append, Ax, hB.l_fWriter, hB.l_fPrev, List.length_nil]; try omega) hq3 oM oM (by simp [hB.l_fPrev]) ?_
 intro q5 c5 hq5
 refine G10 ?_
 rw [hw2]
 refine .call J J J J Body106 (oct_Number none 0 0 [] (UInt64.ofNat B.fLinks.n) J (fun _ => rfl) oM) (FreshRow.loose _ _ _ _) (fun _ _ => SeesP.nil) ?_
 rintro v4 out4 ⟨q4, c4, rfl, hc4, rfl⟩
 refine .appendSl (z := u8 0) (by' := 1) (Aa ([] ++ A6 (UInt64.ofNat B.fLinks.n))) J J J J J Y58.h Y58.h Sz5 Zr5 (by unfold By; kernel_rfl) J (fun w h => SeesP.of (Aj h B7)) (fun e => by cases e) (As _) (rem_there Az) J (by simp only [Aa, List.length_map, List.length_append, Ax, hB.l_fWriter, hB.l_fPrev, List.length_nil]; try omega) hq5 oM oM (by simp [Ax]) ?_
 intro q6 c6 hq6
 refine G13 ?_
 refine .loop (ι := Nat × Nat × Nat) (fun p => ⟨[(1, ptr n1 0), (3, .slice (some ⟨p.2.1, 0, none⟩) (32 + (0 + szN B.fSeq.toNat) + 32 + (0 + szN (UInt64.ofNat B.fLinks.n).toNat) + 32 * p.1) p.2.2), (26, B.fLinks.v), (27, i64 (B.fLinks.n : Int)), (28, i64 (p.1 : Int))], [⟨p.2.1, Aa (B.fWriter ++ A6 B.fSeq ++ B.fPrev ++ A6 (UInt64.ofNat B.fLinks.n) ++ (ls.take p.1).flatten), 5, p.2.2 * 1⟩, ⟨n1, B.cells, 79, B.cells.length⟩]⟩) (fun p => p.1 ≤ B.fLinks.n ∧ 32 + (0 + szN B.fSeq.toNat) + 32 + (0 + szN (UInt64.ofNat B.fLinks.n).toNat) + 32 * p.1 ≤ p.2.2) (fun p => B.fLinks.n - p.1) ((0, q6, c6)) ?_ ?_ ?_
 · exact ⟨Nat.zero_le _, by simp only []; omega⟩
 · exact Ai (wk1 rfl (wk1 rfl (wk1 rfl (wk1 rfl (wk1 rfl wk0))))) (wh1 (by simp only [List.take_zero, List.flatten_nil, List.append_nil, Aa, List.map_append, List.nil_append]; exact B7) (wh1 Z3 wh0)) nD
 rintro p ⟨hp1, hp2⟩
 refine G6 ?_
 refine .condP J (fun hc0 => ?_) (fun hc0 => ?_)
 ·
  have hp3 : p.1 < B.fLinks.n := by omega
  obtain ⟨b, o, hbp, hbs⟩ := hW.1.see.at (by rw [Bi hW.1.row]; omega)
  have hrk : (ls.getD p.1 []).length = 32 := Bg hW.1.row oM
  refine G6 ?_
  refine .idxSlP 32 J J J hbp J Y51.h Sz50 p.1 J oM (.loadEN (Aa (ls.getD p.1 [])) J J J Y50.h J Sz50 sP (by rw [Aa, List.length_map]; exact hrk) (sees_row hW.1.row hbs oM) ?_)
  refine .alloc (cs := (Aa (List.replicate 32 0))) J Zr50 J ?_
  intro n5 hn5 hf5
  refine .sA J J J J zE Sz50 (by (rw [Aa, List.length_map]; assumption)) Z0 sP zU ?_
  refine G5 ?_
  refine .appendSl (z := u8 0) (by' := 1) (Aa (ls.getD p.1 [])) J J J J J Y58.h Y58.h Sz5 Zr5 (by unfold By; kernel_rfl) J (fun w h => SeesP.of (Aj h B7)) (fun e => by cases e) (As _) (rem_there Az) J (by simp only [Aa, List.length_map, List.length_append, Ax, hB.l_fWriter, hB.l_fPrev, Bn hW.1.row (show p.1 ≤ ls.length by omega)]; omega) hp2 oM oM (by rw [Aa, List.length_map, hrk]) ?_
  intro q7 c7 hq7
  refine G9 ?_
  exact ⟨(p.1 + 1, q7, c7), ⟨by simp only []; omega, by simp only []; omega⟩, by simp only []; omega, Ai (wk1 rfl (wk1 (by rw [show 32 + (0 + szN B.fSeq.toNat) + 32 + (0 + szN (UInt64.ofNat B.fLinks.n).toNat) + 32 * (p.1 + 1) = 32 + (0 + szN B.fSeq.toNat) + 32 + (0 + szN (UInt64.ofNat B.fLinks.n).toNat) + 32 * p.1 + 32 by omega]; rfl) (wk1 rfl (wk1 rfl (wk1 rfl wk0))))) (wh1 (by rw [flatten_take_step oM, ← List.append_assoc]; simp only [Aa, List.map_append]; exact B7) (wh1 Z2 wh0)) nD⟩
 have hp3 : p.1 = B.fLinks.n := by omega
 refine G10 ?_
 refine .call J J J J Body121 (oct_Block none B.fData.p 0 0 B.fData.n B.fData.c [] ds J hW.2.len (fun _ => rfl) (fun e => by have := hW.2.nil e; have := hW.2.cap; omega) oM oM) (FreshRow.loose _ _ _ _) (fun w h => ⟨SeesP.nil, Ao h J hW.2.see⟩) ?_
 rintro v9 out9 ⟨q9, c9, rfl, hc9, rfl⟩
 refine .appendSl (z := u8 0) (by' := 1) (Aa ([] ++ A6 (UInt64.ofNat B.fData.n) ++ ds)) J J J J J Y58.h Y58.h Sz5 Zr5 (by unfold By; kernel_rfl) J (fun w h => SeesP.of (Aj h B7)) (fun e => by cases e) (As _) (rem_there Az) J (by simp only [Aa, List.length_map, List.length_append, Ax, hB.l_fWriter, hB.l_fPrev, Bn hW.1.row (show p.1 ≤ ls.length by omega)]; omega) hp2 oM oM (by simp [Ax, hW.2.len, Bc (show B.fData.n ≤ 1000000 by omega)]) ?_
 intro q8 c8 hq8
 refine G5 ?_
 have hN : 32 + (0 + szN B.fSeq.toNat) + 32 + (0 + szN (UInt64.ofNat B.fLinks.n).toNat) + 32 * p.1 + (0 + szN B.fData.n + B.fData.n) = (bodyB B ls ds).length := by
  have hfl := Bn hW.1.row (Nat.le_refl ls.length)
  rw [List.take_length] at hfl
  simp only [bodyB, List.length_append, Ax, hB.l_fWriter, hB.l_fPrev, hfl, hW.2.len, Bc (show B.fData.n ≤ 1000000 by omega)]
  omega
 refine ⟨_, [⟨q8, Aa (bodyB B ls ds), 5, c8 * 1⟩], Ad J J, (by intro b hb; rw [List.mem_singleton.1 hb, show bodyB B ls ds = B.fWriter ++ A6 B.fSeq ++ B.fPrev ++ A6 (UInt64.ofNat B.fLinks.n) ++ (ls.take p.1).flatten ++ (A6 (UInt64.ofNat B.fData.n) ++ ds) by rw [bodyB, List.take_of_length_le oM]]; simp only [Aa, List.map_append, List.append_assoc, List.nil_append]; exact B7), B2, ⟨_, rfl, by omega, q8, c8, by rw [← hN], by omega, rfl⟩⟩
theorem check_small {B : Block} {ls : List (List UInt8)} (h : bcheck B ls = 0) : B.fLinks.n ≤ 16 ∧ B.fData.n ≤ 512 := by
  unfold bcheck at h
  by_cases h1 : bheadB B = true
  · rw [if_pos h1] at h; cases h
  · unfold bheadB at h1
    simp at h1
    omega
def bytesB (B : Block) (ls : List (List UInt8)) (ds : List UInt8) : List UInt8 := bodyB B ls ds ++ B.fSig

theorem body_small (B : Block) (hB : B.ok) (ls : List (List UInt8)) (ds : List UInt8) (hr : ∀ l ∈ ls, l.length = 32) (hl : ls.length = B.fLinks.n) (hd : ds.length = B.fData.n) (hn : B.fLinks.n ≤ 40) (hd2 : B.fData.n ≤ 2000) : (bodyB B ls ds).length ≤ 4000 := by
  have hz1 := A2 B.fSeq.toNat
  have hz2 := A2 (UInt64.ofNat B.fLinks.n).toNat
  have hz3 := A2 (UInt64.ofNat B.fData.n).toNat
  have hfl := Bn hr (Nat.le_refl ls.length)
  rw [List.take_length] at hfl
  simp only [bodyB, List.length_append, Ax, hB.l_fWriter, hB.l_fPrev, hfl, hd]
  omega

theorem bytes_bad (B : Block) (hB : B.ok) (ls : List (List UInt8)) (ds : List UInt8) (hc : ¬ bcheck B ls = 0) : Meets Tryz.prog 111 [agg B.cells] [] (fun W => RowsAt W B.fLinks 32 ls ∧ BytesAt W B.fData ds) (fun v out => v = .tuple #[.slice none 0 0, i64 (bcheck B ls)] ∧ out = []) := by
 intro W hW
 refine Ag Tryz.func111 J 15 Tryz.ntmps111 J (G3 ?_)
 intro n1 hn1 hf1
 refine G8 ?_
 refine .cV J J J J Body82 (block_check B hB ls) (fun w h => rows_ext h J hW.1) (G6 ?_)
 refine .nei J J J J (show (!decide _) = true from congrArg not (decide_eq_false (hc))) (G2 ?_)
 refine .cond_t J (rfl) (G10 ?_)
 refine ⟨_, [], A9 J J J, sP, sP, ?_, rfl⟩
 rfl

theorem bytes_ok (B : Block) (hB : B.ok) (ls : List (List UInt8)) (ds : List UInt8) (hc : bcheck B ls = 0) : Meets Tryz.prog 111 [agg B.cells] [] (fun W => RowsAt W B.fLinks 32 ls ∧ BytesAt W B.fData ds) (fun v out => ∃ q c N, N = (bytesB B ls ds).length ∧ N ≤ 5000 ∧ v = .tuple #[.slice (some ⟨q, 0, none⟩) N c, i64 0] ∧ N ≤ c ∧ out = [⟨q, Aa (bytesB B ls ds), 5, c * 1⟩]) := by
 intro W hW
 have hsm := check_small hc
 refine Ag Tryz.func111 J 15 Tryz.ntmps111 J (G3 ?_)
 intro n1 hn1 hf1
 refine G8 ?_
 refine .cV J J J J Body82 (block_check B hB ls) (fun w h => rows_ext h J hW.1) (G6 ?_)
 refine .nei J J J J (show (!decide _) = false from congrArg not (decide_eq_true (hc))) (G2 ?_)
 refine .cond_f J (rfl) (G3 ?_)
 refine .draw [(1, 0), (0, 2), (0, 3), (3, 1), (4, 4), (0, 5), (0, 6)] Ba zK (G3 ?_)
 refine .call J J J J Body200 (block_body B hB ls ds oM oM) (fun l hl => by obtain ⟨v, out, h1, h2⟩ := FreshRow.loose (Aa (bodyB B ls ds)) 5 (bodyB B ls ds).length 1 l hl; exact ⟨v, out, ⟨_, rfl, body_small B hB ls ds hW.1.row hW.1.len hW.2.len oM oM, h1⟩, h2⟩) (fun w h => ⟨rows_ext h J hW.1, bytes_ext h J hW.2⟩) ?_
 rintro v1 out1 ⟨N1, hN1, hN2, q1, c1, rfl, hc1, rfl⟩
 refine .appendSl (z := u8 0) (by' := 1) (Aa B.fSig) J J J J J Y58.h Y58.h Sz5 Zr5 (by unfold By; kernel_rfl) J (fun W2 W2h => (SeesP.of (sees_part W2h Z1 (Block.see_fSig hB)))) (fun e => by cases e) (As _) Az J (by rw [Aa, List.length_map, hN1, Nat.mul_one]) hc1 oM oM (by simp [hB.l_fSig]) ?_
 intro q2 c2 hq2
 refine G6 ?_
 refine ⟨_, [⟨q2, Aa (bytesB B ls ds), 5, c2 * 1⟩], A9 J J J, (by intro b hb; rw [List.mem_singleton.1 hb, bytesB]; simp only [Aa, List.map_append]; exact B7), B2, ⟨q2, c2, N1 + 64, by rw [hN1, bytesB, List.length_append, hB.l_fSig], by omega, rfl, hq2, rfl⟩⟩

theorem bytes_equal (p q : Option Addr) (n m c1 c2 : Nat) (xs ys : List UInt8) (h1 : xs.length = n) (h2 : ys.length = m) : Meets Tryz.prog 220 [.slice p n c1, .slice q m c2] [] (fun W => SeesP W p (Aa xs) ∧ SeesP W q (Aa ys)) (fun v out => v = .bool (decide (xs = ys)) ∧ out = []) := by
 intro W hW
 refine Ag Tryz.func220 J 10 Tryz.ntmps220 J (G8 ?_)
 refine .toStr J J J Y58.h Y5.h Y9 (fun w h => Ao h J hW.1) h1 (G1 ?_)
 refine .toStr J J J Y58.h Y5.h Y9 (fun w h => Ao h J hW.2) h2 (.eql_str J J J J J (G5 ?_))
 refine ⟨_, [], Ad J J, sP, sP, ?_, rfl⟩
 rfl


theorem seq_eq (p q : Option Addr) (n c1 c2 : Nat) (xs bs : List (List UInt8)) (hra : ∀ l ∈ xs, l.length = 32) (hrb : ∀ l ∈ bs, l.length = 32) (ha : xs.length = n) (hb : bs.length = n) (hn : n ≤ 1000000) : Meets Tryz.prog 155 [.slice p n c1, .slice q n c2] [] (fun W => SeesP W p (Bs xs) ∧ SeesP W q (Bs bs)) (fun v out => v = .bool (decide (xs = bs)) ∧ out = []) := by
 intro W hW
 refine Ag Tryz.func155 J 26 Tryz.ntmps155 J (G12 ?_)
 refine .nei J J J J (show (!decide _) = false from congrArg not (decide_eq_true (rfl))) (G2 ?_)
 refine .cond_f J (rfl) (G11 ?_)
 refine .loop (ι := Nat) (fun k => ⟨[(0, .slice p n c1), (1, .slice q n c2), (12, i64 (n : Int)), (13, i64 (k : Int))], []⟩) (fun k => k ≤ n ∧ xs.take k = bs.take k) (fun k => n - k) (0) ?_ ?_ ?_
 · exact ⟨by omega, rfl⟩
 · exact Ai (wk1 rfl (wk1 rfl (wk1 rfl (wk1 rfl wk0)))) wh0 nD
 rintro k ⟨hk, hg⟩
 refine G6 ?_
 refine .condP J (fun hc1 => ?_) (fun hc1 => ?_)
 ·
  have hk2 : k < n := by omega
  obtain ⟨b1, o1, hp1, hs1⟩ := hW.1.at (by rw [Bi hra]; omega)
  obtain ⟨b2, o2, hp2, hs2⟩ := hW.2.at (by rw [Bi hrb]; omega)
  have r1 : (xs.getD k []).length = 32 := Bg hra oM
  have r2 : (bs.getD k []).length = 32 := Bg hrb oM
  refine G11 ?_
  refine .draw [(0, 0), (0, 1), (0, 2), (1, 3), (0, 4), (0, 5), (0, 6), (1, 7), (0, 8)] Ba zK (G2 ?_)
  refine .idxSlP 32 J J J hp1 J Y51.h Sz50 k J oM (.loadEN (Aa (xs.getD k [])) J J J Y50.h J Sz50 sP (by rw [Aa, List.length_map]; exact Bg hra oM) (sees_row hra hs1 oM) ?_)
  refine G2 ?_
  refine .idxSlP 32 J J J hp2 J Y51.h Sz50 k J oM (.loadEN (Aa (bs.getD k [])) J J J Y50.h J Sz50 sP (by rw [Aa, List.length_map]; exact Bg hrb oM) (sees_row hrb hs2 oM) ?_)
  refine .neq_bytes J J J J Tryz.eqGuardType50 Y50.h Y5.h Sz5 zA zA J ?_
  refine G2 ?_
  refine .condNP J (fun hc2 => ?_) (fun hc2 => ?_)
  ·
   refine G12 ?_
   refine ⟨_, [], Ad J J, sP, sP, ?_, rfl⟩
   (rw [decide_eq_false (fun e => hc2 (by rw [e]))]; done)
  refine G8 ?_
  exact ⟨k + 1, ⟨by omega, take_step [] oM oM hg hc2⟩, by omega, Ai (wk1 rfl (wk1 rfl (wk1 rfl (wk1 rfl wk0)))) wh0 nD⟩
 obtain rfl : k = n := by omega
 refine G12 ?_
 refine ⟨_, [], Ad J J, sP, sP, ?_, rfl⟩
 (rw [List.take_of_length_le oM, List.take_of_length_le oM] at hg; rw [decide_eq_true hg]; done)
theorem seq_ne (p q : Option Addr) (n m c1 c2 : Nat) (xs bs : List (List UInt8)) (hra : ∀ l ∈ xs, l.length = 32) (hrb : ∀ l ∈ bs, l.length = 32) (ha : xs.length = n) (hb : bs.length = m) (hn : n ≤ 1000000) (hnm : n ≠ m) : Meets Tryz.prog 155 [.slice p n c1, .slice q m c2] [] (fun W => SeesP W p (Bs xs) ∧ SeesP W q (Bs bs)) (fun v out => v = .bool (decide (xs = bs)) ∧ out = []) := by
 intro W hW
 refine Ag Tryz.func155 J 26 Tryz.ntmps155 J (G12 ?_)
 refine .nei J J J J (show (!decide _) = true from congrArg not (decide_eq_false oM)) (G2 ?_)
 refine .cond_t J (rfl) (G8 ?_)
 refine ⟨_, [], Ad J J, sP, sP, ?_, rfl⟩
 rw [decide_eq_false (fun e => hnm (by rw [← ha, ← hb, e]))]

theorem seq_any (p q : Option Addr) (n m c1 c2 : Nat) (xs ys : List (List UInt8)) (hx : ∀ l ∈ xs, l.length = 32) (hy : ∀ l ∈ ys, l.length = 32) (h1 : xs.length = n) (h2 : ys.length = m) (hn : n ≤ 1000000) :
    Meets Tryz.prog 155 [.slice p n c1, .slice q m c2] [] (fun W => SeesP W p (Bs xs) ∧ SeesP W q (Bs ys)) (fun v out => v = .bool (decide (xs = ys)) ∧ out = []) := by
  by_cases h : n = m
  · subst h; exact seq_eq p q n c1 c2 xs ys hx hy h1 h2 hn
  · exact seq_ne p q n m c1 c2 xs ys hx hy h1 h2 hn h
theorem digests_any2 (p q : Option Addr) (n m c1 c2 : Nat) (xs ys : List (List UInt8)) (hx : ∀ l ∈ xs, l.length = 32) (hy : ∀ l ∈ ys, l.length = 32) (h1 : xs.length = n) (h2 : ys.length = m) (hn : n ≤ 1000000) :
    Meets Tryz.prog 130 [.slice p n c1, .slice q m c2] [] (fun W => SeesP W p (Bs xs) ∧ SeesP W q (Bs ys)) (fun v out => v = .bool (decide (xs = ys)) ∧ out = []) := by
  by_cases h : n = m
  · subst h; exact digests_eq p q n c1 c2 xs ys hx hy h1 h2 hn
  · exact digests_ne p q n m c1 c2 xs ys hx hy h1 h2 hn h

def sameB (A B : Block) (la lb : List (List UInt8)) (da db : List UInt8) : Bool := decide (A.fWriter = B.fWriter) && (decide ((A.fSeq.toNat : Int) = (B.fSeq.toNat : Int)) && (decide (A.fPrev = B.fPrev) && (decide (la = lb) && (decide (da = db) && decide (A.fSig = B.fSig)))))

theorem kit_block (A B : Block) (hA : A.ok) (hB : B.ok) (la lb : List (List UInt8)) (da db : List UInt8) (hn : A.fLinks.n ≤ 1000000) : Meets Tryz.prog 89 [agg A.cells, agg B.cells] [] (fun W => (RowsAt W A.fLinks 32 la ∧ BytesAt W A.fData da) ∧ (RowsAt W B.fLinks 32 lb ∧ BytesAt W B.fData db)) (fun v out => v = .bool (sameB A B la lb da db) ∧ out = []) := by
 intro W hW
 refine Ag Tryz.func89 J 47 Tryz.ntmps89 J (G3 ?_)
 intro n2 hn2 hf2
 refine G1 ?_
 intro n3 hn3 hf3
 refine G6 ?_
 refine .lN (Aa _) J J J Y75.h J Sz75 Z1 (Block.row_fWriter zA) (Block.rl_fWriter zA) ?_
 refine G1 ?_
 refine .lN (Aa _) J J J Y75.h J Sz75 Z0 (Block.row_fWriter zA) (Block.rl_fWriter zA) ?_
 refine two (fun r hr k => Tr.eql_bytes J J J J Tryz.eqGuardType75 Y75.h Y5.h Sz5 (by (simp [hA.l_fWriter]; done)) (by (simp [hB.l_fWriter]; done)) hr k) (fun hs1_40 => ?_) (fun hs1_40 => ?_)
 ·
  have hs1_4 := of_decide_eq_true hs1_40
  refine G5 ?_
  refine two (fun r hr k => Tr.eqi J J J J hr k) (fun hs1_100 => ?_) (fun hs1_100 => ?_)
  ·
   have hs1_10 := of_decide_eq_true hs1_100
   refine G3 ?_
   refine .lN (Aa _) J J J Y50.h J Sz50 Z1 (Block.row_fPrev zA) (Block.rl_fPrev zA) ?_
   refine G1 ?_
   refine .lN (Aa _) J J J Y50.h J Sz50 Z0 (Block.row_fPrev zA) (Block.rl_fPrev zA) ?_
   refine two (fun r hr k => Tr.eql_bytes J J J J Tryz.eqGuardType50 Y50.h Y5.h Sz5 (by (simp [hA.l_fPrev]; done)) (by (simp [hB.l_fPrev]; done)) hr k) (fun hs1_170 => ?_) (fun hs1_170 => ?_)
   ·
    have hs1_17 := of_decide_eq_true hs1_170
    refine G6 ?_
    refine .callB J J J J Body130 (digests_any2 _ _ _ _ _ _ la lb hW.1.1.row hW.2.1.row hW.1.1.len hW.2.1.len hn) (fun w h => ⟨Ao h J hW.1.1.see, Ao h J hW.2.1.see⟩) (fun hs1_240 => ?_) (fun hs1_240 => ?_)
    ·
     have hs1_24 := of_decide_eq_true hs1_240
     refine G4 ?_
     refine .toStr J J J Y58.h Y5.h Y9 (fun w h => Ao h J hW.1.2.see) hW.1.2.len (G2 ?_)
     refine .toStr J J J Y58.h Y5.h Y9 (fun w h => Ao h J hW.2.2.see) hW.2.2.len (two (fun r hr k => Tr.eql_str J J J J hr k) (fun hs1_330 => ?_) (fun hs1_330 => ?_))
     ·
      have hs1_33 := of_decide_eq_true hs1_330
      refine G3 ?_
      refine .lN (Aa _) J J J Y77.h J Sz77 Z1 (Block.row_fSig zA) (Block.rl_fSig zA) ?_
      refine G1 ?_
      refine .lN (Aa _) J J J Y77.h J Sz77 Z0 (Block.row_fSig zA) (Block.rl_fSig zA) ?_
      refine .eql_bytes J J J J Tryz.eqGuardType77 Y77.h Y5.h Sz5 (by (simp [hA.l_fSig]; done)) (by (simp [hB.l_fSig]; done)) J ?_
      refine G6 ?_
      refine ⟨_, [], Ad J J, sP, sP, ?_, rfl⟩
      simp_all [sameB]
     have hs1_33 := of_decide_eq_false hs1_330
     refine G13 ?_
     refine ⟨_, [], Ad J J, sP, sP, ?_, rfl⟩
     simp_all [sameB]
    have hs1_24 := of_decide_eq_false hs1_240
    refine G22 ?_
    refine ⟨_, [], Ad J J, sP, sP, ?_, rfl⟩
    simp_all [sameB]
   have hs1_17 := of_decide_eq_false hs1_170
   refine G29 ?_
   refine ⟨_, [], Ad J J, sP, sP, ?_, rfl⟩
   simp_all [sameB]
  have hs1_10 := of_decide_eq_false hs1_100
  refine G36 ?_
  refine ⟨_, [], Ad J J, sP, sP, ?_, rfl⟩
  simp_all [sameB]
 have hs1_4 := of_decide_eq_false hs1_40
 refine G42 ?_
 refine ⟨_, [], Ad J J, sP, sP, ?_, rfl⟩
 simp_all [sameB]
theorem block_same (A B : Block) (hA : A.ok) (hB : B.ok) (la lb : List (List UInt8)) (da db : List UInt8) (hn : A.fLinks.n ≤ 1000000) : Meets Tryz.prog 157 [agg A.cells, agg B.cells] [] (fun W => (RowsAt W A.fLinks 32 la ∧ BytesAt W A.fData da) ∧ (RowsAt W B.fLinks 32 lb ∧ BytesAt W B.fData db)) (fun v out => v = .bool (sameB A B la lb da db) ∧ out = []) := by
 intro W hW
 refine Ag Tryz.func157 J 45 Tryz.ntmps157 J (G3 ?_)
 intro n2 hn2 hf2
 refine G1 ?_
 intro n3 hn3 hf3
 refine G6 ?_
 refine .lN (Aa _) J J J Y75.h J Sz75 Z1 (Block.row_fWriter zA) (Block.rl_fWriter zA) ?_
 refine G1 ?_
 refine .lN (Aa _) J J J Y75.h J Sz75 Z0 (Block.row_fWriter zA) (Block.rl_fWriter zA) ?_
 refine two (fun r hr k => Tr.eql_bytes J J J J Tryz.eqGuardType75 Y75.h Y5.h Sz5 (by (simp [hA.l_fWriter]; done)) (by (simp [hB.l_fWriter]; done)) hr k) (fun hs1_40 => ?_) (fun hs1_40 => ?_)
 ·
  have hs1_4 := of_decide_eq_true hs1_40
  refine G5 ?_
  refine two (fun r hr k => Tr.eqi J J J J hr k) (fun hs1_100 => ?_) (fun hs1_100 => ?_)
  ·
   have hs1_10 := of_decide_eq_true hs1_100
   refine G3 ?_
   refine .lN (Aa _) J J J Y50.h J Sz50 Z1 (Block.row_fPrev zA) (Block.rl_fPrev zA) ?_
   refine G1 ?_
   refine .lN (Aa _) J J J Y50.h J Sz50 Z0 (Block.row_fPrev zA) (Block.rl_fPrev zA) ?_
   refine two (fun r hr k => Tr.eql_bytes J J J J Tryz.eqGuardType50 Y50.h Y5.h Sz5 (by (simp [hA.l_fPrev]; done)) (by (simp [hB.l_fPrev]; done)) hr k) (fun hs1_170 => ?_) (fun hs1_170 => ?_)
   ·
    have hs1_17 := of_decide_eq_true hs1_170
    refine G3 ?_
    refine .lN (Aa _) J J J Y77.h J Sz77 Z1 (Block.row_fSig zA) (Block.rl_fSig zA) ?_
    refine G1 ?_
    refine .lN (Aa _) J J J Y77.h J Sz77 Z0 (Block.row_fSig zA) (Block.rl_fSig zA) ?_
    refine two (fun r hr k => Tr.eql_bytes J J J J Tryz.eqGuardType77 Y77.h Y5.h Sz5 (by (simp [hA.l_fSig]; done)) (by (simp [hB.l_fSig]; done)) hr k) (fun hs1_240 => ?_) (fun hs1_240 => ?_)
    ·
     have hs1_24 := of_decide_eq_true hs1_240
     refine G6 ?_
     refine .callB J J J J Body155 (seq_any _ _ _ _ _ _ la lb hW.1.1.row hW.2.1.row hW.1.1.len hW.2.1.len hn) (fun w h => ⟨Ao h J hW.1.1.see, Ao h J hW.2.1.see⟩) (fun hs1_310 => ?_) (fun hs1_310 => ?_)
     ·
      have hs1_31 := of_decide_eq_true hs1_310
      refine G6 ?_
      refine .cV J J J J Body220 (bytes_equal _ _ _ _ _ _ da db hW.1.2.len hW.2.2.len) (fun w h => ⟨Ao h J hW.1.2.see, Ao h J hW.2.2.see⟩) (G6 ?_)
      refine ⟨_, [], Ad J J, sP, sP, ?_, rfl⟩
      simp_all [sameB]
     have hs1_31 := of_decide_eq_false hs1_310
     refine G13 ?_
     refine ⟨_, [], Ad J J, sP, sP, ?_, rfl⟩
     simp_all [sameB]
    have hs1_24 := of_decide_eq_false hs1_240
    refine G20 ?_
    refine ⟨_, [], Ad J J, sP, sP, ?_, rfl⟩
    simp_all [sameB]
   have hs1_17 := of_decide_eq_false hs1_170
   refine G27 ?_
   refine ⟨_, [], Ad J J, sP, sP, ?_, rfl⟩
   simp_all [sameB]
  have hs1_10 := of_decide_eq_false hs1_100
  refine G34 ?_
  refine ⟨_, [], Ad J J, sP, sP, ?_, rfl⟩
  simp_all [sameB]
 have hs1_4 := of_decide_eq_false hs1_40
 refine G40 ?_
 refine ⟨_, [], Ad J J, sP, sP, ?_, rfl⟩
 simp_all [sameB]
end Go.Proofs.YtdifpjmfabhpiaaGreat
end
