/- Contracts of functions of the loaded program, and the lemmas that they need (part 2). It proves no statement by itself; it has no conditions. -/
import Derived.WalkKit
import Derived.Orders
import Derived.Deep.LoopGhost
import Derived.IntWalk
import Derived.Laws.StructEq
import Derived.ArgAppend
import Derived.Deep.AppendSrc
import Derived.Lib.Bytealg
import Derived.Lib.BytesEntry
import Derived.Laws.IdiomStrings
import Derived.WideKeyArr2
import Derived.ProofKit
import Derived.OpenShut
import Derived.Deep.Slices
import Derived.Laws.Pointers
import Derived.Laws.Cover3
import Derived.LaidEqlPtr
import Derived.LoopN
import Derived.RangeFuncLeaves
import Derived.RangeFuncSeq
import Derived.OrdersIn
import Derived.Maps.Keyed
import Derived.Maps.RangeRun
import Derived.DeepKeys4
import Derived.Below
import Derived.Test.YtdilealohibfoaaGreatRows
import Derived.KernelRfl
import Derived.Laws.Externs
import Derived.Defers
import Derived.Laws.MathBits
import Derived.Shelf.SlSortCmp.WholeK
import Derived.Shelf.SlGeneric
import Derived.Test.YtdilealohibfoaaGreatProg
import Derived.Shelf.SlSortCmp.NoneTotal
import Derived.Deep.QuietTactic
import Derived.BigQuiet
import Derived.ScopeJumps
import Derived.DeepKeys3
import Derived.ChangeOld
import Derived.JoinedOf
import Derived.Test.YtdilealohibfoaaGreatCNlX1
set_option maxRecDepth 100000
set_option maxHeartbeats 8000000
set_option linter.unusedVariables false
set_option linter.unusedSimpArgs false
set_option linter.unusedSectionVars false
set_option linter.unnecessarySimpa false
section
namespace Hw
open Go Go.RowKit

def FW (ro : Option Nat) : Fence := { Fence.wide with round := ro }
def noDefer (ops : Array Oper) : Bool := ops.all fun o => match o.op with | .defer _ => false | _ => true
theorem noDefer_at {ops : Array Oper} (h : noDefer ops = true) {i : Nat} {o : Oper} (hi : ops[i]? = some o) : ∀ c, o.op ≠ .defer c := fun c hc => by
  obtain ⟨hlt, he⟩ := Array.getElem?_eq_some_iff.1 hi;have := (Array.all_eq_true.1 h) i hlt;rw [he, hc] at this;cases this

section
variable {ro : Option Nat} {n : Nat} {P : Program}
theorem calls_FW {f : FuncId} {args : Array Value} {w : World} {R R' : Ending → World → Prop} (h : Calls P f args w R) (hr : ∀ e w, R e w → R' e w) : CallsIn (FW ro) n P f args w R' :=
  show CallsIn Fence.wide n P f args w R' from callsIn_wide.2 (h.mono hr)
theorem rows_FW {row : String} {args : Array Value} {w : World} {R : Value → World → Prop} (h : Rows P row args w R) : RowsIn (FW ro) n P row args w R :=
  show RowsIn Fence.wide n P row args w R from fun c cs _ => let ⟨v, w', r, s⟩ := h c cs; ⟨v, w', r, stepsIn_wide.2 s⟩

theorem wp_in {o : Oper} {a : Act} {w : World} {K : Act → World → Prop} {X : Exit → Act → World → Prop} (h : Oper.wp P o a w K X) (hnd : ∀ c, o.op ≠ .defer c) : Oper.wpIn (FW ro) n P o a w K X := by
  refine ⟨fun f _ => trivial, ?_⟩;rw [Oper.semAt_eq _ _ _ hnd];unfold Oper.wp at h;generalize (execOp a.eval o).run P w = r at h ⊢;cases r with
  | ok x w' =>
    cases x <;> simp only [Oper.upon] at h <;> simp only [Oper.uponIn]
    case value => exact h
    case skip => exact h
    case defer => exact h
    case enter f args => exact ⟨fun h0 => (by cases h0), calls_FW h fun e w h => h⟩
    case row => exact ⟨fun h0 => (by cases h0), rows_FW h⟩
  | halt x w' => cases x <;> simp only [Oper.upon] at h <;> simp only [Oper.uponIn] <;> exact h

theorem wpOp_in {ops : Array Oper} {X : Exit → Act → World → Prop} {i : Nat} {K : Act → World → Prop} {a : Act} {w : World} (h : wpOp P ops X i K a w) (hnd : noDefer ops = true) (hX : ∀ a w, ¬ X .outgrown a w) : wpOpIn (FW ro) n P ops X i K a w := by
  unfold wpOp at h;unfold wpOpIn;cases ho : ops[i]? with
  | none => rw [ho] at h; exact h
  | some o =>
    rw [ho] at h;simp only at h ⊢;split
    · rename_i hw
      rw [if_pos hw] at h;rcases h with h | ⟨_, a0, w0, h⟩
      · exact wp_in h (noDefer_at hnd ho)
      · exact absurd h (hX a0 w0)
    · rename_i hw
      rw [if_neg hw] at h;exact ⟨fun f _ => trivial, h⟩
theorem wpOps_in {ops : Array Oper} {X : Exit → Act → World → Prop} (hnd : noDefer ops = true) (hX : ∀ a w, ¬ X .outgrown a w) : ∀ (l : List Nat) (a : Act) (w : World), wpOps P ops X l a w → wpOpsIn (FW ro) n P ops X l a w
  | [], a, w, h => h
  | i :: l, a, w, h => by
    rw [wpOps_cons] at h;rw [wpOpsIn_cons];exact wpOpIn_mono (fun a w h => wpOps_in hnd hX l a w h) (wpOp_in h hnd hX)
end

def SatI (ro : Option Nat) (C : Cx) (code : Code) (s : St) (Q : St → Prop) : Prop :=
  ∀ a w, Rep C s a w → code.wpIn (FW ro) 0 C.P (Fin C Q) a w
theorem fin_out {C : Cx} {Q : St → Prop} : ∀ a w, ¬ Fin C Q .outgrown a w := fun a w h => by cases h.1
theorem SatI.region {ro : Option Nat} {C : Cx} {id : Nat} {ops : List Oper} {s : St} {Q : St → Prop} (hnd : noDefer ops.toArray = true) (h : Tr C ops.toArray (ops.map fun o => (4, o)) s Q) : SatI ro C (.region id ops.toArray false) s Q := by
  intro a w r;refine wpIn_region (wpOps_in hnd fin_out _ _ _ (wpOps_of_tr _ _ s a w _ sP (fun k => ?_) r h fun s' a' w' r' q => ⟨rfl, s', r', q⟩));by_cases hk : k < ops.length
  · simp [hk]
  · simp [hk]
theorem SatI.draw {ro : Option Nat} {C : Cx} {id : Nat} {ops : List Oper} {s : St} {Q : St → Prop} (perm : List (Nat × Nat)) (hm : C.P.follows .mixedOrders = true) (hok : orderOk ops.toArray perm = true) (hnd : noDefer ops.toArray = true)
    (h : Tr C ops.toArray (items ops.toArray perm) s Q) : SatI ro C (.region id ops.toArray true) s Q := by
  intro a w r;have hlen : perm.length ≤ ops.length := by
    simp only [orderOk, Bool.and_eq_true] at hok;have hnd := topo_nodup perm [] hok.1.1;have hlt : ∀ x ∈ perm.map (·.2), x ∈ List.range ops.length := fun x hx => by
      obtain ⟨p, hp, rfl⟩ := List.mem_map.1 hx;have := (topo_mem perm [] hok.1.1 p hp).1;simpa using this
    have := hnd.length_le_of_subset hlt;simpa using this
  have h0 : perm.filter (fun p => !(Array.replicate ops.toArray.size false).getD p.2 false) = perm := List.filter_eq_self.2 fun p _ => by
    rw [Array.getD_eq_getD_getElem?, Array.getElem?_replicate];split <;> rfl
  have := wpAny_of_tr (C := C) hok ops.toArray.size (Array.replicate ops.toArray.size false) s a { w with drawn := w.drawn + 1 } Q sP
    (fun j hj => by
      rw [Array.getD_eq_getD_getElem?, Array.getElem?_replicate] at hj;split at hj <;> simp at hj) (by rw [h0]; simpa using hlen) ⟨r.rs, r.rh.drew _⟩ (by rw [h0]; exact h)
  refine wpIn_region_draw fun t => ?_;simp only [Region.schedule, hm, Bool.true_or, if_true];exact wpOps_in hnd fin_out _ _ _ (wpAny_sound ops.toArray.size t _ a _ this)
theorem SatI.block {ro : Option Nat} {C : Cx} {id : Nat} {x : Code} {s : St} {Q : St → Prop} (h : SatI ro C x s Q) : SatI ro C (.block id x) s Q := fun a w r =>
  wpIn_block (wpIn_mono (h a w r) fun e a w ⟨he, q⟩ => by subst he; exact ⟨rfl, q⟩)

theorem HRep.ofRet {P : Program} {w w' : World} {names : List Nat} {hp : List Blk} (h : Ret names hp w w') (hn : hp.map (·.n) = names) : HRep ⟨P, w, 0, names, [], []⟩ hp w' :=
  ⟨h.cells, h.nodup, fun b hb => .inr (by show b.n ∈ names; rw [← hn]; exact List.mem_map.2 ⟨b, hb, rfl⟩), h.keeps, fun _ h => (by cases h), fun _ _ _ h => (by cases h)⟩
theorem acc_pos {s : Sl} {bl : List Blk} {cells : List Value} {E : TypeId} {n size : Nat} (h : Acc s bl cells E n size) (hn : 0 < n) : ∃ q c, s = ⟨some ⟨q, 0, none⟩, n, c⟩ ∧ n ≤ c ∧ bl = [⟨q, cells, E, c * size⟩] := by
  rcases h with ⟨_, _, _, rfl⟩ | ⟨q, c, h1, h2, _, h4⟩
  · omega
  · exact ⟨q, c, h1, h2, h4⟩
section
variable {C : Cx} {ops : Array Oper} {rest : List (Nat × Oper)} {sl : List (Nat × Value)} {hp : List Blk} {Q : St → Prop} {c d : Nat} {ty : TypeId} {pos : String} {af : Array Edge} {g : Option (Nat × Bool)}
theorem Tr.constB {x : Operand} {b n cap : Nat} {T E : TypeId} {cs : List Value} {m : Nat} (hg : Aj ops sl g = true) (hc : Nat.beq c 4 = true) (hd : Nat.blt d C.N = true) (hx : Af sl x = some (.slice (some ⟨b, 0, none⟩) n cap)) (hu : C.P.underlying T = some (.slice E)) (he : C.P.underlying E = some (.int .u8)) (hb : (⟨b, cs, E, m⟩ : Blk) ∈ hp)
    (k : Tr C ops rest ⟨(d, .slice (some ⟨b, 0, none⟩) n cap) :: sl, hp⟩ Q) : Tr C ops ((c, ⟨some d, .convert T T x, ty, pos, af, g⟩) :: rest) ⟨sl, hp⟩ Q := by
  refine Tr.act (ρ := Unit) (fun _ => True) (fun _ => .slice (some ⟨b, 0, none⟩) n cap) (fun _ => hp) (nbeq' hc) (Aw hg) (B0 (nblt hd)) ⟨known1 hx, fun a w hf hh => ?_⟩ (fun _ _ => k);have h1 := hf x (by simp [Op.operands]); rw [hx] at h1;simp only [Option.some.injEq] at h1;obtain ⟨full, fr, hbk⟩ := hh.cells _ hb;have hlt := (hh.cells _ hb).lt;have hsh : w.shape? b = some (E, full.size) := by unfold World.shape?; rw [hbk.heap]; rfl
  obtain ⟨fr', hfr', hfree⟩ : ∃ fr', w.freeze ⟨b, full.size, none⟩ 1 = setBlk w b full E fr' ∧ Free fr' m := by
    refine ⟨if fr.1 == fr.2 then (full.size, full.size + 1) else (min fr.1 full.size, max fr.2 (full.size + 1)), ?_, ?_⟩
    · unfold World.freeze setBlk
      rw [if_neg dE];congr 1;apply Array.ext_getElem?;intro i;rw [Array.getElem?_setIfInBounds, Array.getElem?_modify];by_cases hi : b = i
      · subst hi
        rw [if_pos rfl, if_pos rfl, if_pos hlt, hbk.heap];rfl
      · rw [if_neg hi, if_neg hi]
    · have hf := hbk.free
      have hs := hbk.size;simp only at hf hs;by_cases e : fr.1 = fr.2
      · rw [if_pos (by simpa using e)]
        exact ⟨by simp, fun i hi => by simp; omega⟩
      · rw [if_neg (by simpa using e)]
        have hle := hf.le;have hm : m ≤ fr.1 := by
          rcases Nat.lt_or_ge fr.1 m with h1 | h1
          · have := hf.at' fr.1 h1
            simp at this;omega
          · exact h1
        exact ⟨by simp; omega, fun i hi => by simp; omega⟩
  have hrun : (execOp a.eval ⟨some d, .convert T T x, ty, pos, af, g⟩).run C.P w = .ok (.value (.slice (some ⟨b, 0, none⟩) n cap)) (setBlk w b full E fr') := by
    simp [execOp, convert, ← h1, run_underlying hu, run_underlying he, markStringish, hsh, hfr']
  unfold Oper.wp;rw [hrun];have hup : Upd hp b cs E m cs hp := by
    clear hh k hf
    induction hp with
    | nil => cases hb
    | cons y l ih =>
      rcases List.mem_cons.1 hb with rfl | h
      · exact .head
      · exact .tail (ih h)
  exact ⟨(), trivial, rfl, hh.upd hup hlt hbk.size hbk.pre hfree⟩

theorem Tr.sliceArrHi {x hi : Operand} {b o len : Nat} {xT E : TypeId} {kl : IntKind} {l : Int} (j : Nat) (hg : Aj ops sl g = true) (hk : okD c d C.N = true) (hx : Af sl x = some (ptr b o)) (hlo : Af sl hi = some (.int kl l)) (hj : l = j) (hlt : j ≤ len) (hpos : 0 < len) (hu : C.P.underlying xT = some (.array len E)) {sz : Nat} (hs : Sz C.P E sz)
    (k : Tr C ops rest ⟨(d, .slice (some ⟨b, o, none⟩) j len) :: sl, hp⟩ Q) : Tr C ops ((c, ⟨some d, .slice xT x none (some hi) none, ty, pos, af, g⟩) :: rest) ⟨sl, hp⟩ Q :=
  .pv hg hk ⟨by simpa [Known, Op.operands] using known2 hx hlo, fun ρ hfi w => by
    have h1 := hfi x (by simp [Op.operands]); rw [hx] at h1;have h2 := hfi hi (by simp [Op.operands]); rw [hlo] at h2;simp only [Option.some.injEq] at h1 h2;subst hj;have e : ¬ (len = 0) := by omega
    simp [execOp, Instr.sliceAt, ← h1, ← h2, run_underlying hu, Instr.sureAddr, Instr.sliceBounds, Instr.sliceBound, asIntOf, Cg hs, Br, e, hlt]⟩ k

theorem Tr.slice3 {x lo hi mx : Operand} {b o n cap : Nat} {T E : TypeId} {kl kh km : IntKind} {l h m : Int} {sz : Nat} (i j t : Nat) (hg : Aj ops sl g = true) (hk : okD c d C.N = true) (hx : Af sl x = some (.slice (some ⟨b, o, none⟩) n cap)) (hl : Af sl lo = some (.int kl l)) (hh : Af sl hi = some (.int kh h)) (hm : Af sl mx = some (.int km m)) (hi' : l = i) (hj : h = j) (ht : m = t) (hij : i ≤ j) (hjt : j ≤ t) (htc : t ≤ cap)
    (hu : C.P.underlying T = some (.slice E)) (hs : Sz C.P E sz)
    (k : Tr C ops rest ⟨(d, .slice (some ⟨b, if t = i then o else o + i * sz, none⟩) (j - i) (t - i)) :: sl, hp⟩ Q) : Tr C ops ((c, ⟨some d, .slice T x (some lo) (some hi) (some mx), ty, pos, af, g⟩) :: rest) ⟨sl, hp⟩ Q :=
  .pv hg hk ⟨fun z hz => by
    simp [Op.operands] at hz;rcases hz with rfl | rfl | rfl | rfl
    · simp [hx]
    · simp [hl]
    · simp [hh]
    · simp [hm], fun ρ hfi w => by
    have h1 := hfi x (by simp [Op.operands]); rw [hx] at h1;have h2 := hfi lo (by simp [Op.operands]); rw [hl] at h2;have h3 := hfi hi (by simp [Op.operands]); rw [hh] at h3;have h4 := hfi mx (by simp [Op.operands]); rw [hm] at h4;simp only [Option.some.injEq] at h1 h2 h3 h4;subst hi';subst hj;subst ht;by_cases e : t = i
    · subst e
      simp [execOp, Instr.sliceAt, Instr.slice, ← h1, ← h2, ← h3, ← h4, run_underlying hu, Instr.sliceBounds, Instr.sliceBound, asIntOf, Cg hs, Br, hjt, hij, htc]
    · simp [execOp, Instr.sliceAt, Instr.slice, ← h1, ← h2, ← h3, ← h4, run_underlying hu, Instr.sliceBounds, Instr.sliceBound, asIntOf, Cg hs, Br, e, hjt, hij, htc]⟩ k
end

def YOp (C : Cx) (y : Oper) (s : St) (K : St → Prop) : Prop := y.guard = none ∧ ∀ a w, Rep C s a w → y.wpIn Fence.wide 0 C.P a w (fun a' w' => ∃ s2, Rep C s2 a' w' ∧ K s2) (fun _ _ _ => False)

theorem Sat.regionY {C : Cx} {id : Nat} {ops : List Oper} {s : St} {Q : Exit → St → Prop} (k : Nat) {y : Oper} (hy : ops[k]? = some y) (hnd : noDefer ops.toArray = true)
    (h : Tr C ops.toArray ((ops.take k).map fun o => (4, o)) s (fun s1 => YOp C y s1 fun s2 => Tr C ops.toArray ((ops.drop (k + 1)).map fun o => (4, o)) s2 (Q .normal))) : Sat C (.region id ops.toArray false) s Q := by
  intro a w r;refine wpIn_wide (n := 0).1 ?_;refine wpIn_mono (Q := Fin C (Q .normal)) ?_ fun e a' w' ⟨he, s', r', q⟩ => by subst he; exact ⟨s', r', q⟩
  have hk : k < ops.length := by
    rcases Nat.lt_or_ge k ops.length with h1 | h1
    · exact h1
    · rw [List.getElem?_eq_none h1] at hy; cases hy
  refine wpIn_region ?_;have e : List.range ops.toArray.size = List.range k ++ k :: List.range' (k + 1) (ops.length - (k + 1)) := by
    rw [List.size_toArray, List.range_eq_range', List.range_eq_range', show ops.length = k + (1 + (ops.length - (k + 1))) by omega, ← List.range'_append_1, ← List.range'_append_1];simp;omega
  rw [e];have hB : ∀ s2 a w, Rep C s2 a w → Tr C ops.toArray ((ops.drop (k + 1)).map fun o => (4, o)) s2 (Q .normal) → wpOpsIn Fence.wide 0 C.P ops.toArray (Fin C (Q .normal)) (List.range' (k + 1) (ops.length - (k + 1))) a w := fun s2 a w r2 h2 => by
    refine wpOps_in (ro := none) hnd fin_out _ _ _ (wpOps_of_tr _ _ s2 a w _ sP (fun j => ?_) r2 h2 fun s' a' w' r' q => ⟨rfl, s', r', q⟩);by_cases hj : j < ops.length - (k + 1)
    · rw [List.getElem?_range' hj]
      simp only [Option.bind_some, List.getElem?_map, List.getElem?_drop, List.getElem?_toArray, Nat.one_mul];cases ops[k + 1 + j]? <;> rfl
    · rw [List.getElem?_eq_none (by simp; omega), List.getElem?_map, List.getElem?_drop, List.getElem?_eq_none oM]
      rfl
  have hA : ∀ (l : List (Nat × Oper)) (is : List Nat) (s : St) (a : Act) (w : World), is.length = l.length → (∀ j : Nat, (is[j]?).bind (fun i => ops.toArray[i]?) = (l[j]?).map Prod.snd) → Rep C s a w →
      Tr C ops.toArray l s (fun s1 => YOp C y s1 fun s2 => Tr C ops.toArray ((ops.drop (k + 1)).map fun o => (4, o)) s2 (Q .normal)) →
      wpOpsIn Fence.wide 0 C.P ops.toArray (Fin C (Q .normal)) (is ++ k :: List.range' (k + 1) (ops.length - (k + 1))) a w := by
    intro l
    induction l with
    | nil =>
      intro is s a w hl _ r h;have : is = [] := List.eq_nil_of_length_eq_zero hl;subst this;cases h with
      | dup h => exact absurd r.rh.nodup h
      | nil h =>
        rw [List.nil_append, wpOpsIn_cons];unfold wpOpIn;have hy' : ops.toArray[k]? = some y := by simpa using hy
        rw [hy'];simp only;rw [if_pos (by unfold Region.wanted; rw [h.1])];have := h.2 a w r;refine Oper.wpIn_mono (K := fun a' w' => ∃ s2, Rep C s2 a' w' ∧ Tr C ops.toArray ((ops.drop (k + 1)).map fun o => (4, o)) s2 (Q .normal)) (fun a' w' ⟨s2, r2, h2⟩ => hB s2 a' w' r2 h2) ?_;unfold Oper.wpIn at this ⊢;refine ⟨this.1, ?_⟩;have := this.2;generalize (y.semAt Fence.wide.round a.eval).run C.P w = res at this ⊢;cases res with
        | ok x w' =>
          cases x <;> simp only [Oper.uponIn] at this ⊢
          case value => exact this
          case skip => exact this
          case defer => exact this
          case enter f args =>
            refine ⟨this.1, CallsIn.mono this.2 fun e w'' he => ?_⟩;cases e with
            | returned v => exact he
            | panicked ch => exact he.elim
            | outgrown => exact he.elim (fun _ hx => hx.elim (fun _ hy => hy.elim))
          case row row args => exact this
          case round l f tmps ars bd =>
            refine ⟨this.1, RoundIn.mono this.2 fun e w'' he => ?_⟩;cases e with
            | returned v => exact he
            | panicked ch => exact he.elim
            | outgrown => exact he.elim (fun _ hx => hx.elim (fun _ hy => hy.elim))
        | halt x w' => cases x <;> simp only [Oper.uponIn] at this
    | cons p l ih =>
      intro is s a w hl he r h;obtain ⟨c, o⟩ := p;cases is with
      | nil => cases hl
      | cons i is =>
        rw [List.cons_append, wpOpsIn_cons];have h0 : ops.toArray[i]? = some o := by simpa using he 0
        refine wpOp_in (ro := none) (X := Fin C (Q .normal)) (Tr.step h0 h a w r _ (fun s' a' w' r' k' => ?_) _) hnd fin_out;exact ih is s' a' w' (by simpa using hl) (fun j => by simpa using he (j + 1)) r' k'
  refine hA _ (List.range k) s a w (by simp; omega) (fun j => ?_) r h;by_cases hj : j < k
  · rw [List.getElem?_range hj]
    simp only [Option.bind_some, List.getElem?_map, List.getElem?_toArray];rw [List.getElem?_take_of_lt hj];cases ops[j]? <;> rfl
  · rw [List.getElem?_eq_none (by simp; omega), List.getElem?_map, List.getElem?_eq_none (by simp; omega)]
    rfl

theorem yop {P : Program} {w1 : World} {N : Nat} {names : List Nat} {sl : List (Nat × Value)} {hp hp' : List Blk} {d : Nat} {ty : TypeId} {pos : String} {af : Array Edge} {f x : Operand} {ats : Array TypeId} {l : Nat} {v : Value} {K : St → Prop} (hd : Nat.blt d N = true)
    (hf : Af sl f = some (.func (.yield l) #[] #[])) (hx : Af sl x = some v) (hY : ∀ w, HRep ⟨P, w1, 0, names, [], []⟩ hp w → YieldAt Fence.wide 0 P l #[v] w fun e w' => e = .returned (.bool true) ∧ HRep ⟨P, w1, 0, names, [], []⟩ hp' w')
    (k : K ⟨(d, .bool true) :: sl, hp'⟩) : YOp ⟨P, w1, N, names, [], []⟩ ⟨some d, .call ⟨.value f, #[x], ats⟩, ty, pos, af, none⟩ ⟨sl, hp⟩ K := by
  refine ⟨rfl, fun a w r => ?_⟩;have h1 := r.rs.eval hf;have h2 := r.rs.eval hx;obtain ⟨fn, tmps, ars, bd, hrun, hR⟩ := hY w ⟨r.rh.cells, r.rh.nodup, r.rh.own, r.rh.keeps, r.rh.kok, r.rh.kd⟩;refine ⟨fun _ _ => trivial, ?_⟩;rw [show (Oper.semAt Fence.wide.round a.eval ⟨some d, .call ⟨.value f, #[x], ats⟩, ty, pos, af, none⟩).run P w = .ok (.round l fn tmps ars bd) w by
    rw [Oper.semAt_eq _ _ _ (by intro c hc; cases hc)];simp [execOp, resolve, Deferred.ofValue, h1, h2, invoke, hrun]]
  simp only [Oper.uponIn];refine ⟨fun h0 => (by cases h0), RoundIn.mono hR fun e w' ⟨he, hh⟩ => ?_⟩;subst he;exact ⟨⟨(d, .bool true) :: sl, hp'⟩, ⟨r.rs.put (some d) (.bool true) fun t ht => by cases ht; exact nblt hd, hh.cells, hh.nodup, hh.own, hh.keeps, hh.kok, hh.kd⟩, k⟩

theorem HRep.base {P : Program} {w : World} {N : Nat} {names : List Nat} {hp : List Blk} (hc : ∀ b ∈ hp, BlkOk w b) (hn : hp.map (·.n) = names) (hd : names.Nodup) : HRep ⟨P, w, N, names, [], []⟩ hp w :=
  ⟨hc, by rw [hn]; exact hd, fun b hb => .inr (by rw [← hn]; exact List.mem_map.2 ⟨b, hb, rfl⟩), Keeps.refl _ _, fun _ h => (by cases h), fun _ _ _ h => (by cases h)⟩
theorem HRep.reN {P : Program} {w w' : World} {N N' : Nat} {names : List Nat} {hp : List Blk} (h : HRep ⟨P, w, N, names, [], []⟩ hp w') : HRep ⟨P, w, N', names, [], []⟩ hp w' :=
  ⟨h.cells, h.nodup, h.own, h.keeps, h.kok, h.kd⟩

theorem wpIn_range {C : Cx} {sl : List (Nat × Value)} {g : Operand} {p0 : Tmp} {assign body : Code} {QQ : Exit → Act → World → Prop} {a : Act} {w : World} {gf : Nat} {lb : Array Value} (hpF : Nat → List Blk) (names : List Nat) (enc : Nat → Value) (K : Nat) (slA : Nat → List (Nat × Value))
    (hrep : Rep C ⟨sl, hpF 0⟩ a w) (hkb : C.kb = []) (hg : Af sl g = some (.func (.func gf) #[] lb)) (eg : Av C.P gf) (hp0 : p0 < C.N) (hnames : ∀ i, (hpF i).map (·.n) = names)
    (iter : ∀ (l : Nat) (w1 : World), HRep ⟨C.P, w1, 0, names, [], []⟩ (hpF 0) w1 →
      (∀ i, i < K → ∀ W, HRep ⟨C.P, w1, 0, names, [], []⟩ (hpF i) W → YieldAt Fence.wide 0 C.P l #[enc i] W fun e W' => e = .returned (.bool true) ∧ HRep ⟨C.P, w1, 0, names, [], []⟩ (hpF (i + 1)) W') →
      CallsIn Fence.wide 0 C.P gf (#[.func (.yield l) #[] #[]] ++ lb) w1 fun e W' => (∃ v, e = .returned v) ∧ HRep ⟨C.P, w1, 0, names, [], []⟩ (hpF K) W')
    (hassign : ∀ i, i < K → ∀ l W, HRep ⟨C.P, W, C.N, names, [], []⟩ (hpF i) W → SatI (some l) ⟨C.P, W, C.N, names, [], []⟩ assign ⟨(p0, enc i) :: sl, hpF i⟩ (fun s' => s'.hp = hpF i ∧ s'.sl = slA i))
    (hbody : ∀ i, i < K → ∀ l W, HRep ⟨C.P, W, C.N, names, [], []⟩ (hpF i) W → SatI (some l) ⟨C.P, W, C.N, names, [], []⟩ body ⟨slA i, hpF i⟩ (fun s' => s'.hp = hpF (i + 1)))
    (hdone : ∀ D W, HRep C (hpF K) W → W.heap[D]? = some (.deferred (some [])) → C.W0.heap.size ≤ D → D ∉ names → QQ .normal { a with defers := { target := .collected D, args := #[] } :: a.defers } W) :
    (Code.rangeFunc g #[p0] assign body).wpIn Fence.wide 0 C.P QQ a w := by
  have hnd : names.Nodup := by rw [← hnames 0]; exact hrep.rh.nodup
  have hlt : ∀ k ∈ names, k < w.heap.size := fun k hk => by
    rw [← hnames 0] at hk;obtain ⟨b, hb, rfl⟩ := List.mem_map.1 hk;exact (hrep.rh.cells b hb).lt
  have inN : ∀ i, ∀ b ∈ hpF i, b.n ∈ names := fun i b hb => by rw [← hnames i]; exact List.mem_map.2 ⟨b, hb, rfl⟩
  refine wpIn_rangeFunc ?_;intro fn _;obtain ⟨rec, hrec⟩ : ∃ rec : LoopState → Option Code → Loop, rec = fun st pe => { state := st, pending := pe, fn, tmps := a.tmps, params := #[p0], assign, body, defers := w.heap.size } := ⟨_, rfl⟩
  obtain ⟨w1, hw1⟩ : ∃ w1, (w.alloc (.deferred (some []))).alloc (.loop (rec .ready none)) = w1 := ⟨_, rfl⟩;have hsz1 : w1.heap.size = w.heap.size + 2 := by rw [← hw1]; simp
  have hL1 : w1.heap[w.heap.size + 1]? = some (.loop (rec .ready none)) := by
    rw [← hw1]; have := World.alloc_heap_new (w.alloc (.deferred (some []))) (.loop (rec .ready none)); rwa [World.size_alloc] at this
  have hK1 : w1.heap[w.heap.size]? = some (.deferred (some [])) := by
    rw [← hw1]; exact (Below.heap_alloc _ _ _ sP).trans (World.alloc_heap_new w _)
  have hold : ∀ k, k < w.heap.size → w1.heap[k]? = w.heap[k]? := fun k hk => by
    rw [← hw1]; exact (Below.heap_alloc _ _ _ (by simp; omega)).trans (Below.heap_alloc _ _ _ hk)
  have hH : HRep ⟨C.P, w1, 0, names, [], []⟩ (hpF 0) w1 := HRep.base (fun b hb => (hrep.rh.cells b hb).of_heap (hold _ (hrep.rh.cells b hb).lt)) (hnames 0) hnd;have lN : w.heap.size + 1 ∉ names := fun h => by have := hlt _ h; omega
  have dN : w.heap.size ∉ names := fun h => by have := hlt _ h; omega
  refine ⟨w.heap.size + 1, [{ target := .collected w.heap.size, args := #[] }], w1, { target := .fn (.func gf) lb, args := #[.func (.yield (w.heap.size + 1)) #[] #[]] }, w1, gf,
    #[.func (.yield (w.heap.size + 1)) #[] #[]] ++ lb, w1, ?_, ?_, fun _ _ => trivial, ?_, fun h => (by cases h), ?_⟩
  · rw [← hw1, hrec]; exact run_enterLoop_outer _ _ _ _ _
  · have := hrep.rs.eval hg
    simp only [resolve, this];simp [go_sem]
  · have := eg (#[.func (.yield (w.heap.size + 1)) #[] #[]] ++ lb) w1
    simpa [invoke] using this
  refine (iter (w.heap.size + 1) w1 hH fun i hi W hh => ?_).mono ?_
  · -- one round
    have hl : W.heap[w.heap.size + 1]? = some (.loop (rec .ready none)) := (hh.keeps.block _ (by show _ < w1.heap.size; omega) lN).trans hL1;have hy := run_yield (P := C.P) (args := #[enc i]) hl (by rw [hrec]; rfl);rw [hrec] at hy;have rep0 : Rep ⟨C.P, W, C.N, names, [], []⟩ ⟨(p0, enc i) :: sl, hpF i⟩ { tmps := (#[p0].zip #[enc i]).foldl (fun t (p, v) => t.setIfInBounds p v) a.tmps, defers := [] } W := by
      refine ⟨?_, HRep.base hh.cells (hnames i) hnd⟩;have s0 : SRep [] C.N sl ⟨a.tmps, []⟩ := ⟨hrep.rs.size, rfl, hrep.rs.slots⟩;have s1 := s0.put (some p0) (enc i) fun t ht => by cases ht; exact hp0
      have e : (#[p0].zip #[enc i]).foldl (fun t (p, v) => t.setIfInBounds p v) a.tmps = a.tmps.setIfInBounds p0 (enc i) := by simp
      rw [e];exact s1
    refine ⟨fn, _, assign, body, hy, roundIn_of_wpIn trivial ?_⟩;refine wpIn_mono (hassign i hi (w.heap.size + 1) W (HRep.base hh.cells (hnames i) hnd) _ _ rep0) fun e a1 W1 ⟨he, s1, r1, hs1, hs2⟩ => ?_;subst he;have hl1 : W1.heap[w.heap.size + 1]? = some (.loop (rec .ready none)) := (r1.rh.keeps.block _ (Array.getElem?_eq_some_iff.1 hl).1 lN).trans hl;have hlt1 := (Array.getElem?_eq_some_iff.1 hl1).1;refine ⟨_, run_beginRound hl1 (by rw [hrec]), ?_⟩;obtain ⟨W2, hW2⟩ : ∃ W2, W1.putObj (w.heap.size + 1) (.loop { rec .ready none with state := .busy }) = W2 := ⟨_, rfl⟩;rw [hW2];have ne1 : ∀ j, ∀ b ∈ hpF j, b.n ≠ w.heap.size + 1 := fun j b hb e => lN (e ▸ inN j b hb);have hc2 : ∀ b ∈ hpF i, BlkOk W2 b := fun b hb => by
      rw [← hs1] at hb;refine (r1.rh.cells b hb).of_heap ?_;rw [← hW2];rw [hs1] at hb;exact World.putObj_heap_other (ne1 i b hb)
    have hl2 : W2.heap[w.heap.size + 1]? = some (.loop { rec .ready none with state := .busy }) := by rw [← hW2]; exact World.putObj_heap_same hlt1
    have rep2 : Rep ⟨C.P, W2, C.N, names, [], []⟩ ⟨slA i, hpF i⟩ a1 W2 := ⟨by have := r1.rs; rw [hs2] at this; exact this, HRep.base hc2 (hnames i) hnd⟩;refine wpIn_mono (hbody i hi (w.heap.size + 1) W2 (HRep.base hc2 (hnames i) hnd) _ _ rep2) fun e a3 W3 ⟨he, s3, r3, hs3⟩ => ?_;subst he;have hl3 : W3.heap[w.heap.size + 1]? = some (.loop { rec .ready none with state := .busy }) := (r3.rh.keeps.block _ (Array.getElem?_eq_some_iff.1 hl2).1 lN).trans hl2;have hend := run_endRound (P := C.P) none hl3;refine ⟨_, _, hend, rfl, ?_⟩;have hlt3 := (Array.getElem?_eq_some_iff.1 hl3).1;refine ⟨fun b hb => ?_, by rw [hnames]; exact hnd, fun b hb => .inr (inN _ b hb), ?_, fun _ h => (by cases h), fun _ _ _ h => (by cases h)⟩
    · refine BlkOk.of_heap (r3.rh.cells b (by rw [hs3]; exact hb)) ?_
      exact World.putObj_heap_other (ne1 _ b hb)
    · have k1 := hh.keeps
      have k2 := r1.rh.keeps;have k3 := r3.rh.keeps;have os2 : W2.os = W1.os := by rw [← hW2]; rfl
      have tp2 : W2.tape = W1.tape := by rw [← hW2]; rfl
      have ot2 : W2.output = W1.output := by rw [← hW2]; rfl
      have sz2 : W2.heap.size = W1.heap.size := by rw [← hW2]; simp [World.putObj]
      refine ⟨k3.os.trans (os2.trans (k2.os.trans k1.os)), k3.tape.trans (tp2.trans (k2.tape.trans k1.tape)), k3.output.trans (ot2.trans (k2.output.trans k1.output)), ?_, fun j hj hjn => ?_⟩
      · have h1 := k1.size
        have h2 := k2.size;have h3 := k3.size;show w1.heap.size ≤ _;have : (W3.putObj (w.heap.size + 1) (.loop { rec .ready none with state := .ready })).heap.size = W3.heap.size := by simp [World.putObj]
        simp only [World.putObj, Array.size_setIfInBounds];simp only at h1 h2 h3;omega
      · by_cases hjl : j = w.heap.size + 1
        · subst hjl
          rw [hL1];refine (World.putObj_heap_same hlt3).trans ?_;rw [hrec];rfl
        · refine (World.putObj_heap_other hjl).trans ?_
          have h1 := k1.size;have h2 := k2.size;simp only at h1 h2 hj;refine (k3.block j (by simp only; omega) hjn).trans ?_;simp only;rw [← hW2];refine (World.putObj_heap_other hjl).trans ?_;exact (k2.block j (by simp only; omega) hjn).trans (k1.block j hj hjn)
  · -- behind the iterator
    rintro e W ⟨⟨v, rfl⟩, hh⟩;have hl : W.heap[w.heap.size + 1]? = some (.loop (rec .ready none)) := (hh.keeps.block _ (by show _ < w1.heap.size; omega) lN).trans hL1;have hd : W.heap[w.heap.size]? = some (.deferred (some [])) := (hh.keeps.block _ (by simp only; omega) dN).trans hK1;refine ⟨none, _, by have := run_endLoop (P := C.P) hl (by rw [hrec]; simp); rw [hrec] at this; exact this, ?_⟩;have kw := hrep.rh.keeps;refine hdone w.heap.size _ ⟨fun b hb => (hh.cells b hb).of_heap (World.putObj_heap_other fun e => lN (e ▸ inN K b hb)), by rw [hnames]; exact hnd, fun b hb => ?_, ?_, by rw [hkb]; exact fun _ h => (by cases h), by rw [hkb]; exact fun _ _ _ h => (by cases h)⟩
      ((World.putObj_heap_other oM).trans hd) kw.size dN
    · have := inN K b hb
      rw [← hnames 0] at this;obtain ⟨b0, hb0, e⟩ := List.mem_map.1 this;rw [← e];exact hrep.rh.own b0 hb0
    · have k1 := hh.keeps
      have osw : w1.os = w.os ∧ w1.tape = w.tape ∧ w1.output = w.output := by rw [← hw1]; exact ⟨rfl, rfl, rfl⟩
      refine ⟨k1.os.trans (osw.1.trans kw.os), k1.tape.trans (osw.2.1.trans kw.tape), k1.output.trans (osw.2.2.trans kw.output), ?_, fun j hj hjn => ?_⟩
      · have h1 := k1.size
        have h2 := kw.size;simp only [World.putObj, Array.size_setIfInBounds];simp only at h1;omega
      · have h2 := kw.size
        have hjN : j ∉ names := fun h => by
          rw [← hnames 0] at h;obtain ⟨b0, hb0, e⟩ := List.mem_map.1 h;rcases hrep.rh.own b0 hb0 with h3 | h3
          · omega
          · exact hjn (e ▸ h3)
        refine (World.putObj_heap_other oM).trans ?_;exact (k1.block j (by simp only; omega) hjN).trans ((hold j oM).trans (kw.block j hj hjn))

def endAtA (P : Program) (N : Nat) (ds : List Deferred) (fn : Func) (R : Value → List Blk → Prop) (s : St) : Prop :=
  ∃ v out, (∀ W names, Res ⟨P, W, N, names, [], ds⟩ fn s v) ∧ (∀ b ∈ out, b ∈ s.hp) ∧ ((s.hp.map (·.n)).Nodup → (out.map (·.n)).Nodup) ∧ R v out
def endQA (P : Program) (N : Nat) (ds : List Deferred) (fn : Func) (R : Value → List Blk → Prop) : Exit → St → Prop
  | .normal, s | .ret, s => endAtA P N ds fn R s
  | _, _ => False
theorem enA_r {P : Program} {N : Nat} {ds : List Deferred} {fn : Func} {R : Value → List Blk → Prop} {s : St} (h : endAtA P N ds fn R s) : endQA P N ds fn R .ret s := h
def RangeSt (P : Program) (W : World) (N : Nat) (fn : Func) (g : Operand) (p0 : Tmp) (assign body tail : Code) (R : Value → List Blk → Prop) (s : St) : Prop :=
  ∃ (gf : Nat) (lb : Array Value) (hpF : Nat → List Blk) (names : List Nat) (enc : Nat → Value) (K : Nat) (slA : List (Nat × Value) → Nat → List (Nat × Value)), s.hp = hpF 0 ∧ Af s.sl g = some (.func (.func gf) #[] lb) ∧ Av P gf ∧ p0 < N ∧ (∀ i, (hpF i).map (·.n) = names) ∧
    (∀ (l : Nat) (w1 : World), HRep ⟨P, w1, 0, names, [], []⟩ (hpF 0) w1 →
      (∀ i, i < K → ∀ W, HRep ⟨P, w1, 0, names, [], []⟩ (hpF i) W → YieldAt Fence.wide 0 P l #[enc i] W fun e W' => e = .returned (.bool true) ∧ HRep ⟨P, w1, 0, names, [], []⟩ (hpF (i + 1)) W') →
      CallsIn Fence.wide 0 P gf (#[.func (.yield l) #[] #[]] ++ lb) w1 fun e W' => (∃ v, e = .returned v) ∧ HRep ⟨P, w1, 0, names, [], []⟩ (hpF K) W') ∧
    (∀ i, i < K → ∀ l W, HRep ⟨P, W, N, names, [], []⟩ (hpF i) W → SatI (some l) ⟨P, W, N, names, [], []⟩ assign ⟨(p0, enc i) :: s.sl, hpF i⟩ (fun s' => s'.hp = hpF i ∧ s'.sl = slA s.sl i)) ∧
    (∀ i, i < K → ∀ l W, HRep ⟨P, W, N, names, [], []⟩ (hpF i) W → SatI (some l) ⟨P, W, N, names, [], []⟩ body ⟨slA s.sl i, hpF i⟩ (fun s' => s'.hp = hpF (i + 1))) ∧
    (∀ D W2, Sat ⟨P, W2, N, names, [], [{ target := .collected D, args := #[] }]⟩ tail ⟨s.sl, hpF K⟩ (endQA P N [{ target := .collected D, args := #[] }] fn R))

theorem calls_range {P : Program} {f : FuncId} {fn : Func} {R0 R1 assign body tail : Code} {id : Nat} {g : Operand} {p0 : Tmp} {args : List Value} {W : World} {R : Value → List Blk → Prop}
    (hf : P.funcs[f]? = some fn) (hb : fn.body = some (.seq R0 (.seq (.seq R1 (.block id (.rangeFunc g #[p0] assign body))) tail))) (N : Nat) (hN : fn.ntmps = N) (hlen : Nat.ble args.length N = true)
    (h : Sat ⟨P, W, N, [], [], []⟩ R0 ⟨argSlots 0 args, []⟩ (thenQ (fun s' => Sat ⟨P, W, N, [], [], []⟩ R1 s' (thenQ (RangeSt P W N fn g p0 assign body tail R) (fun _ _ => False))) (fun _ _ => False))) :
    Calls P f args.toArray W fun e W' => ∃ v out, e = .returned v ∧ R v out ∧ Ret [] out W W' := by
  have hlen := Nat.le_of_ble_eq_true hlen;subst hN;refine callsIn_wide.1 (callsIn_of_wp_marks (F := Fence.wide) (n := 0) hf hb trivial ?_);have rep0 : Rep ⟨P, W, fn.ntmps, [], [], []⟩ ⟨argSlots 0 args, []⟩ { tmps := args.toArray ++ Array.replicate (fn.ntmps - args.toArray.size) undef, defers := [] } W := by
    refine ⟨⟨?_, rfl, fun t v ht => ?_⟩, HRep.nil _⟩
    · simp; omega
    · have := argSlots_look args 0 t v ht
      rw [Array.getElem?_append];have hlt : t < args.length := by
        rcases Nat.lt_or_ge t args.length with h1 | h1
        · exact h1
        · rw [List.getElem?_eq_none oM] at this; cases this.2
      simp only [List.size_toArray];rw [if_pos hlt];simpa using this.2
  refine wpIn_seq (wpIn_wide.2 (wp_mono (h _ _ rep0) fun e a w ⟨s, r, q⟩ => ?_));cases e with
  | normal =>
    refine wpIn_seq (wpIn_seq (wpIn_wide.2 (wp_mono (q a w r) fun e a1 w1 ⟨s1, r1, q1⟩ => ?_)));cases e with
    | normal =>
      obtain ⟨gf, lb, hpF, names, enc, K, slA, hs, hg, eg, hp0, hnames, iter, hassign, hbody, htail⟩ := q1;obtain ⟨sl, hp⟩ := s1;simp only at hs hg hassign htail;subst hs;refine wpIn_block (wpIn_range (C := ⟨P, W, fn.ntmps, [], [], []⟩) hpF names enc K (slA sl) r1 rfl hg eg hp0 hnames iter hassign hbody fun D W2 hh hD hDl hDn => ?_);refine wpIn_wide.2 ?_;have hnd : names.Nodup := by rw [← hnames K]; exact hh.nodup
      have rep2 : Rep ⟨P, W2, fn.ntmps, names, [], [{ target := .collected D, args := #[] }]⟩ ⟨sl, hpF K⟩ { a1 with defers := { target := .collected D, args := #[] } :: a1.defers } W2 := by
        refine ⟨⟨r1.rs.size, ?_, r1.rs.slots⟩, hh.cells, hh.nodup, fun b hb => .inr ?_, Keeps.refl _ _, fun _ h => (by cases h), fun _ _ _ h => (by cases h)⟩
        · show _ :: a1.defers = _
          rw [r1.rs.defers]
        · show b.n ∈ names
          rw [← hnames K]; exact List.mem_map.2 ⟨b, hb, rfl⟩
      refine wp_mono (htail D W2 _ _ rep2) fun e a3 W3 ⟨s3, r3, q3⟩ => ?_;have own : ∀ b : Blk, (W2.heap.size ≤ b.n ∨ b.n ∈ names) → W.heap.size ≤ b.n := fun b hb => by
        rcases hb with h1 | h1
        · exact Nat.le_trans hh.keeps.size h1
        · rw [← hnames K] at h1
          obtain ⟨b0, hb0, e⟩ := List.mem_map.1 h1;rcases hh.own b0 hb0 with h2 | h2
          · rw [← e]; exact h2
          · cases h2
      have fin : endAtA P fn.ntmps [{ target := .collected D, args := #[] }] fn R s3 → LeavesInM Fence.wide 0 P fn a3.tmps (fun e W' => ∃ v out, e = .returned v ∧ R v out ∧ Ret [] out W W') a3.defers .returning W3 := by
        rintro ⟨v, out, hr, hsub, hnd3, hR⟩;have hd3 : a3.defers = [{ target := .collected D, args := #[] }] := r3.rs.defers;rw [hd3];have hD3 : W3.heap[D]? = some (.deferred (some [])) := (r3.rh.keeps.block D (Array.getElem?_eq_some_iff.1 hD).1 hDn).trans hD;refine ⟨by simp, .inl ⟨D, _, rfl, run_takeDeferred hD3, ?_⟩⟩;have hDout : ∀ b ∈ s3.hp, b.n ≠ D := fun b hb e => by
          have := (r3.rh.cells b hb).noDef (some []);rw [e, hD3] at this;exact this rfl
        have rep4 : Rep ⟨P, W3.putObj D (.deferred none), fn.ntmps, s3.hp.map (·.n), [], [{ target := .collected D, args := #[] }]⟩ s3 a3 (W3.putObj D (.deferred none)) :=
          ⟨⟨r3.rs.size, r3.rs.defers, r3.rs.slots⟩, fun b hb => (r3.rh.cells b hb).of_heap (World.putObj_heap_other (hDout b hb)), r3.rh.nodup, fun b hb => .inr (List.mem_map.2 ⟨b, hb, rfl⟩), Keeps.refl _ _, fun _ h => (by cases h), fun _ _ _ h => (by cases h)⟩
        refine ⟨v, ?_, v, out, rfl, hR, ⟨?_, fun b hb => rep4.rh.cells b (hsub b hb), hnd3 r3.rh.nodup, fun b hb => .inl (own b (r3.rh.own b (hsub b hb)))⟩⟩
        · exact hr _ _ _ _ rep4
        · have k1 := hh.keeps
          have k2 := r3.rh.keeps;refine ⟨k2.os.trans k1.os, k2.tape.trans k1.tape, k2.output.trans k1.output, ?_, fun j hj hjn => ?_⟩
          · have h1 := k1.size
            have h2 := k2.size;simp only [World.putObj, Array.size_setIfInBounds];simp only at h1 h2;omega
          · simp only at hDl
            refine (World.putObj_heap_other oM).trans ?_;have h1 := k1.size;simp only at h1;refine (k2.block j (by simp only; omega) (fun hjn2 => ?_)).trans (k1.block j hj hjn);have := own ⟨j, [], 0, 0⟩ (.inr hjn2);simp only at this;omega
      cases e with
      | normal => exact fin q3
      | ret => exact fin q3
      | _ => exact q3.elim
    | _ => exact q1.elim
  | _ => exact q.elim
end Hw
end

section
namespace Hw
open Go Go.RowKit

section
variable {κ ν : Type} [DecidableEq κ]
def midx (fs : List (κ × ν)) (k : κ) : Option Nat := fs.findIdx? fun p => decide (p.1 = k)
def Au (fs : List (κ × ν)) (k : κ) : Option ν := (fs.find? fun p => decide (p.1 = k)).map (·.2)
def Bj (fs : List (κ × ν)) (k : κ) (v : ν) : List (κ × ν) := match midx fs k with | some j => fs.set j (k, v) | none => fs ++ [(k, v)]
def mdel (fs : List (κ × ν)) (k : κ) : List (κ × ν) := match midx fs k with | some j => fs.eraseIdx j | none => fs
theorem midx_none {fs : List (κ × ν)} {k : κ} (h : ∀ p ∈ fs, p.1 ≠ k) : midx fs k = none := by
  unfold midx;rw [List.findIdx?_eq_none_iff];intro p hp;exact decide_eq_false (h p hp)
theorem mget_none {fs : List (κ × ν)} {k : κ} (h : ∀ p ∈ fs, p.1 ≠ k) : Au fs k = none := by
  unfold Au;rw [List.find?_eq_none.2 fun p hp => by simpa using h p hp]; rfl
theorem nodup_key {fs : List (κ × ν)} (hn : (fs.map (·.1)).Nodup) {i j : Nat} {p q : κ × ν} (hi : fs[i]? = some p) (hj : fs[j]? = some q) (e : p.1 = q.1) : i = j := by
  have hi1 : i < (fs.map (·.1)).length := by rw [List.length_map]; exact (List.getElem?_eq_some_iff.1 hi).1
  refine (List.getElem?_inj hi1 hn).1 ?_;rw [List.getElem?_map, List.getElem?_map, hi, hj];simp [e]
theorem midx_some {fs : List (κ × ν)} (hn : (fs.map (·.1)).Nodup) {j : Nat} {p : κ × ν} (hj : fs[j]? = some p) : midx fs p.1 = some j := by
  unfold midx;rw [List.findIdx?_eq_some_iff_getElem];obtain ⟨hl, he⟩ := List.getElem?_eq_some_iff.1 hj;refine ⟨hl, by rw [he]; simp, fun i hi => ?_⟩;have hl2 : i < fs.length := by omega
  have := fun e => nodup_key hn (List.getElem?_eq_getElem hl2) hj e;simp only [decide_eq_true_eq];intro e;have := this e;omega
theorem mget_some {fs : List (κ × ν)} (hn : (fs.map (·.1)).Nodup) {j : Nat} {p : κ × ν} (hj : fs[j]? = some p) : Au fs p.1 = some p.2 := by
  unfold Au;have h := midx_some hn hj;have hp : fs.find? (fun q => decide (q.1 = p.1)) = some p := by
    rw [List.find?_eq_some_iff_getElem];refine ⟨by simp, j, (List.getElem?_eq_some_iff.1 hj).1, (List.getElem?_eq_some_iff.1 hj).2, fun i hi => ?_⟩;have hl2 : i < fs.length := by have := (List.getElem?_eq_some_iff.1 hj).1; omega
    have h3 := fun e => nodup_key hn (List.getElem?_eq_getElem hl2) hj e;simp only [Bool.not_eq_true', decide_eq_false_iff_not];intro e;have := h3 e;omega
  rw [hp]; rfl
theorem mput_nodup {fs : List (κ × ν)} (hn : (fs.map (·.1)).Nodup) (k : κ) (v : ν) : ((Bj fs k v).map (·.1)).Nodup := by
  unfold Bj;cases h : midx fs k with
  | none =>
    have h2 : ∀ p ∈ fs, p.1 ≠ k := by
      unfold midx at h;rw [List.findIdx?_eq_none_iff] at h;intro p hp; simpa using h p hp
    simp only [List.map_append, List.map_cons, List.map_nil];rw [List.nodup_append];refine ⟨hn, by simp, fun a ha b hb => ?_⟩;obtain ⟨p, hp, rfl⟩ := List.mem_map.1 ha;rw [List.mem_singleton.1 hb];exact h2 p hp
  | some j =>
    simp only;unfold midx at h;rw [List.findIdx?_eq_some_iff_getElem] at h;obtain ⟨hl, he, _⟩ := h;rw [List.map_set];have e : (fs.map (·.1)).set j k = fs.map (·.1) := by
      refine List.ext_getElem? fun i => ?_;rw [List.getElem?_set];split
      · rename_i hij
        subst hij;rw [if_pos (by simpa using hl), List.getElem?_map, List.getElem?_eq_getElem hl];have : fs[j].1 = k := by simpa using he
        simp [this]
      · rfl
    rw [e]; exact hn
theorem mput_ok {ok : κ → Prop} {fs : List (κ × ν)} (h : ∀ p ∈ fs, ok p.1) {k : κ} (hk : ok k) (v : ν) : ∀ p ∈ Bj fs k v, ok p.1 := by
  intro p hp;unfold Bj at hp;split at hp
  · rcases List.mem_or_eq_of_mem_set hp with hp | rfl
    · exact h p hp
    · exact hk
  · rcases List.mem_append.1 hp with hp | hp
    · exact h p hp
    · rw [List.mem_singleton.1 hp]; exact hk
theorem mdel_nodup {fs : List (κ × ν)} (hn : (fs.map (·.1)).Nodup) (k : κ) : ((mdel fs k).map (·.1)).Nodup := by
  unfold mdel;split
  · exact List.Nodup.sublist ((List.eraseIdx_sublist _ _).map _) hn
  · exact hn
theorem mdel_ok {ok : κ → Prop} {fs : List (κ × ν)} (h : ∀ p ∈ fs, ok p.1) (k : κ) : ∀ p ∈ mdel fs k, ok p.1 := by
  intro p hp;unfold mdel at hp;split at hp
  · exact h p ((List.eraseIdx_sublist _ _).subset hp)
  · exact h p hp
end

structure MTy (κ ν : Type) where
  ek : κ → Value
  ev : ν → Value
  ok : κ → Prop

section
variable {κ ν : Type} [DecidableEq κ]
structure MFit (t : MTy κ ν) (fs : List (κ × ν)) (es : Array MapEntry) (clock : Nat) : Prop where
  map : es.toList.map (fun e => (e.key, e.val)) = fs.map (fun p => (t.ek p.1, t.ev p.2))
  ok : ∀ p ∈ fs, t.ok p.1
  nodup : (fs.map (·.1)).Nodup
  born : ∀ e ∈ es.toList, e.born < clock
  apart : (es.toList.map (·.born)).Nodup
def MIs (t : MTy κ ν) (fs : List (κ × ν)) (o : Obj) : Prop := ∃ es clock, o = .map es clock ∧ MFit t fs es clock
abbrev A6 (n : Nat) (t : MTy κ ν) (fs : List (κ × ν)) : Blk := ⟨n, [], .ob (MIs t fs), 0⟩
theorem MFit.length {t : MTy κ ν} {fs : List (κ × ν)} {es : Array MapEntry} {clock : Nat} (h : MFit t fs es clock) : es.size = fs.length := by
  have := congrArg List.length h.map;simpa using this
theorem BlkOk.map {w : World} {n : Nat} {t : MTy κ ν} {fs : List (κ × ν)} (h : BlkOk w (A6 n t fs)) : ∃ es clock, w.heap[n]? = some (.map es clock) ∧ MFit t fs es clock := by
  obtain ⟨_, _, o, ho, ⟨es, clock, rfl, hf⟩, _⟩ := h;exact ⟨es, clock, ho, hf⟩
theorem BlkOk.of_map {w : World} {n : Nat} {t : MTy κ ν} {fs : List (κ × ν)} {es : Array MapEntry} {clock : Nat} (h : w.heap[n]? = some (.map es clock)) (hf : MFit t fs es clock) : BlkOk w (A6 n t fs) :=
  ⟨rfl, rfl, _, h, ⟨es, clock, rfl, hf⟩, fun x e => by cases e⟩
structure MOk (P : Program) (T K E : TypeId) (t : MTy κ ν) (z : Value) : Prop where
  hu : P.underlying T = some (.map K E)
  key : Maps.Keyed P K
  isk : ∀ a, t.ok a → ∃ l, keyOf P K (t.ek a) = some l
  inj : ∀ a b, t.ok a → t.ok b → t.ek a = t.ek b → a = b
  zero : ∀ w, (zeroValue E).run P w = .ok z w
variable {P : Program} {T K E : TypeId} {t : MTy κ ν} {z : Value} {fs : List (κ × ν)} {es : Array MapEntry} {clock : Nat}
theorem MFit.at (F : MFit t fs es clock) {j : Nat} {e : MapEntry} (he : es.toList[j]? = some e) : ∃ p, fs[j]? = some p ∧ t.ek p.1 = e.key ∧ t.ev p.2 = e.val := by
  have h := congrArg (fun l => l[j]?) F.map;simp only [List.getElem?_map, he, Option.map_some] at h;cases hp : fs[j]? with
  | none => rw [hp] at h; cases h
  | some p =>
    rw [hp] at h;simp only [Option.map_some, Option.some.injEq, Prod.mk.injEq] at h;exact ⟨p, rfl, h.1.symm, h.2.symm⟩
theorem MFit.keys (M : MOk P T K E t z) (F : MFit t fs es clock) : ∀ e ∈ es.toList, ∃ l, keyOf P K e.key = some l := fun e he => by
  obtain ⟨j, hj⟩ := List.getElem?_of_mem he;obtain ⟨p, hp, h1, _⟩ := F.at hj;rw [← h1];exact M.isk _ (F.ok p (List.mem_of_getElem? hp))
theorem MFit.find (M : MOk P T K E t z) (F : MFit t fs es clock) {k : κ} (hk : t.ok k) (w : World) :
    ((Instr.findKey K (t.ek k) es.toList).run P w = .ok none w ∧ (∀ p ∈ fs, p.1 ≠ k)) ∨ ∃ j e v, (Instr.findKey K (t.ek k) es.toList).run P w = .ok (some (j, t.ev v)) w ∧ es.toList[j]? = some e ∧ e.key = t.ek k ∧ fs[j]? = some (k, v) := by
  obtain ⟨l, hl⟩ := M.isk k hk;rcases M.key.find w hl es.toList (F.keys M) with ⟨h1, h2⟩ | ⟨j, e, h1, h2, h3⟩
  · refine .inl ⟨h1, fun p hp e => ?_⟩
    have hm : (t.ek p.1, t.ev p.2) ∈ es.toList.map (fun e => (e.key, e.val)) := by rw [F.map]; exact List.mem_map.2 ⟨p, hp, rfl⟩
    obtain ⟨x, hx, ex⟩ := List.mem_map.1 hm;simp only [Prod.mk.injEq] at ex;exact h2 x hx (by rw [ex.1, e])
  · obtain ⟨⟨k', v⟩, hp, e1, e2⟩ := F.at h2
    simp only at e1 e2;obtain rfl := M.inj k' k (F.ok _ (List.mem_of_getElem? hp)) hk (by rw [e1, h3]);exact .inr ⟨j, e, v, by rw [h1, e2], h2, h3, hp⟩
theorem MFit.push (F : MFit t fs es clock) {k : κ} (hk : t.ok k) (v : ν) (hn : ∀ p ∈ fs, p.1 ≠ k) : MFit t (Bj fs k v) (es.push ⟨t.ek k, t.ev v, clock⟩) (clock + 1) := by
  have e : Bj fs k v = fs ++ [(k, v)] := by unfold Bj; rw [midx_none hn]
  refine ⟨?_, mput_ok F.ok hk v, mput_nodup F.nodup k v, fun x hx => ?_, ?_⟩
  · rw [e, Array.toList_push, List.map_append, List.map_append, F.map]; rfl
  · rw [Array.toList_push] at hx
    rcases List.mem_append.1 hx with hx | hx
    · have := F.born x hx; omega
    · rw [List.mem_singleton.1 hx]; exact Nat.lt_succ_self _
  · rw [Array.toList_push, List.map_append, List.nodup_append]
    refine ⟨F.apart, by simp, fun a ha b hb => ?_⟩;obtain ⟨x, hx, rfl⟩ := List.mem_map.1 ha;simp only [List.map_cons, List.map_nil, List.mem_singleton] at hb;have := F.born x hx;omega
theorem MFit.set (F : MFit t fs es clock) {k : κ} (hk : t.ok k) (v : ν) {j : Nat} {e : MapEntry} {v0 : ν} (he : es.toList[j]? = some e) (hj : fs[j]? = some (k, v0)) (key : Value) (hkey : key = t.ek k) :
    MFit t (Bj fs k v) (es.modify j fun e => { e with key := key, val := t.ev v }) clock := by
  have e1 : Bj fs k v = fs.set j (k, v) := by unfold Bj; rw [midx_some F.nodup hj]
  have hlist : (es.modify j (fun e' => { e' with key := key, val := t.ev v })).toList = es.toList.set j { e with key := key, val := t.ev v } := by rw [Array.toList_modify, ChangeMaps.modify_eq_set _ _ _ _ he]
  refine ⟨?_, mput_ok F.ok hk v, mput_nodup F.nodup k v, fun x hx => ?_, ?_⟩
  · rw [hlist, e1, List.map_set, List.map_set, F.map, hkey]
  · rw [hlist] at hx
    rcases List.mem_or_eq_of_mem_set hx with hx | rfl
    · exact F.born x hx
    · exact F.born e (List.mem_of_getElem? he)
  · rw [hlist, List.map_set]
    have e2 : (es.toList.map (·.born)).set j e.born = es.toList.map (·.born) := by
      refine List.ext_getElem? fun i => ?_;rw [List.getElem?_set];split
      · rename_i hij
        subst hij;have hl := (List.getElem?_eq_some_iff.1 he).1;rw [if_pos (by simpa using hl), List.getElem?_map, he]; rfl
      · rfl
    rw [e2]; exact F.apart
theorem MFit.erase (F : MFit t fs es clock) {k : κ} {j : Nat} {v0 : ν} (hj : fs[j]? = some (k, v0)) : MFit t (mdel fs k) (es.eraseIdxIfInBounds j) clock := by
  have hl : j < es.size := by rw [F.length]; exact (List.getElem?_eq_some_iff.1 hj).1
  have e1 : mdel fs k = fs.eraseIdx j := by unfold mdel; rw [midx_some F.nodup hj]
  have hsub : (es.eraseIdxIfInBounds j).toList = es.toList.eraseIdx j := by
    unfold Array.eraseIdxIfInBounds;rw [dif_pos hl];simp
  refine ⟨?_, mdel_ok F.ok k, mdel_nodup F.nodup k, fun x hx => ?_, ?_⟩
  · rw [hsub, e1, ChangeMaps.map_eraseIdx, ChangeMaps.map_eraseIdx, F.map]
  · rw [hsub] at hx
    exact F.born x ((List.eraseIdx_sublist _ _).subset hx)
  · rw [hsub]
    exact List.Nodup.sublist ((List.eraseIdx_sublist _ _).map _) F.apart
theorem MFit.none : MFit t [] #[] 0 := ⟨rfl, fun p h => (by cases h), List.nodup_nil, fun e h => (by simp at h), by simp⟩
end

section
variable {κ ν : Type} [DecidableEq κ] {T K E : TypeId} {t : MTy κ ν} {z : Value} {fs : List (κ × ν)}
variable {C : Cx} {ops : Array Oper} {rest : List (Nat × Oper)} {sl : List (Nat × Value)} {hp hp' : List Blk} {Q : St → Prop} {c d b : Nat} {ty : TypeId} {pos : String} {af : Array Edge} {g : Option (Nat × Bool)} {x y u : Operand} {k : κ}
theorem MOk.look (M : MOk C.P T K E t z) {w : World} (hb : BlkOk w (A6 b t fs)) (hk : t.ok k) (cm : Bool) :
    (Instr.lookup T (.map (some b)) (t.ek k) cm).run C.P w = .ok (if cm then .tuple #[((Au fs k).map t.ev).getD z, .bool (Au fs k).isSome] else ((Au fs k).map t.ev).getD z) w := by
  obtain ⟨es, clock, hh, F⟩ := hb.map;obtain ⟨l, hl⟩ := M.isk k hk;rcases F.find M hk w with ⟨h1, h2⟩ | ⟨j, e, v, h1, h2, h3, h4⟩
  · rw [mget_none h2]
    simp [Instr.lookup, run_underlying M.hu, MapKept.run_getObj_map hh, M.key.check w _ hl, h1, M.zero, Result.andThen]
  · rw [mget_some F.nodup h4]
    simp [Instr.lookup, run_underlying M.hu, MapKept.run_getObj_map hh, M.key.check w _ hl, h1, Result.andThen]
theorem Tr.lookOk (M : MOk C.P T K E t z) (hg : Aj ops sl g = true) (hd : okL c d C.N = true) (hx : Af sl x = some (.map (some b))) (hy : Af sl y = some (t.ek k)) (hk : t.ok k) (hb : A6 b t fs ∈ hp)
    (kk : Tr C ops rest ⟨(d, .tuple #[((Au fs k).map t.ev).getD z, .bool (Au fs k).isSome]) :: sl, hp⟩ Q) : Tr C ops ((c, ⟨some d, .lookup T x y true, ty, pos, af, g⟩) :: rest) ⟨sl, hp⟩ Q :=
  .ld hg hd ⟨by simpa [Known, Op.operands] using known2 hx hy, fun ρ hf w hh => by
    have h1 := hf x (by simp [Op.operands]); rw [hx] at h1;have h2 := hf y (by simp [Op.operands]); rw [hy] at h2;simp only [Option.some.injEq] at h1 h2;have := M.look (hh.cells _ hb) hk true;simp [execOp, ← h1, ← h2, this]⟩ kk
theorem Tr.look1 (M : MOk C.P T K E t z) (hg : Aj ops sl g = true) (hd : okL c d C.N = true) (hx : Af sl x = some (.map (some b))) (hy : Af sl y = some (t.ek k)) (hk : t.ok k) (hb : A6 b t fs ∈ hp)
    (kk : Tr C ops rest ⟨(d, ((Au fs k).map t.ev).getD z) :: sl, hp⟩ Q) : Tr C ops ((c, ⟨some d, .lookup T x y false, ty, pos, af, g⟩) :: rest) ⟨sl, hp⟩ Q :=
  .ld hg hd ⟨by simpa [Known, Op.operands] using known2 hx hy, fun ρ hf w hh => by
    have h1 := hf x (by simp [Op.operands]); rw [hx] at h1;have h2 := hf y (by simp [Op.operands]); rw [hy] at h2;simp only [Option.some.injEq] at h1 h2;have := M.look (hh.cells _ hb) hk false;simp [execOp, ← h1, ← h2, this]⟩ kk
theorem Tr.lenMap (hu : C.P.underlying T = some (.map K E)) (hg : Aj ops sl g = true) (hd : okL c d C.N = true) (hx : Af sl x = some (.map (some b))) (hb : A6 b t fs ∈ hp)
    (kk : Tr C ops rest ⟨(d, i64 (fs.length : Int)) :: sl, hp⟩ Q) : Tr C ops ((c, ⟨some d, .call { callee := .builtin .len, args := #[x], argTypes := #[T] }, ty, pos, af, g⟩) :: rest) ⟨sl, hp⟩ Q :=
  .ld hg hd ⟨by simpa [Known, Op.operands, Call.operands] using known1 hx, fun ρ hf w hh => by
    have h1 := hf x (by simp [Op.operands, Call.operands]); rw [hx] at h1;simp only [Option.some.injEq] at h1;obtain ⟨es, clock, ho, F⟩ := (hh.cells _ hb).map;simp [execOp, resolve, invoke, builtin, ← h1, Builtin.len_, run_underlying hu, MapKept.run_getObj_map ho, goInt, F.length]⟩ kk
theorem HRep.setOb {C : Cx} {x y : Blk} {hp : List Blk} {w : World} (h : HRep C (x :: hp) w) (hn : y.n = x.n) (o : Obj) (hy : BlkOk { w with heap := w.heap.setIfInBounds x.n o } y) : HRep C (y :: hp) { w with heap := w.heap.setIfInBounds x.n o } := by
  have hnd := h.nodup;rw [List.map_cons, List.nodup_cons] at hnd;have oth : ∀ i, i ≠ x.n → ({ w with heap := w.heap.setIfInBounds x.n o } : World).heap[i]? = w.heap[i]? := fun i hi => by
    show (w.heap.setIfInBounds x.n o)[i]? = _;rw [Array.getElem?_setIfInBounds_ne (fun e => hi e.symm)]
  have hx := h.own x List.mem_cons_self;refine ⟨fun b hb => ?_, ?_, fun b hb => ?_, ⟨h.keeps.os, h.keeps.tape, h.keeps.output, ?_, fun i hi hl => ?_⟩, fun k hk => ?_, fun b hb k hk => ?_⟩
  · rcases List.mem_cons.1 hb with rfl | hb
    · exact hy
    · exact (h.cells b (List.mem_cons_of_mem _ hb)).of_heap (oth _ fun e => hnd.1 (List.mem_map.2 ⟨b, hb, e⟩))
  · rw [List.map_cons, List.nodup_cons, hn]; exact hnd
  · rcases List.mem_cons.1 hb with rfl | hb
    · rw [hn]; exact hx
    · exact h.own b (List.mem_cons_of_mem _ hb)
  · have := h.keeps.size
    simpa using this
  · refine (oth i fun e => ?_).trans (h.keeps.block i hi hl)
    subst e;rcases hx with hx | hx
    · omega
    · exact hl hx
  · exact (h.kok k hk).of_heap (oth _ fun e => h.kd x List.mem_cons_self k hk e.symm)
  · rcases List.mem_cons.1 hb with rfl | hb
    · rw [hn]; exact h.kd x List.mem_cons_self k hk
    · exact h.kd b (List.mem_cons_of_mem _ hb) k hk
theorem MOk.put (M : MOk C.P T K E t z) {w : World} (hh : HRep C (A6 b t fs :: hp) w) (hk : t.ok k) (v : ν) : ∃ o, (Instr.mapUpdate T (.map (some b)) (t.ek k) (t.ev v)).run C.P w = .ok () { w with heap := w.heap.setIfInBounds b o } ∧ HRep C (A6 b t (Bj fs k v) :: hp) { w with heap := w.heap.setIfInBounds b o } := by
  obtain ⟨es, clock, hb, F⟩ := (hh.cells _ List.mem_cons_self).map;obtain ⟨l, hl⟩ := M.isk k hk;have hlt : b < w.heap.size := (hh.cells _ List.mem_cons_self).lt;rcases F.find M hk w with ⟨h1, h2⟩ | ⟨j, e, v0, h1, h2, h3, h4⟩
  · refine ⟨.map (es.push ⟨t.ek k, t.ev v, clock⟩) (clock + 1), ?_, ?_⟩
    · simp [Instr.mapUpdate, run_underlying M.hu, MapKept.run_getObj_map hb, M.key.check w false hl, h1, MapKept.run_setObj_map _ hb, Result.andThen]
    · exact HRep.setOb (x := A6 b t fs) (y := A6 b t (Bj fs k v)) hh rfl _ (BlkOk.of_map (Array.getElem?_setIfInBounds_self_of_lt hlt) (F.push hk v h2))
  · have hj : es[j]? = some e := by simpa using h2
    refine ⟨.map (es.modify j fun e' => { e' with key := t.ek k, val := t.ev v }) clock, ?_, ?_⟩
    · simp [Instr.mapUpdate, run_underlying M.hu, MapKept.run_getObj_map hb, M.key.check w false hl, h1, hj, h3, M.key.stays w hl, MapKept.run_setObj_map _ hb, Result.andThen]
    · exact HRep.setOb (x := A6 b t fs) (y := A6 b t (Bj fs k v)) hh rfl _ (BlkOk.of_map (Array.getElem?_setIfInBounds_self_of_lt hlt) (F.set hk v h2 h4 _ rfl))
theorem MOk.del (M : MOk C.P T K E t z) {w : World} (hh : HRep C (A6 b t fs :: hp) w) (hk : t.ok k) : ∃ o, (Builtin.delete_ #[T, K] ty #[.map (some b), t.ek k]).run C.P w = .ok (.tuple #[]) { w with heap := w.heap.setIfInBounds b o } ∧ HRep C (A6 b t (mdel fs k) :: hp) { w with heap := w.heap.setIfInBounds b o } := by
  obtain ⟨es, clock, hb, F⟩ := (hh.cells _ List.mem_cons_self).map;obtain ⟨l, hl⟩ := M.isk k hk;have hlt : b < w.heap.size := (hh.cells _ List.mem_cons_self).lt;rcases F.find M hk w with ⟨h1, h2⟩ | ⟨j, e, v0, h1, h2, h3, h4⟩
  · refine ⟨.map es clock, ?_, ?_⟩
    · simp [Builtin.delete_, run_underlying M.hu, MapKept.run_getObj_map hb, M.key.check w _ hl, h1, MapKept.run_setObj_map _ hb, Result.andThen]
    · have e : mdel fs k = fs := by unfold mdel; rw [midx_none h2]
      rw [e];exact HRep.setOb (x := A6 b t fs) hh rfl _ (BlkOk.of_map (Array.getElem?_setIfInBounds_self_of_lt hlt) F)
  · refine ⟨.map (es.eraseIdxIfInBounds j) clock, ?_, ?_⟩
    · simp [Builtin.delete_, run_underlying M.hu, MapKept.run_getObj_map hb, M.key.check w _ hl, h1, MapKept.run_setObj_map _ hb, Result.andThen]
    · exact HRep.setOb (x := A6 b t fs) (y := A6 b t (mdel fs k)) hh rfl _ (BlkOk.of_map (Array.getElem?_setIfInBounds_self_of_lt hlt) (F.erase h4))
theorem Tr.mapPut {v : ν} (M : MOk C.P T K E t z) (hg : Aj ops sl g = true) (hc : Nat.beq c 4 = true) (hx : Af sl x = some (.map (some b))) (hy : Af sl y = some (t.ek k)) (hv : Af sl u = some (t.ev v)) (hk : t.ok k) (hp1 : hp.Perm (A6 b t fs :: hp'))
    (kk : Tr C ops rest ⟨sl, A6 b t (Bj fs k v) :: hp'⟩ Q) : Tr C ops ((c, ⟨none, .mapUpdate T x y u, ty, pos, af, g⟩) :: rest) ⟨sl, hp⟩ Q := by
  refine Tr.act (ρ := Unit) (fun _ => True) (fun _ => .tuple #[]) (fun _ => A6 b t (Bj fs k v) :: hp') (nbeq' hc) (Aw hg) (fun _ h => by cases h) ⟨by simpa [Known, Op.operands] using known3 hx hy hv, fun a w hf hh => ?_⟩ (fun _ _ => kk);have h1 := hf x (by simp [Op.operands]); rw [hx] at h1;have h2 := hf y (by simp [Op.operands]); rw [hy] at h2;have h3 := hf u (by simp [Op.operands]); rw [hv] at h3;simp only [Option.some.injEq] at h1 h2 h3;obtain ⟨o, hr, hh2⟩ := M.put (hh.perm hp1) hk v;unfold Oper.wp;have hex : (execOp a.eval ⟨none, .mapUpdate T x y u, ty, pos, af, g⟩).run C.P w = .ok .skip { w with heap := w.heap.setIfInBounds b o } := by
    simp [execOp, ← h1, ← h2, ← h3, hr]
  rw [hex];exact ⟨(), trivial, rfl, hh2⟩
theorem Tr.mapDel (M : MOk C.P T K E t z) (hg : Aj ops sl g = true) (hc : Nat.beq c 4 = true) (hx : Af sl x = some (.map (some b))) (hy : Af sl y = some (t.ek k)) (hk : t.ok k) (hp1 : hp.Perm (A6 b t fs :: hp'))
    (kk : Tr C ops rest ⟨sl, A6 b t (mdel fs k) :: hp'⟩ Q) : Tr C ops ((c, ⟨none, .call { callee := .builtin .delete, args := #[x, y], argTypes := #[T, K] }, ty, pos, af, g⟩) :: rest) ⟨sl, hp⟩ Q := by
  refine Tr.act (ρ := Unit) (fun _ => True) (fun _ => .tuple #[]) (fun _ => A6 b t (mdel fs k) :: hp') (nbeq' hc) (Aw hg) (fun _ h => by cases h) ⟨by simpa [Known, Op.operands, Call.operands] using known2 hx hy, fun a w hf hh => ?_⟩ (fun _ _ => kk);have h1 := hf x (by simp [Op.operands, Call.operands]); rw [hx] at h1;have h2 := hf y (by simp [Op.operands, Call.operands]); rw [hy] at h2;simp only [Option.some.injEq] at h1 h2;obtain ⟨o, hr, hh2⟩ := M.del (ty := ty) (hh.perm hp1) hk;unfold Oper.wp;have hex : (execOp a.eval ⟨none, .call { callee := .builtin .delete, args := #[x, y], argTypes := #[T, K] }, ty, pos, af, g⟩).run C.P w = .ok (.value (.tuple #[])) { w with heap := w.heap.setIfInBounds b o } := by
    simp [execOp, resolve, invoke, builtin, ← h1, ← h2, hr]
  rw [hex];exact ⟨(), trivial, rfl, hh2⟩
theorem Tr.mkMap (t : MTy κ ν) (hg : Aj ops sl g = true) (hk : okG c d C.N = true)
    (kk : ∀ q, Tr C ops rest ⟨(d, .map (some q)) :: sl, A6 q t [] :: hp⟩ Q) : Tr C ops ((c, ⟨some d, .makeMap T none, ty, pos, af, g⟩) :: rest) ⟨sl, hp⟩ Q := by
  simp only [okG, Bool.and_eq_true, Bool.or_eq_true] at hk;refine Tr.grow (ρ := Nat) (fun _ => True) (fun q => .map (some q)) (fun q => [A6 q t []]) (hk.1.imp nbeq' nbeq') (Aw hg) (B0 (nblt hk.2))
    ⟨by simp [Known, Op.operands], fun l hl => ?_, fun a w hf hh => ?_⟩ (fun q _ => kk q)
  · obtain ⟨q, _, hq⟩ := fresh_is 0 l
    refine ⟨q, trivial, ?_⟩;simp only [List.singleton_append, List.map_cons, List.nodup_cons];exact ⟨fun h => by obtain ⟨b, hb, e⟩ := List.mem_map.1 h; exact hq b hb e, hl⟩
  · unfold Oper.wp
    have hex : (execOp a.eval ⟨some d, .makeMap T none, ty, pos, af, g⟩).run C.P w = .ok (.value (.map (some w.heap.size))) (w.alloc (.map #[] 0)) := by
      simp [execOp, Instr.makeMap, newObj, Sem.run]
    rw [hex];refine ⟨w.heap.size, trivial, rfl, ⟨⟨rfl, rfl, rfl, by show w.heap.size ≤ (w.heap.push _).size; simp, fun i hi _ => ?_⟩, fun b hb => ?_, by simp, fun b hb => ?_⟩⟩
    · show (w.heap.push _)[i]? = _
      rw [Array.getElem?_push, if_neg (Nat.ne_of_lt hi)]
    · rw [List.mem_singleton.1 hb]
      exact BlkOk.of_map (by show (w.heap.push _)[w.heap.size]? = _; rw [Array.getElem?_push, if_pos rfl]) MFit.none
    · rw [List.mem_singleton.1 hb]; exact .inl (Nat.le_refl _)
end

abbrev iblk (q b clock : Nat) (seen : Array Nat) : Blk := ⟨q, [], .ob (fun o => o = .mapIter (some b) clock seen clock), 0⟩
def ItOk {κ ν : Type} (t : MTy κ ν) (es : Array MapEntry) (seen : Array Nat) (todo : List (κ × ν)) : Prop := (leftOf es seen).toList.map (fun e => (e.key, e.val)) = todo.map (fun p => (t.ek p.1, t.ev p.2))
def ItAt {κ ν : Type} (t : MTy κ ν) (es : Array MapEntry) (seen : Array Nat) (k : κ) (v : ν) : Prop := ∃ e s0, seen = Array.push s0 e.born ∧ e ∈ es.toList ∧ e.key = t.ek k ∧ e.val = t.ev v
theorem BlkOk.x {w : World} {b : Nat} {o : Obj} (h : BlkOk w ⟨b, [], .ob (fun x => x = o), 0⟩) : w.heap[b]? = some o := by
  obtain ⟨_, _, o', ho, e, _⟩ := h;rw [ho, e]
theorem HRep.swap {C : Cx} {x y : Blk} {hp : List Blk} {w : World} (h : HRep C (x :: hp) w) (hn : y.n = x.n) (hy : BlkOk w y) : HRep C (y :: hp) w := by
  refine ⟨fun b hb => ?_, ?_, fun b hb => ?_, h.keeps, h.kok, fun b hb => ?_⟩
  · rcases List.mem_cons.1 hb with rfl | hb
    · exact hy
    · exact h.cells b (List.mem_cons_of_mem _ hb)
  · have := h.nodup
    rw [List.map_cons] at this ⊢;rw [hn]; exact this
  · rcases List.mem_cons.1 hb with rfl | hb
    · rw [hn]; exact h.own x List.mem_cons_self
    · exact h.own b (List.mem_cons_of_mem _ hb)
  · rcases List.mem_cons.1 hb with rfl | hb
    · rw [hn]; exact h.kd x List.mem_cons_self
    · exact h.kd b (List.mem_cons_of_mem _ hb)
section
variable {κ ν : Type} [DecidableEq κ] {T K E : TypeId} {t : MTy κ ν} {fs todo : List (κ × ν)} {es : Array MapEntry} {clock : Nat} {seen : Array Nat}
theorem ItOk.start (F : MFit t fs es clock) : ItOk t es #[] fs := by
  have e : leftOf es #[] = es := by simp [leftOf]
  unfold ItOk;rw [e]; exact F.map
theorem ItOk.step (F : MFit t fs es clock) (h : ItOk t es seen todo) {e : MapEntry} (he : e ∈ (leftOf es seen).toList) : ∃ j k v, todo[j]? = some (k, v) ∧ t.ek k = e.key ∧ t.ev v = e.val ∧ ItOk t es (seen.push e.born) (todo.eraseIdx j) ∧ ItAt t es (seen.push e.born) k v := by
  obtain ⟨j, hj⟩ := List.getElem?_of_mem he;have h1 := congrArg (fun l => l[j]?) h;simp only [List.getElem?_map, hj, Option.map_some] at h1;cases hp : todo[j]? with
  | none => rw [hp] at h1; cases h1
  | some p =>
    rw [hp] at h1;simp only [Option.map_some, Option.some.injEq, Prod.mk.injEq] at h1;refine ⟨j, p.1, p.2, hp, h1.1.symm, h1.2.symm, ?_, e, seen, rfl, by simp only [leftOf, Array.toList_filter] at he; exact (List.mem_filter.1 he).1, h1.1, h1.2⟩;have e1 : (leftOf es (seen.push e.born)).toList = (leftOf es seen).toList.eraseIdx j := by
      rw [← ChangeMaps.filter_eq_eraseIdx (fun x => decide (x.born = e.born)) (leftOf es seen).toList j e hj sP ?_]
      · simp only [leftOf, Array.toList_filter, List.filter_filter]
        refine List.filter_congr fun x _ => ?_;simp [Bool.and_comm]
      · have hn : ((leftOf es seen).toList.map (·.born)).Nodup := by
          refine List.Nodup.sublist ?_ F.apart;simp only [leftOf, Array.toList_filter];exact List.Sublist.map _ (List.filter_sublist ..)
        have hpw := List.pairwise_map.1 hn;refine hpw.imp fun hne h2 => ?_;simp only [decide_eq_true_eq] at h2;exact hne (h2.1.trans h2.2.symm)
    unfold ItOk;rw [e1, ChangeMaps.map_eraseIdx, ChangeMaps.map_eraseIdx, h]
variable {C : Cx} {ops : Array Oper} {rest : List (Nat × Oper)} {sl : List (Nat × Value)} {hp hp' : List Blk} {Q : St → Prop} {c d b q : Nat} {ty : TypeId} {pos : String} {af : Array Edge} {g : Option (Nat × Bool)} {x : Operand}
def SIs (t : MTy κ ν) (fs : List (κ × ν)) (k : κ) (s : Nat) (o : Obj) : Prop := ∃ es clock, o = .map es clock ∧ MFit t fs es clock ∧ ∃ (j : Nat) (e : MapEntry) (v : ν), es.toList[j]? = some e ∧ e.key = t.ek k ∧ e.born = s ∧ fs[j]? = some (k, v)
abbrev sblk (b : Nat) (t : MTy κ ν) (fs : List (κ × ν)) (k : κ) (s : Nat) : Blk := ⟨b, [], .ob (SIs t fs k s), 0⟩
theorem Tr.mapEntry {z : Value} {k : κ} {d0 : ν} {y : Operand} (M : MOk C.P T K E t z) (hz : t.ev d0 = z) (hg : Aj ops sl g = true) (hc : Nat.beq c 4 = true) (hd : Nat.blt d C.N = true) (hx : Af sl x = some (.map (some b))) (hy : Af sl y = some (t.ek k)) (hk : t.ok k) (hp1 : hp.Perm (A6 b t fs :: hp'))
    (kk : ∀ s : Nat, Tr C ops rest ⟨(d, .tuple #[t.ev ((Au fs k).getD d0), i64 (s : Int)]) :: sl, sblk b t (Bj fs k ((Au fs k).getD d0)) k s :: hp'⟩ Q) : Tr C ops ((c, ⟨some d, .mapEntry T x y, ty, pos, af, g⟩) :: rest) ⟨sl, hp⟩ Q := by
  refine Tr.act (ρ := Nat) (fun _ => True) (fun s => .tuple #[t.ev ((Au fs k).getD d0), i64 (s : Int)]) (fun s => sblk b t (Bj fs k ((Au fs k).getD d0)) k s :: hp') (nbeq' hc) (Aw hg) (B0 (nblt hd)) ⟨by simpa [Known, Op.operands] using known2 hx hy, fun a w hf hh => ?_⟩ (fun s _ => kk s);have h1 := hf x (by simp [Op.operands]); rw [hx] at h1;have h2 := hf y (by simp [Op.operands]); rw [hy] at h2;simp only [Option.some.injEq] at h1 h2;have hh2 := hh.perm hp1;obtain ⟨es, clock, hb, F⟩ := (hh2.cells _ List.mem_cons_self).map;obtain ⟨l, hl⟩ := M.isk k hk;have hlt : b < w.heap.size := (hh2.cells _ List.mem_cons_self).lt;unfold Oper.wp;rcases F.find M hk w with ⟨g1, g2⟩ | ⟨j, e, v0, g1, g2, g3, g4⟩
  · have hex : (execOp a.eval ⟨some d, .mapEntry T x y, ty, pos, af, g⟩).run C.P w = .ok (.value (.tuple #[z, i64 (clock : Int)])) { w with heap := w.heap.setIfInBounds b (.map (es.push ⟨t.ek k, z, clock⟩) (clock + 1)) } := by
      simp [execOp, Instr.mapEntry, ← h1, ← h2, run_underlying M.hu, MapKept.run_getObj_map hb, M.key.check w false hl, g1, M.zero, MapKept.run_setObj_map _ hb, Result.andThen, goInt]
    rw [hex];rw [mget_none g2];refine ⟨clock, trivial, by rw [← hz]; rfl, HRep.setOb (x := A6 b t fs) (y := sblk b t (Bj fs k d0) k clock) hh2 rfl _ ⟨rfl, rfl, _, Array.getElem?_setIfInBounds_self_of_lt hlt, ⟨_, _, rfl, by rw [← hz]; exact F.push hk d0 g2, fs.length, ⟨t.ek k, z, clock⟩, d0, ?_, rfl, rfl, ?_⟩, fun x e => by cases e⟩⟩
    · rw [Array.toList_push, List.getElem?_append_right (by rw [Array.length_toList, F.length]; exact Nat.le_refl _)]
      simp [F.length]
    · have e1 : Bj fs k d0 = fs ++ [(k, d0)] := by unfold Bj; rw [midx_none g2]
      rw [e1]; simp
  · have hj : es[j]? = some e := by simpa using g2
    have hex : (execOp a.eval ⟨some d, .mapEntry T x y, ty, pos, af, g⟩).run C.P w = .ok (.value (.tuple #[t.ev v0, i64 (e.born : Int)])) { w with heap := w.heap.setIfInBounds b (.map (es.modify j fun e => { e with key := t.ek k }) clock) } := by
      simp [execOp, Instr.mapEntry, ← h1, ← h2, run_underlying M.hu, MapKept.run_getObj_map hb, M.key.check w false hl, g1, hj, g3, M.key.stays w hl, MapKept.run_setObj_map _ hb, Result.andThen, goInt]
    rw [hex, mget_some F.nodup g4];have ev : e.val = t.ev v0 := by
      obtain ⟨p, hp, _, e2⟩ := F.at g2;rw [g4] at hp;cases hp;exact e2.symm
    have hes : (es.modify j fun e => { e with key := t.ek k }) = es.modify j fun e' => { e' with key := t.ek k, val := t.ev v0 } := by
      refine Array.toList_inj.1 ?_;rw [Array.toList_modify, Array.toList_modify, ChangeMaps.modify_eq_set _ _ _ _ g2, ChangeMaps.modify_eq_set _ _ _ _ g2, ev]
    refine ⟨e.born, trivial, rfl, HRep.setOb (x := A6 b t fs) (y := sblk b t (Bj fs k v0) k e.born) hh2 rfl _ ⟨rfl, rfl, _, Array.getElem?_setIfInBounds_self_of_lt hlt, ⟨_, _, rfl, by rw [hes]; exact F.set hk v0 g2 g4 _ rfl, j, { e with key := t.ek k }, v0, ?_, rfl, rfl, ?_⟩, fun x e => by cases e⟩⟩
    · rw [Array.toList_modify, ChangeMaps.modify_eq_set _ _ _ _ g2, List.getElem?_set_self (List.getElem?_eq_some_iff.1 g2).1]
    · have e1 : Bj fs k v0 = fs.set j (k, v0) := by unfold Bj; rw [midx_some F.nodup g4]
      rw [e1, List.getElem?_set_self (List.getElem?_eq_some_iff.1 g4).1]
theorem Tr.entryStore {k : κ} {v : ν} {s : Nat} {y u : Operand} (hg : Aj ops sl g = true) (hc : Nat.beq c 4 = true) (hx : Af sl x = some (.map (some b))) (hy : Af sl y = some (i64 (s : Int))) (hv : Af sl u = some (t.ev v)) (hk : t.ok k) (hp1 : hp.Perm (sblk b t fs k s :: hp'))
    (kk : Tr C ops rest ⟨sl, A6 b t (Bj fs k v) :: hp'⟩ Q) : Tr C ops ((c, ⟨none, .entryStore T x y u, ty, pos, af, g⟩) :: rest) ⟨sl, hp⟩ Q := by
  refine Tr.act (ρ := Unit) (fun _ => True) (fun _ => .tuple #[]) (fun _ => A6 b t (Bj fs k v) :: hp') (nbeq' hc) (Aw hg) (fun _ h => by cases h) ⟨by simpa [Known, Op.operands] using known3 hx hy hv, fun a w hf hh => ?_⟩ (fun _ _ => kk);have h1 := hf x (by simp [Op.operands]); rw [hx] at h1;have h2 := hf y (by simp [Op.operands]); rw [hy] at h2;have h3 := hf u (by simp [Op.operands]); rw [hv] at h3;simp only [Option.some.injEq] at h1 h2 h3;have hh2 := hh.perm hp1;have hlt : b < w.heap.size := (hh2.cells _ List.mem_cons_self).lt;obtain ⟨_, _, o, hb, ⟨es, clock, rfl, F, j, e, v0, g2, g3, g5, g4⟩, _⟩ := hh2.cells _ List.mem_cons_self;simp only at hb;have hfi : es.findIdx? (fun e => (e.born : Int) == (s : Int)) = some j := by
    rw [Array.findIdx?_eq_some_iff_getElem];have hjl : j < es.size := by have := (List.getElem?_eq_some_iff.1 g2).1; simpa using this
    have hje : es[j] = e := by have := (List.getElem?_eq_some_iff.1 g2).2; simpa using this
    refine ⟨hjl, by rw [hje, g5]; simp, fun i hi => ?_⟩;have hil : i < es.size := by omega
    have hne : es[i].born ≠ s := fun e2 => by
      have hn := F.apart;have : i = j := by
        have h5 : i < (es.toList.map (·.born)).length := by simpa using hil
        refine (List.getElem?_inj h5 hn).1 ?_;rw [List.getElem?_map, List.getElem?_map, g2];have : es.toList[i]? = some es[i] := by simp [hil]
        rw [this];simp [e2, g5]
      omega
    simp
    exact_mod_cast hne
  unfold Oper.wp;have hex : (execOp a.eval ⟨none, .entryStore T x y u, ty, pos, af, g⟩).run C.P w = .ok .skip { w with heap := w.heap.setIfInBounds b (.map (es.modify j fun e => { e with val := t.ev v }) clock) } := by
    simp [execOp, Instr.entryStore, ← h1, ← h2, ← h3, MapKept.run_getObj_map hb, asInt, asIntOf, i64, hfi, MapKept.run_setObj_map _ hb, Result.andThen]
  rw [hex];have hes : (es.modify j fun e => { e with val := t.ev v }) = es.modify j fun e' => { e' with key := t.ek k, val := t.ev v } := by
    refine Array.toList_inj.1 ?_;rw [Array.toList_modify, Array.toList_modify, ChangeMaps.modify_eq_set _ _ _ _ g2, ChangeMaps.modify_eq_set _ _ _ _ g2, g3]
  exact ⟨(), trivial, rfl, HRep.setOb (x := sblk b t fs k s) (y := A6 b t (Bj fs k v)) hh2 rfl _ (BlkOk.of_map (Array.getElem?_setIfInBounds_self_of_lt hlt) (by rw [hes]; exact F.set hk v g2 g4 _ rfl))⟩
theorem HRep.const {w : World} {o : Obj} (hh : HRep C hp w) (hb : C.W0.heap[b]? = some o) (hbl : b ∉ C.lent) : w.heap[b]? = some o :=
  (hh.keeps.block b (by rcases Nat.lt_or_ge b C.W0.heap.size with h | h; exact h; rw [Array.getElem?_eq_none h] at hb; cases hb) hbl).trans hb
theorem Tr.rangeMapC (hu : C.P.underlying T = some (.map K E)) (hb : C.W0.heap[b]? = some (.map es clock)) (hbl : b ∉ C.lent) (hg : Aj ops sl g = true) (hc : Nat.beq c 4 = true) (hd : Nat.blt d C.N = true) (hx : Af sl x = some (.map (some b)))
    (kk : ∀ q, Tr C ops rest ⟨(d, ptr q 0) :: sl, iblk q b clock #[] :: hp⟩ Q) : Tr C ops ((c, ⟨some d, .range T x, ty, pos, af, g⟩) :: rest) ⟨sl, hp⟩ Q := by
  refine Tr.act (ρ := Nat) (fun r => True) (fun r => ptr r 0) (fun r => iblk r b clock #[] :: hp) (nbeq' hc) (Aw hg) (B0 (nblt hd)) ⟨by simpa [Known, Op.operands] using known1 hx, fun a w hf hh => ?_⟩ (fun r hr => kk _);have h1 := hf x (by simp [Op.operands]); rw [hx] at h1;simp only [Option.some.injEq] at h1;have hb2 := hh.const hb hbl;unfold Oper.wp;have hex : (execOp a.eval ⟨some d, .range T x, ty, pos, af, g⟩).run C.P w = .ok (.value (.pointer (some ⟨w.heap.size, 0, none⟩))) (w.alloc (.mapIter (some b) clock #[] clock)) := by
    simp [execOp, ← h1, Instr.range, run_underlying hu, MapKept.run_getObj_map hb2, newObj, Sem.run]
  rw [hex];refine ⟨w.heap.size, trivial, rfl, hh.grown (out := [iblk w.heap.size b clock #[]]) ⟨⟨rfl, rfl, rfl, by show w.heap.size ≤ (w.heap.push _).size; simp, fun i hi _ => ?_⟩, fun b hb => ?_, by simp, fun b hb => ?_⟩⟩
  · show (w.heap.push _)[i]? = _
    rw [Array.getElem?_push, if_neg (Nat.ne_of_lt hi)]
  · rw [List.mem_singleton.1 hb]
    exact ⟨rfl, rfl, _, by show (w.heap.push _)[w.heap.size]? = _; rw [Array.getElem?_push, if_pos rfl], rfl, fun x e => by cases e⟩
  · rw [List.mem_singleton.1 hb]; exact .inl (Nat.le_refl _)
theorem Tr.nextMapC (F : MFit t fs es clock) (hi : ItOk t es seen todo) (hb : C.W0.heap[b]? = some (.map es clock)) (hbl : b ∉ C.lent) (hg : Aj ops sl g = true) (hc : Nat.beq c 4 = true) (hd : Nat.blt d C.N = true) (hx : Af sl x = some (ptr q 0)) (hp1 : hp.Perm (iblk q b clock seen :: hp'))
    (k0 : todo = [] → Tr C ops rest ⟨(d, .tuple #[.bool false]) :: sl, hp'⟩ Q)
    (k1 : ∀ j k v seen', todo[j]? = some (k, v) → ItOk t es seen' (todo.eraseIdx j) → ItAt t es seen' k v → Tr C ops rest ⟨(d, .tuple #[.bool true, t.ek k, t.ev v]) :: sl, iblk q b clock seen' :: hp'⟩ Q) :
    Tr C ops ((c, ⟨some d, .next x false, ty, pos, af, g⟩) :: rest) ⟨sl, hp⟩ Q := by
  refine Tr.act (ρ := Option (Nat × κ × ν × Array Nat)) (fun r => match r with | none => todo = [] | some p => todo[p.1]? = some (p.2.1, p.2.2.1) ∧ ItOk t es p.2.2.2 (todo.eraseIdx p.1) ∧ ItAt t es p.2.2.2 p.2.1 p.2.2.1)
    (fun r => match r with | none => .tuple #[.bool false] | some p => .tuple #[.bool true, t.ek p.2.1, t.ev p.2.2.1]) (fun r => match r with | none => hp' | some p => iblk q b clock p.2.2.2 :: hp')
    (nbeq' hc) (Aw hg) (B0 (nblt hd)) ⟨by simpa [Known, Op.operands] using known1 hx, fun a w hf hh => ?_⟩ (fun r hr => ?_)
  · have h1 := hf x (by simp [Op.operands]); rw [hx] at h1
    simp only [Option.some.injEq] at h1;have hh2 := hh.perm hp1;have hq := (hh2.cells (iblk q b clock seen) List.mem_cons_self).x;have hb2 := hh2.const hb hbl;rcases run_next_at (P := C.P) w ty q b clock clock seen es clock hq hb2 F.born (Nat.le_refl _) with ⟨h0, hr⟩ | ⟨e, he, w1, hw1, hr⟩
    · unfold Oper.wp
      have hex : (execOp a.eval ⟨some d, .next x false, ty, pos, af, g⟩).run C.P w = .ok (.value (.tuple #[.bool false])) w := by simp [execOp, ← h1, ptr, hr]
      rw [hex];refine ⟨none, ?_, rfl, ?_⟩
      · have h2 : (leftOf es seen).toList = [] := List.eq_nil_of_length_eq_zero (by simpa using h0)
        have h3 : [] = todo.map (fun p => (t.ek p.1, t.ev p.2)) := by have := hi; unfold ItOk at this; rw [h2] at this; exact this
        exact List.map_eq_nil_iff.1 h3.symm
      · exact hh2.sub (fun b hb => List.mem_cons_of_mem _ hb) (by have := hh2.nodup; rw [List.map_cons, List.nodup_cons] at this; exact this.2)
    · obtain ⟨j, k, v, hj, e1, e2, hn, hat⟩ := hi.step F he
      unfold Oper.wp;have hex : (execOp a.eval ⟨some d, .next x false, ty, pos, af, g⟩).run C.P w = .ok (.value (.tuple #[.bool true, t.ek k, t.ev v])) (ChangeMaps.setBlock w1 q (.mapIter (some b) clock (seen.push e.born) clock)) := by simp [execOp, ← h1, ptr, hr, e1, e2]
      rw [hex];refine ⟨some (j, k, v, seen.push e.born), ⟨hj, hn, hat⟩, rfl, ?_⟩;have hh3 : HRep C (iblk q b clock seen :: hp') w1 := by
        rcases hw1 with rfl | rfl
        · exact hh2
        · exact hh2.drew _
      have hlt1 : q < w1.heap.size := (hh3.cells (iblk q b clock seen) List.mem_cons_self).lt;exact HRep.setOb (x := iblk q b clock seen) (y := iblk q b clock (seen.push e.born)) hh3 rfl _ ⟨rfl, rfl, _, Array.getElem?_setIfInBounds_self_of_lt hlt1, rfl, fun x e => by cases e⟩
  · match r, hr with
    | none, hr => exact k0 hr
    | some p, hr => exact k1 p.1 p.2.1 p.2.2.1 p.2.2.2 hr.1 hr.2.1 hr.2.2
theorem Tr.entryMapC {k : κ} {v : ν} (F : MFit t fs es clock) (hat : ItAt t es seen k v) (hb : C.W0.heap[b]? = some (.map es clock)) (hbl : b ∉ C.lent) (hg : Aj ops sl g = true) (hd : okL c d C.N = true) (hx : Af sl x = some (ptr q 0)) (hq : iblk q b clock seen ∈ hp)
    (kk : Tr C ops rest ⟨(d, .tuple #[t.ek k, t.ev v]) :: sl, hp⟩ Q) : Tr C ops ((c, ⟨some d, .entry x, ty, pos, af, g⟩) :: rest) ⟨sl, hp⟩ Q :=
  .ld hg hd ⟨by simpa [Known, Op.operands] using known1 hx, fun ρ hf w hh => by
    have h1 := hf x (by simp [Op.operands]); rw [hx] at h1;simp only [Option.some.injEq] at h1;obtain ⟨e, s0, rfl, he, e1, e2⟩ := hat;have := run_entry_at (P := C.P) w q b clock s0 es clock e (hh.cells _ hq).x (hh.const hb hbl) he F.apart;rw [e1, e2] at this;simp [execOp, ← h1, ptr, this]⟩ kk
theorem Tr.lookOkC {z : Value} {k : κ} {y : Operand} (M : MOk C.P T K E t z) (hb : BlkOk C.W0 (A6 b t fs)) (hbl : b ∉ C.lent) (hg : Aj ops sl g = true) (hd : okL c d C.N = true) (hx : Af sl x = some (.map (some b))) (hy : Af sl y = some (t.ek k)) (hk : t.ok k)
    (kk : Tr C ops rest ⟨(d, .tuple #[((Au fs k).map t.ev).getD z, .bool (Au fs k).isSome]) :: sl, hp⟩ Q) : Tr C ops ((c, ⟨some d, .lookup T x y true, ty, pos, af, g⟩) :: rest) ⟨sl, hp⟩ Q :=
  .ld hg hd ⟨by simpa [Known, Op.operands] using known2 hx hy, fun ρ hf w hh => by
    have h1 := hf x (by simp [Op.operands]); rw [hx] at h1;have h2 := hf y (by simp [Op.operands]); rw [hy] at h2;simp only [Option.some.injEq] at h1 h2;have := M.look (hb.of_heap (hh.keeps.block b hb.lt hbl)) hk true;simp [execOp, ← h1, ← h2, this]⟩ kk
end
end Hw
end

section
namespace Hw
open Go Go.RowKit

theorem yopR {P : Program} {w1 : World} {N : Nat} {names : List Nat} {sl : List (Nat × Value)} {hp L keep : List Blk} {σ : Type} {S : σ → Prop} {hpF : σ → List Blk} {d : Nat} {ty : TypeId} {pos : String} {af : Array Edge} {f x : Operand} {ats : Array TypeId} {l : Nat} {v : Value} {K : St → Prop} (hd : Nat.blt d N = true)
    (hf : Af sl f = some (.func (.yield l) #[] #[])) (hx : Af sl x = some v) (hsp : hp.Perm (L ++ keep)) (hY : ∀ w, HRep ⟨P, w1, 0, names, [], []⟩ L w → YieldAt Fence.wide 0 P l #[v] w fun e w' => e = .returned (.bool true) ∧ ∃ s, S s ∧ Ret (L.map (·.n)) (hpF s) w w')
    (k : ∀ s, S s → K ⟨(d, .bool true) :: sl, hpF s ++ keep⟩) : YOp ⟨P, w1, N, names, [], []⟩ ⟨some d, .call ⟨.value f, #[x], ats⟩, ty, pos, af, none⟩ ⟨sl, hp⟩ K := by
  refine ⟨rfl, fun a w r => ?_⟩;have h1 := r.rs.eval hf;have h2 := r.rs.eval hx;have rL : HRep ⟨P, w1, 0, names, [], []⟩ L w := by
    have := r.rh.perm hsp;have hn := this.nodup;rw [List.map_append, List.nodup_append] at hn;exact ⟨fun b hb => this.cells b (List.mem_append_left _ hb), hn.1, fun b hb => this.own b (List.mem_append_left _ hb), this.keeps, fun _ h => (by cases h), fun _ _ _ h => (by cases h)⟩
  obtain ⟨fn, tmps, ars, bd, hrun, hR⟩ := hY w rL;refine ⟨fun _ _ => trivial, ?_⟩;rw [show (Oper.semAt Fence.wide.round a.eval ⟨some d, .call ⟨.value f, #[x], ats⟩, ty, pos, af, none⟩).run P w = .ok (.round l fn tmps ars bd) w by
    rw [Oper.semAt_eq _ _ _ (by intro c hc; cases hc)];simp [execOp, resolve, Deferred.ofValue, h1, h2, invoke, hrun]]
  simp only [Oper.uponIn];refine ⟨fun h0 => (by cases h0), RoundIn.mono hR fun e w' ⟨he, s, hs, hr⟩ => ?_⟩;subst he;exact ⟨⟨(d, .bool true) :: sl, hpF s ++ keep⟩, ⟨r.rs.put (some d) (.bool true) fun t ht => by cases ht; exact nblt hd, r.rh.lentRet hsp (fun n hn => by obtain ⟨b, hb, e⟩ := List.mem_map.1 hn; exact ⟨b, hb, e⟩) hr⟩, k s hs⟩

theorem wpIn_rangeR {C : Cx} {sl : List (Nat × Value)} {g : Operand} {p0 : Tmp} {assign body : Code} {QQ : Exit → Act → World → Prop} {a : Act} {w : World} {gf : Nat} {lb : Array Value} {σ : Type} (hpF : σ → List Blk) (s0 : σ) (names : List Nat) (Ok : σ → Value → Prop) (Step : σ → Value → σ → Prop) (Done : σ → Prop) (Mid : σ → Value → St → Prop)
    (hrep : Rep C ⟨sl, hpF s0⟩ a w) (hkb : C.kb = []) (hg : Af sl g = some (.func (.func gf) #[] lb)) (eg : Av C.P gf) (hp0 : p0 < C.N) (hnames : (hpF s0).map (·.n) = names)
    (iter : ∀ (l : Nat) (w1 : World), Keeps C.lent C.W0 w1 → HRep ⟨C.P, w1, 0, names, [], []⟩ (hpF s0) w1 →
      (∀ s v, Ok s v → ∀ W, HRep ⟨C.P, w1, 0, names, [], []⟩ (hpF s) W → YieldAt Fence.wide 0 C.P l #[v] W fun e W' => e = .returned (.bool true) ∧ ∃ s', Step s v s' ∧ Ret ((hpF s).map (·.n)) (hpF s') W W') →
      CallsIn Fence.wide 0 C.P gf (#[.func (.yield l) #[] #[]] ++ lb) w1 fun e W' => (∃ v, e = .returned v) ∧ ∃ s, Done s ∧ HRep ⟨C.P, w1, 0, names, [], []⟩ (hpF s) W')
    (hassign : ∀ s v, Ok s v → ∀ l W ns, (hpF s).map (·.n) = ns → HRep ⟨C.P, W, C.N, ns, [], []⟩ (hpF s) W → SatI (some l) ⟨C.P, W, C.N, ns, [], []⟩ assign ⟨(p0, v) :: sl, hpF s⟩ (Mid s v))
    (hbody : ∀ s v, Ok s v → ∀ st, Mid s v st → ∀ l W ns, st.hp.map (·.n) = ns → HRep ⟨C.P, W, C.N, ns, [], []⟩ st.hp W → SatI (some l) ⟨C.P, W, C.N, ns, [], []⟩ body st (fun st' => ∃ s' R, Step s v s' ∧ st'.hp.Perm (hpF s' ++ R)))
    (hdone : ∀ s, Done s → ∀ D W, HRep C (hpF s) W → W.heap[D]? = some (.deferred (some [])) → C.W0.heap.size ≤ D → (∀ b ∈ hpF s, b.n ≠ D) → QQ .normal { a with defers := { target := .collected D, args := #[] } :: a.defers } W) :
    (Code.rangeFunc g #[p0] assign body).wpIn Fence.wide 0 C.P QQ a w := by
  have hnd : names.Nodup := by rw [← hnames]; exact hrep.rh.nodup
  have hlt : ∀ k ∈ names, k < w.heap.size := fun k hk => by
    rw [← hnames] at hk;obtain ⟨b, hb, rfl⟩ := List.mem_map.1 hk;exact (hrep.rh.cells b hb).lt
  refine wpIn_rangeFunc ?_;intro fn _;obtain ⟨rec, hrec⟩ : ∃ rec : LoopState → Option Code → Loop, rec = fun st pe => { state := st, pending := pe, fn, tmps := a.tmps, params := #[p0], assign, body, defers := w.heap.size } := ⟨_, rfl⟩
  obtain ⟨w1, hw1⟩ : ∃ w1, (w.alloc (.deferred (some []))).alloc (.loop (rec .ready none)) = w1 := ⟨_, rfl⟩;have hsz1 : w1.heap.size = w.heap.size + 2 := by rw [← hw1]; simp
  have hL1 : w1.heap[w.heap.size + 1]? = some (.loop (rec .ready none)) := by
    rw [← hw1]; have := World.alloc_heap_new (w.alloc (.deferred (some []))) (.loop (rec .ready none)); rwa [World.size_alloc] at this
  have hK1 : w1.heap[w.heap.size]? = some (.deferred (some [])) := by
    rw [← hw1]; exact (Below.heap_alloc _ _ _ sP).trans (World.alloc_heap_new w _)
  have hold : ∀ k, k < w.heap.size → w1.heap[k]? = w.heap[k]? := fun k hk => by
    rw [← hw1]; exact (Below.heap_alloc _ _ _ (by simp; omega)).trans (Below.heap_alloc _ _ _ hk)
  have hH : HRep ⟨C.P, w1, 0, names, [], []⟩ (hpF s0) w1 := HRep.base (fun b hb => (hrep.rh.cells b hb).of_heap (hold _ (hrep.rh.cells b hb).lt)) hnames hnd;have lN : w.heap.size + 1 ∉ names := fun h => by have := hlt _ h; omega
  have dN : w.heap.size ∉ names := fun h => by have := hlt _ h; omega
  refine ⟨w.heap.size + 1, [{ target := .collected w.heap.size, args := #[] }], w1, { target := .fn (.func gf) lb, args := #[.func (.yield (w.heap.size + 1)) #[] #[]] }, w1, gf,
    #[.func (.yield (w.heap.size + 1)) #[] #[]] ++ lb, w1, ?_, ?_, fun _ _ => trivial, ?_, fun h => (by cases h), ?_⟩
  · rw [← hw1, hrec]; exact run_enterLoop_outer _ _ _ _ _
  · have := hrep.rs.eval hg
    simp only [resolve, this];simp [go_sem]
  · have := eg (#[.func (.yield (w.heap.size + 1)) #[] #[]] ++ lb) w1
    simpa [invoke] using this
  have kw0 : Keeps C.lent C.W0 w1 := by
    have kw := hrep.rh.keeps;have osw : w1.os = w.os ∧ w1.tape = w.tape ∧ w1.output = w.output := by rw [← hw1]; exact ⟨rfl, rfl, rfl⟩
    refine ⟨osw.1.trans kw.os, osw.2.1.trans kw.tape, osw.2.2.trans kw.output, by have := kw.size; omega, fun j hj hjn => ?_⟩;have := kw.size;exact (hold j oM).trans (kw.block j hj hjn)
  refine (iter (w.heap.size + 1) w1 kw0 hH fun s v hi W hh => ?_).mono ?_
  · -- one round
    obtain ⟨ns, hns⟩ : ∃ ns, (hpF s).map (·.n) = ns := ⟨_, rfl⟩;have hnn : ns.Nodup := by rw [← hns]; exact hh.nodup
    have own0 : ∀ n ∈ ns, n ∈ names ∨ w1.heap.size ≤ n := fun n hn => by
      rw [← hns] at hn;obtain ⟨b, hb, rfl⟩ := List.mem_map.1 hn;exact (hh.own b hb).symm
    have lNs : w.heap.size + 1 ∉ ns := fun h => by
      rcases own0 _ h with h1 | h1
      · exact lN h1
      · omega
    have kWs := hh.keeps.size;simp only at kWs;have hl : W.heap[w.heap.size + 1]? = some (.loop (rec .ready none)) := (hh.keeps.block _ (by show _ < w1.heap.size; omega) lN).trans hL1;have hy := run_yield (P := C.P) (args := #[v]) hl (by rw [hrec]; rfl);rw [hrec] at hy;have rep0 : Rep ⟨C.P, W, C.N, ns, [], []⟩ ⟨(p0, v) :: sl, hpF s⟩ { tmps := (#[p0].zip #[v]).foldl (fun t (p, v) => t.setIfInBounds p v) a.tmps, defers := [] } W := by
      refine ⟨?_, HRep.base hh.cells hns hnn⟩;have s00 : SRep [] C.N sl ⟨a.tmps, []⟩ := ⟨hrep.rs.size, rfl, hrep.rs.slots⟩;have s1 := s00.put (some p0) v fun t ht => by cases ht; exact hp0
      have e : (#[p0].zip #[v]).foldl (fun t (p, v) => t.setIfInBounds p v) a.tmps = a.tmps.setIfInBounds p0 v := by simp
      rw [e];exact s1
    refine ⟨fn, _, assign, body, hy, roundIn_of_wpIn trivial ?_⟩;refine wpIn_mono (hassign s v hi (w.heap.size + 1) W ns hns (HRep.base hh.cells hns hnn) _ _ rep0) fun e a1 W1 ⟨he, s1, r1, hmid⟩ => ?_;subst he;have hl1 : W1.heap[w.heap.size + 1]? = some (.loop (rec .ready none)) := (r1.rh.keeps.block _ (Array.getElem?_eq_some_iff.1 hl).1 lNs).trans hl;have hlt1 := (Array.getElem?_eq_some_iff.1 hl1).1;refine ⟨_, run_beginRound hl1 (by rw [hrec]), ?_⟩;obtain ⟨W2, hW2⟩ : ∃ W2, W1.putObj (w.heap.size + 1) (.loop { rec .ready none with state := .busy }) = W2 := ⟨_, rfl⟩;rw [hW2];obtain ⟨n1, hn1⟩ : ∃ n1, s1.hp.map (·.n) = n1 := ⟨_, rfl⟩;have hnn1 : n1.Nodup := by rw [← hn1]; exact r1.rh.nodup
    have own1 : ∀ n ∈ n1, W.heap.size ≤ n ∨ n ∈ ns := fun n hn => by
      rw [← hn1] at hn;obtain ⟨b, hb, rfl⟩ := List.mem_map.1 hn;exact r1.rh.own b hb
    have lN1 : w.heap.size + 1 ∉ n1 := fun h => by
      rcases own1 _ h with h1 | h1
      · omega
      · exact lNs h1
    have ne1 : ∀ b ∈ s1.hp, b.n ≠ w.heap.size + 1 := fun b hb e => lN1 (e ▸ (by rw [← hn1]; exact List.mem_map.2 ⟨b, hb, rfl⟩));have hc2 : ∀ b ∈ s1.hp, BlkOk W2 b := fun b hb => by
      refine (r1.rh.cells b hb).of_heap ?_;rw [← hW2];exact World.putObj_heap_other (ne1 b hb)
    have hl2 : W2.heap[w.heap.size + 1]? = some (.loop { rec .ready none with state := .busy }) := by rw [← hW2]; exact World.putObj_heap_same hlt1
    have rep2 : Rep ⟨C.P, W2, C.N, n1, [], []⟩ s1 a1 W2 := ⟨r1.rs, HRep.base hc2 hn1 hnn1⟩;refine wpIn_mono (hbody s v hi s1 hmid (w.heap.size + 1) W2 n1 hn1 (HRep.base hc2 hn1 hnn1) _ _ rep2) fun e a3 W3 ⟨he, s3, r3, s', Rr, hst, hs3⟩ => ?_;subst he;have hl3 : W3.heap[w.heap.size + 1]? = some (.loop { rec .ready none with state := .busy }) := (r3.rh.keeps.block _ (Array.getElem?_eq_some_iff.1 hl2).1 lN1).trans hl2;have hend := run_endRound (P := C.P) none hl3;refine ⟨_, _, hend, rfl, ?_⟩;have hlt3 := (Array.getElem?_eq_some_iff.1 hl3).1;have sz12 : W1.heap.size = W2.heap.size := by rw [← hW2]; simp [World.putObj]
    have own3 : ∀ b ∈ hpF s', W.heap.size ≤ b.n ∨ b.n ∈ ns := fun b hb => by
      rcases r3.rh.own b (hs3.mem_iff.2 (List.mem_append_left _ hb)) with h1 | h1
      · have := r1.rh.keeps.size
        simp only at h1 this;exact .inl oM
      · exact own1 _ h1
    have ne3 : ∀ b ∈ hpF s', b.n ≠ w.heap.size + 1 := fun b hb e => by
      rcases own3 b hb with h1 | h1
      · omega
      · exact lNs (e ▸ h1)
    rw [hns];have hnd3 : ((hpF s').map (·.n)).Nodup := by
      have := (hs3.map (·.n)).nodup_iff.1 r3.rh.nodup;rw [List.map_append, List.nodup_append] at this;exact this.1
    refine ⟨s', hst, ?_, fun b hb => ?_, hnd3, own3⟩
    · have k2 := r1.rh.keeps
      have k3 := r3.rh.keeps;have os2 : W2.os = W1.os := by rw [← hW2]; rfl
      have tp2 : W2.tape = W1.tape := by rw [← hW2]; rfl
      have ot2 : W2.output = W1.output := by rw [← hW2]; rfl
      refine ⟨k3.os.trans (os2.trans k2.os), k3.tape.trans (tp2.trans k2.tape), k3.output.trans (ot2.trans k2.output), ?_, fun j hj hjn => ?_⟩
      · have h2 := k2.size
        have h3 := k3.size;simp only [World.putObj, Array.size_setIfInBounds];simp only at h2 h3;omega
      · by_cases hjl : j = w.heap.size + 1
        · subst hjl
          rw [hl];refine (World.putObj_heap_same hlt3).trans ?_;rw [hrec];rfl
        · refine (World.putObj_heap_other hjl).trans ?_
          have h2 := k2.size;simp only at h2 hj;have hj1 : j ∉ n1 := fun h => by
            rcases own1 _ h with h3 | h3
            · omega
            · exact hjn h3
          refine (k3.block j (by simp only; omega) hj1).trans ?_;simp only;rw [← hW2];refine (World.putObj_heap_other hjl).trans ?_;exact k2.block j hj hjn
    · refine BlkOk.of_heap (r3.rh.cells b (hs3.mem_iff.2 (List.mem_append_left _ hb))) ?_
      exact World.putObj_heap_other (ne3 b hb)
  · -- behind the iterator
    rintro e W ⟨⟨v, rfl⟩, s, hsd, hh⟩;have hl : W.heap[w.heap.size + 1]? = some (.loop (rec .ready none)) := (hh.keeps.block _ (by show _ < w1.heap.size; omega) lN).trans hL1;have hd : W.heap[w.heap.size]? = some (.deferred (some [])) := (hh.keeps.block _ (by simp only; omega) dN).trans hK1;have ne4 : ∀ b ∈ hpF s, ∀ k, k = w.heap.size ∨ k = w.heap.size + 1 → b.n ≠ k := fun b hb k hk e => by
      have := hh.own b hb;simp only at this;rcases this with h1 | h1
      · omega
      · have := hlt _ h1; omega
    refine ⟨none, _, by have := run_endLoop (P := C.P) hl (by rw [hrec]; simp); rw [hrec] at this; exact this, ?_⟩;have kw := hrep.rh.keeps;refine hdone s hsd w.heap.size _ ⟨fun b hb => (hh.cells b hb).of_heap (World.putObj_heap_other (ne4 b hb _ (.inr rfl))), hh.nodup, fun b hb => ?_, ?_, by rw [hkb]; exact fun _ h => (by cases h), by rw [hkb]; exact fun _ _ _ h => (by cases h)⟩
      ((World.putObj_heap_other oM).trans hd) kw.size (fun b hb => ne4 b hb _ (.inl rfl))
    · have h0 := hh.own b hb
      simp only at h0;rcases h0 with h1 | h1
      · have := kw.size
        exact .inl oM
      · rw [← hnames] at h1
        obtain ⟨b0, hb0, e⟩ := List.mem_map.1 h1;rw [← e];exact hrep.rh.own b0 hb0
    · have k1 := hh.keeps
      have osw : w1.os = w.os ∧ w1.tape = w.tape ∧ w1.output = w.output := by rw [← hw1]; exact ⟨rfl, rfl, rfl⟩
      refine ⟨k1.os.trans (osw.1.trans kw.os), k1.tape.trans (osw.2.1.trans kw.tape), k1.output.trans (osw.2.2.trans kw.output), ?_, fun j hj hjn => ?_⟩
      · have h1 := k1.size
        have h2 := kw.size;simp only [World.putObj, Array.size_setIfInBounds];simp only at h1;omega
      · have h2 := kw.size
        have hjN : j ∉ names := fun h => by
          rw [← hnames] at h;obtain ⟨b0, hb0, e⟩ := List.mem_map.1 h;rcases hrep.rh.own b0 hb0 with h3 | h3
          · omega
          · exact hjn (e ▸ h3)
        refine (World.putObj_heap_other oM).trans ?_;exact (k1.block j (by simp only; omega) hjN).trans ((hold j oM).trans (kw.block j hj hjn))
def RangeStR (P : Program) (W : World) (lent : List Nat) (N : Nat) (fn : Func) (g : Operand) (p0 : Tmp) (assign body tail : Code) (R : Value → List Blk → Prop) (s : St) : Prop :=
  ∃ (gf : Nat) (lb : Array Value) (σ : Type) (hpF : σ → List Blk) (s0 : σ) (names : List Nat) (Ok : σ → Value → Prop) (Step : σ → Value → σ → Prop) (Done : σ → Prop) (Mid : List (Nat × Value) → σ → Value → St → Prop), s.hp = hpF s0 ∧ Af s.sl g = some (.func (.func gf) #[] lb) ∧ Av P gf ∧ p0 < N ∧ (hpF s0).map (·.n) = names ∧
    (∀ (l : Nat) (w1 : World), Keeps lent W w1 → HRep ⟨P, w1, 0, names, [], []⟩ (hpF s0) w1 →
      (∀ s v, Ok s v → ∀ W, HRep ⟨P, w1, 0, names, [], []⟩ (hpF s) W → YieldAt Fence.wide 0 P l #[v] W fun e W' => e = .returned (.bool true) ∧ ∃ s', Step s v s' ∧ Ret ((hpF s).map (·.n)) (hpF s') W W') →
      CallsIn Fence.wide 0 P gf (#[.func (.yield l) #[] #[]] ++ lb) w1 fun e W' => (∃ v, e = .returned v) ∧ ∃ s, Done s ∧ HRep ⟨P, w1, 0, names, [], []⟩ (hpF s) W') ∧
    (∀ t v, Ok t v → ∀ l W ns, (hpF t).map (·.n) = ns → HRep ⟨P, W, N, ns, [], []⟩ (hpF t) W → SatI (some l) ⟨P, W, N, ns, [], []⟩ assign ⟨(p0, v) :: s.sl, hpF t⟩ (Mid s.sl t v)) ∧
    (∀ t v, Ok t v → ∀ st, Mid s.sl t v st → ∀ l W ns, st.hp.map (·.n) = ns → HRep ⟨P, W, N, ns, [], []⟩ st.hp W → SatI (some l) ⟨P, W, N, ns, [], []⟩ body st (fun st' => ∃ t' R, Step t v t' ∧ st'.hp.Perm (hpF t' ++ R))) ∧
    (∀ t, Done t → ∀ D W2 ns, (hpF t).map (·.n) = ns → Sat ⟨P, W2, N, ns, [], [{ target := .collected D, args := #[] }]⟩ tail ⟨s.sl, hpF t⟩ (endQA P N [{ target := .collected D, args := #[] }] fn R))

theorem calls_rangeR {P : Program} {f : FuncId} {fn : Func} {R0 R1 assign body tail : Code} {id : Nat} {g : Operand} {p0 : Tmp} {args : List Value} {W : World} {R : Value → List Blk → Prop} {lent : List Nat} {hp0 : List Blk}
    (hf : P.funcs[f]? = some fn) (hb : fn.body = some (.seq R0 (.seq (.seq R1 (.block id (.rangeFunc g #[p0] assign body))) tail))) (N : Nat) (hN : fn.ntmps = N) (hlen : Nat.ble args.length N = true) (hH : HRep ⟨P, W, N, lent, [], []⟩ hp0 W)
    (h : Sat ⟨P, W, N, lent, [], []⟩ R0 ⟨argSlots 0 args, hp0⟩ (thenQ (fun s' => Sat ⟨P, W, N, lent, [], []⟩ R1 s' (thenQ (RangeStR P W lent N fn g p0 assign body tail R) (fun _ _ => False))) (fun _ _ => False))) :
    Calls P f args.toArray W fun e W' => ∃ v out, e = .returned v ∧ R v out ∧ Ret lent out W W' := by
  have hlen := Nat.le_of_ble_eq_true hlen;subst hN;refine callsIn_wide.1 (callsIn_of_wp_marks (F := Fence.wide) (n := 0) hf hb trivial ?_);have rep0 : Rep ⟨P, W, fn.ntmps, lent, [], []⟩ ⟨argSlots 0 args, hp0⟩ { tmps := args.toArray ++ Array.replicate (fn.ntmps - args.toArray.size) undef, defers := [] } W := by
    refine ⟨⟨?_, rfl, fun t v ht => ?_⟩, hH⟩
    · simp; omega
    · have := argSlots_look args 0 t v ht
      rw [Array.getElem?_append];have hlt : t < args.length := by
        rcases Nat.lt_or_ge t args.length with h1 | h1
        · exact h1
        · rw [List.getElem?_eq_none oM] at this; cases this.2
      simp only [List.size_toArray];rw [if_pos hlt];simpa using this.2
  refine wpIn_seq (wpIn_wide.2 (wp_mono (h _ _ rep0) fun e a w ⟨s, r, q⟩ => ?_));cases e with
  | normal =>
    refine wpIn_seq (wpIn_seq (wpIn_wide.2 (wp_mono (q a w r) fun e a1 w1 ⟨s1, r1, q1⟩ => ?_)));cases e with
    | normal =>
      obtain ⟨gf, lb, σ, hpF, t0, names, Ok, Step, Done, Mid, hs, hg, eg, hp0, hnames, iter, hassign, hbody, htail⟩ := q1;obtain ⟨sl, hp⟩ := s1;simp only at hs hg hassign htail;subst hs;refine wpIn_block (wpIn_rangeR (C := ⟨P, W, fn.ntmps, lent, [], []⟩) hpF t0 names Ok Step Done (Mid sl) r1 rfl hg eg hp0 hnames iter hassign hbody fun t hdn D W2 hh hD hDl hDn => ?_);obtain ⟨ns, hns⟩ : ∃ ns, (hpF t).map (·.n) = ns := ⟨_, rfl⟩;refine wpIn_wide.2 ?_;have hnd : ns.Nodup := by rw [← hns]; exact hh.nodup
      have hDns : D ∉ ns := fun h => by rw [← hns] at h; obtain ⟨b, hb, e⟩ := List.mem_map.1 h; exact hDn b hb e
      have rep2 : Rep ⟨P, W2, fn.ntmps, ns, [], [{ target := .collected D, args := #[] }]⟩ ⟨sl, hpF t⟩ { a1 with defers := { target := .collected D, args := #[] } :: a1.defers } W2 := by
        refine ⟨⟨r1.rs.size, ?_, r1.rs.slots⟩, hh.cells, hh.nodup, fun b hb => .inr ?_, Keeps.refl _ _, fun _ h => (by cases h), fun _ _ _ h => (by cases h)⟩
        · show _ :: a1.defers = _
          rw [r1.rs.defers]
        · show b.n ∈ ns
          rw [← hns]; exact List.mem_map.2 ⟨b, hb, rfl⟩
      refine wp_mono (htail t hdn D W2 ns hns _ _ rep2) fun e a3 W3 ⟨s3, r3, q3⟩ => ?_;have own : ∀ b : Blk, (W2.heap.size ≤ b.n ∨ b.n ∈ ns) → W.heap.size ≤ b.n ∨ b.n ∈ lent := fun b hb => by
        rcases hb with h1 | h1
        · exact .inl (Nat.le_trans hh.keeps.size h1)
        · rw [← hns] at h1
          obtain ⟨b0, hb0, e⟩ := List.mem_map.1 h1;rw [← e]; exact hh.own b0 hb0
      have fin : endAtA P fn.ntmps [{ target := .collected D, args := #[] }] fn R s3 → LeavesInM Fence.wide 0 P fn a3.tmps (fun e W' => ∃ v out, e = .returned v ∧ R v out ∧ Ret lent out W W') a3.defers .returning W3 := by
        rintro ⟨v, out, hr, hsub, hnd3, hR⟩;have hd3 : a3.defers = [{ target := .collected D, args := #[] }] := r3.rs.defers;rw [hd3];have hD3 : W3.heap[D]? = some (.deferred (some [])) := (r3.rh.keeps.block D (Array.getElem?_eq_some_iff.1 hD).1 hDns).trans hD;refine ⟨by simp, .inl ⟨D, _, rfl, run_takeDeferred hD3, ?_⟩⟩;have hDout : ∀ b ∈ s3.hp, b.n ≠ D := fun b hb e => by
          have := (r3.rh.cells b hb).noDef (some []);rw [e, hD3] at this;exact this rfl
        have rep4 : Rep ⟨P, W3.putObj D (.deferred none), fn.ntmps, s3.hp.map (·.n), [], [{ target := .collected D, args := #[] }]⟩ s3 a3 (W3.putObj D (.deferred none)) :=
          ⟨⟨r3.rs.size, r3.rs.defers, r3.rs.slots⟩, fun b hb => (r3.rh.cells b hb).of_heap (World.putObj_heap_other (hDout b hb)), r3.rh.nodup, fun b hb => .inr (List.mem_map.2 ⟨b, hb, rfl⟩), Keeps.refl _ _, fun _ h => (by cases h), fun _ _ _ h => (by cases h)⟩
        refine ⟨v, ?_, v, out, rfl, hR, ⟨?_, fun b hb => rep4.rh.cells b (hsub b hb), hnd3 r3.rh.nodup, fun b hb => own b (r3.rh.own b (hsub b hb))⟩⟩
        · exact hr _ _ _ _ rep4
        · have k1 := hh.keeps
          have k2 := r3.rh.keeps;refine ⟨k2.os.trans k1.os, k2.tape.trans k1.tape, k2.output.trans k1.output, ?_, fun j hj hjn => ?_⟩
          · have h1 := k1.size
            have h2 := k2.size;simp only [World.putObj, Array.size_setIfInBounds];simp only at h1 h2;omega
          · simp only at hDl
            refine (World.putObj_heap_other oM).trans ?_;have h1 := k1.size;simp only at h1;refine (k2.block j (by simp only; omega) (fun hjn2 => ?_)).trans (k1.block j hj hjn);have := own ⟨j, [], 0, 0⟩ (.inr hjn2);simp only at this;rcases this with h5 | h5
            · omega
            · exact hjn h5
      cases e with
      | normal => exact fin q3
      | ret => exact fin q3
      | _ => exact q3.elim
    | _ => exact q1.elim
  | _ => exact q.elim
theorem endA_perm {P : Program} {N : Nat} {ds : List Deferred} {fn : Func} {R : Value → List Blk → Prop} {s : St} {v : Value} {out K : List Blk} (hr : ∀ W names, Res ⟨P, W, N, names, [], ds⟩ fn s v) (hp : s.hp.Perm (out ++ K)) (h : R v out) : endAtA P N ds fn R s :=
  ⟨v, out, hr, fun b hb => hp.symm.subset (List.mem_append_left _ hb), fun hn => by
    have := (hp.map (·.n)).nodup_iff.1 hn;rw [List.map_append, List.nodup_append] at this;exact this.1, h⟩
end Hw
end

section
namespace Hw
open Go Go.RowKit

theorem wf_u8 (x : UInt8) : (Lit.int .u8 (x.toNat : Int)).wf = true := by
  have := x.toNat_lt;simp only [Lit.wf, IntKind.min, IntKind.max, IntKind.signed, IntKind.bits, Bool.and_eq_true, decide_eq_true_eq];simp;omega
theorem wf_u64 (x : UInt64) : (Lit.int .u64 (x.toNat : Int)).wf = true := by
  have := x.toNat_lt;simp only [Lit.wf, IntKind.min, IntKind.max, IntKind.signed, IntKind.bits, Bool.and_eq_true, decide_eq_true_eq];simp;omega
theorem lits_u8 {P : Program} {e : TypeId} (he : P.underlying e = some (.int .u8)) (D : Nat) (l : List UInt8) : ∀ L : List Nat, (∀ i ∈ L, i < l.length) → ∃ ls, (L.mapM fun i => P.keyLits (D + 1) e (((Aa l).drop (i * 1)).take 1)) = some ls
  | [], _ => ⟨[], rfl⟩
  | i :: L, h => by
    obtain ⟨ls, hls⟩ := lits_u8 he D l L fun j hj => h j (List.mem_cons_of_mem _ hj);have hi := h i List.mem_cons_self;have e1 : ((Aa l).drop (i * 1)).take 1 = [u8 l[i]] := by
      have hi2 : i < (Aa l).length := by rw [Aa, List.length_map]; exact hi
      rw [Nat.mul_one, List.drop_eq_getElem_cons hi2];simp [Aa]
    refine ⟨[.int .u8 (l[i].toNat : Int)] :: ls, ?_⟩;rw [List.mapM_cons, hls, e1];simp [Program.keyLits, he, u8, wf_u8]
theorem keyLits_arr {P : Program} {k e : TypeId} {n : Nat} (A : WideMaps.ArrKey P k e n) (he : P.underlying e = some (.int .u8)) (D : Nat) {l : List UInt8} (hl : l.length = n) : ∃ ls, P.keyLits (D + 2) k (Aa l) = some ls := by
  obtain ⟨ls, h⟩ := lits_u8 he D l (List.range n) fun i hi => by rw [hl]; exact List.mem_range.1 hi
  refine ⟨ls.flatten, ?_⟩;unfold Program.keyLits;simp only [A.hu];rw [if_pos (by rw [A.size, Aa, List.length_map, hl]), A.one, h];rfl
theorem keyOf_arr {P : Program} {k e : TypeId} {n : Nat} (A : WideMaps.ArrKey P k e n) (he : P.underlying e = some (.int .u8)) (hsz : ∃ m, P.types.size = m + 1) {l : List UInt8} (hl : l.length = n) : ∃ x, keyOf P k (agg (Aa l)) = some x := by
  have hkt := A.keyType hsz;obtain ⟨m, hm⟩ := hsz;obtain ⟨ls, h⟩ := keyLits_arr A he m hl;refine ⟨.string (keyBytes ls), ?_⟩;unfold keyOf;simp only [A.hu];rw [if_pos (by simp [hkt, Value.formed, A.hu, A.size, hl, Aa, agg]), hm];simp only [agg, Value.cells];simp [h]
theorem bytesV_inj2 : ∀ {a b : List UInt8}, Aa a = Aa b → a = b
  | [], [], _ => rfl
  | [], y :: b, h => by simp [Aa] at h
  | x :: a, [], h => by simp [Aa] at h
  | x :: a, y :: b, h => by
    have h1 : u8 x = u8 y ∧ Aa a = Aa b := by simpa [Aa] using h
    have e := h1.1;simp only [u8, Value.int.injEq, true_and] at e;rw [UInt8.toNat_inj.1 (by omega : x.toNat = y.toNat), bytesV_inj2 h1.2]
theorem agg_bytes_inj {a b : List UInt8} (h : agg (Aa a) = agg (Aa b)) : a = b := by
  have h1 : Aa a = Aa b := by
    simp only [agg, Value.agg.injEq] at h;simpa using congrArg Array.toList h
  exact bytesV_inj2 h1
def As {ν : Type} (n : Nat) (ev : ν → Value) : MTy (List UInt8) ν := ⟨fun l => agg (Aa l), ev, fun l => l.length = n⟩
theorem bytesT_ok {P : Program} {T k e E : TypeId} {n : Nat} {ν : Type} (ev : ν → Value) {z : Value} (hu : P.underlying T = some (.map k E)) (A : WideMaps.ArrKey P k e n) (he : P.underlying e = some (.int .u8)) (hsz : ∃ m, P.types.size = m + 1) (K : Maps.Keyed P k) (hz : ∀ w, (zeroValue E).run P w = .ok z w) :
    MOk P T k E (As n ev) z := ⟨hu, K, fun a ha => keyOf_arr A he hsz ha, fun a b _ _ h => agg_bytes_inj h, hz⟩
end Hw
end

section
namespace Hw
open Go Go.RowKit
section
variable {C : Cx} {fn : Func} {s : St}
end

def AccO (s : Sl) (bl : List Blk) (cells : List Value) (E : TypeId) (n : Nat) : Prop :=
  (s = Sl.nil ∧ bl = [] ∧ cells = [] ∧ n = 0) ∨ ∃ q o c m pre post, s = ⟨some ⟨q, o, none⟩, n, c⟩ ∧ n ≤ c ∧ cells.length = n ∧ pre.length = o ∧ (post = [] ∨ n = c) ∧ o + c ≤ m ∧ bl = [⟨q, pre ++ cells ++ post, E, m⟩]
section
variable {s : Sl} {bl : List Blk} {cells : List Value} {E : TypeId} {n : Nat}
theorem AccO.none : AccO Sl.nil [] [] E 0 := .inl ⟨rfl, rfl, rfl, rfl⟩
theorem AccO.num (h : AccO s bl cells E n) : s.n = n := by rcases h with ⟨rfl, _, _, rfl⟩ | ⟨q, o, c, m, pre, post, rfl, _⟩ <;> rfl
theorem AccO.cap (h : AccO s bl cells E n) : s.n ≤ s.c := by rcases h with ⟨rfl, _⟩ | ⟨q, o, c, m, pre, post, rfl, h, _⟩; exact Nat.le_refl _; exact h
theorem AccO.nilc (h : AccO s bl cells E n) (hp : s.p = .none) : s.c = 0 := by rcases h with ⟨rfl, _⟩ | ⟨q, o, c, m, pre, post, rfl, _⟩; rfl; cases hp
theorem AccO.see (h : AccO s bl cells E n) {w : World} (hw : Lies bl w) : SeesP w s.p cells := by
  rcases h with ⟨_, _, rfl, _⟩ | ⟨q, o, c, m, pre, post, rfl, _, h3, h4, _, _, rfl⟩
  · exact SeesP.nil
  · refine SeesP.of fun j v hj => ?_
    refine (hw _ (List.mem_singleton.2 rfl)).cell (o := o + j) (v := v) ?_;show (pre ++ cells ++ post)[o + j]? = some v;have hlt := (List.getElem?_eq_some_iff.1 hj).1;rw [List.append_assoc, List.getElem?_append_right oM, h4, Nat.add_sub_cancel_left, List.getElem?_append_left hlt];exact hj
theorem Acc.off {c : Nat} (h : Acc s bl cells E n 1) : AccO s bl cells E n := by
  rcases h with ⟨rfl, rfl, rfl, rfl⟩ | ⟨q, c, rfl, h1, h2, rfl⟩
  · exact .inl ⟨rfl, rfl, rfl, rfl⟩
  · exact .inr ⟨q, 0, c, c * 1, [], [], rfl, h1, by omega, rfl, .inl rfl, by omega, by simp⟩
end
section
variable {C : Cx} {ops : Array Oper} {rest : List (Nat × Oper)} {sl : List (Nat × Value)} {hp hp' : List Blk} {Q : St → Prop} {c d : Nat} {ty : TypeId} {pos : String} {af : Array Edge} {g : Option (Nat × Bool)}
theorem Tr.appendO {x y : Operand} {s : Sl} {bl : List Blk} {n m by' c2 : Nat} {T tx E E2 : TypeId} {z : Value} {olds : List Value} {p : Option Addr} (news : List Value) (hg : Aj ops sl g = true) (hc : Nat.beq c 4 = true) (hd : Nat.blt d C.N = true)
    (hx : Af sl x = some s.v) (hy : Af sl y = some (.slice p m c2)) (hu : C.P.underlying T = some (.slice E)) (hut : C.P.underlying tx = some (.slice E2)) (hs : Sz C.P E 1) (hz : Zr C.P E z) (hb : By C.P E by') (hzc : z.cells.size = 1)
    (hacc : AccO s bl olds E n) (hp1 : hp.Perm (bl ++ hp')) (hsee : ∀ w, HRep C hp w → SeesP w p news) (hm0 : 0 < m) (hpn : p = none → m = 0) (hcell : ∀ u ∈ news, isCell u = true)
    (hbig : n + m ≤ 1000000) (hfit : (n + m) * by' ≤ 140737488355328) (hnl : news.length = m)
    (k : ∀ s' bl', AccO s' bl' (olds ++ news) E (n + m) → Tr C ops rest ⟨(d, s'.v) :: sl, bl' ++ hp'⟩ Q) :
    Tr C ops ((c, ⟨some d, .call { callee := .builtin .append, args := #[x, y], argTypes := #[T, tx] }, ty, pos, af, g⟩) :: rest) ⟨sl, hp⟩ Q := by
  rcases hacc with ⟨rfl, rfl, rfl, rfl⟩ | ⟨b, o, cap, cm, pre, post, rfl, hnc, hol, hpre, hpo, hcm, rfl⟩
  · exact Tr.appendAcc news hg hc hd hx hy hu hut hs hz hb hzc Acc.none hp1 hsee hpn hcell hbig hfit oM (fun s' bl' h => k s' bl' (Acc.off (c := 0) h))
  · refine Tr.act (ρ := Sl × List Blk) (fun r => AccO r.1 r.2 (olds ++ news) E (n + m)) (fun r => r.1.v) (fun r => r.2 ++ hp') (nbeq' hc) (Aw hg) (B0 (nblt hd))
      ⟨by simpa [Known, Op.operands, Call.operands] using known2 hx hy, fun a w hf hh => ?_⟩ (fun r hr => k r.1 r.2 hr)
    have h1 := hf x (by simp [Op.operands, Call.operands]); rw [hx] at h1;have h2 := hf y (by simp [Op.operands, Call.operands]); rw [hy] at h2;simp only [Option.some.injEq, Sl.v] at h1 h2;have hh' := hh.perm hp1;obtain ⟨full, fr, hbk⟩ := hh'.cells _ List.mem_cons_self;have hlt := (hh'.cells _ List.mem_cons_self).lt;have hsz := hs;unfold Sz at hs; unfold Zr at hz; unfold By at hb;cases hi : C.P.info? E with
    | none => rw [hi] at hs; simp at hs
    | some i =>
      rw [hi] at hs hz hb;simp only [Option.map_some, Option.some.injEq, Option.bind_some] at hs hz hb;have hS : Src C.P i.size tx (.slice p m c2) m news w := Src.ofP hut (hsee w hh) hpn (by rw [hs, hnl, Nat.mul_one]) hcell;unfold Oper.wp;rcases Nat.lt_or_ge cap (n + m) with hr | hr
      · have hold : (Builtin.firstCells i.size n (.slice (some ⟨b, o, none⟩) n cap)).run C.P w.drew = .ok olds.toArray w.drew := by
          refine run_firstCells_some w.drew i.size n ⟨b, o, none⟩ n cap olds (by rw [hs]; omega) (fun j u hj => ?_);rw [Br];refine (hh'.cells _ List.mem_cons_self).cell (o := o + j) (v := u) ?_;show (pre ++ olds ++ post)[o + j]? = some u;have hlt2 := (List.getElem?_eq_some_iff.1 hj).1;rw [List.append_assoc, List.getElem?_append_right oM, hpre, Nat.add_sub_cancel_left, List.getElem?_append_left hlt2];exact hj
        have hrun := run_append_grow_src (P := C.P) w T tx ty E i z hu hi hz (some ⟨b, o, none⟩) n cap olds hold _ m news hS hr oM (growslice_fits hr (by rw [hb]; exact hfit));have hge := grownCap_ge w (n + m) cap E;have hex : (execOp a.eval ⟨some d, .call { callee := .builtin .append, args := #[x, y], argTypes := #[T, tx] }, ty, pos, af, g⟩).run C.P w = .ok (.value (.slice (some ⟨w.heap.size, 0, none⟩) (n + m) (grownCap w (n + m) cap E))) (w.drew.alloc (.cells ((olds ++ news).toArray ++ Builtin.zeroCells z.cells (grownCap w (n + m) cap E - (n + m))) E)) := by
          simp [execOp, resolve, invoke, builtin, ← h1, ← h2, hrun]
        rw [hex];have hnd : (hp'.map (·.n)).Nodup := by
          have := hh'.nodup;simp only [List.cons_append, List.nil_append, List.map_cons, List.nodup_cons] at this;exact this.2
        refine ⟨(⟨some ⟨w.heap.size, 0, none⟩, n + m, grownCap w (n + m) cap E⟩, [⟨w.heap.size, olds ++ news, E, grownCap w (n + m) cap E⟩]), .inr ⟨w.heap.size, 0, grownCap w (n + m) cap E, grownCap w (n + m) cap E, [], [], rfl, hge, by simp [hol, hnl], rfl, .inl rfl, by omega, by simp⟩, rfl, ?_⟩;refine HRep.grown (out := [_]) (hh'.sub (fun x hx => List.mem_append_right _ hx) hnd) (Ret.pushD _ _ _ _ ?_ ?_)
        · have e : ∀ k, (Builtin.zeroCells z.cells k).size = k := fun k => by simp [Builtin.zeroCells, hzc]
          rw [Array.size_append, e, List.size_toArray, List.length_append];omega
        · simp
      · have hpo : post = [] := by
          rcases hpo with h | h
          · exact h
          · omega
        subst hpo;have hsz2 := hbk.size;simp only at hsz2;have hst := run_storeCells (P := C.P) (b := b) (o := o + n) news 0 w full hbk.heap oM (by rw [hbk.size]; exact hbk.free) hcell;simp only [Nat.add_zero] at hst;have hap : (Builtin.append_ #[T, tx] ty #[.slice (some ⟨b, o, none⟩) n cap, .slice p m c2]).run C.P w = .ok (.slice (some ⟨b, o, none⟩) (n + m) cap) (setBlk w b (B3 full (o + n) news) E fr) := by
          have hc1 : n * i.size = n := by rw [hs, Nat.mul_one]
          rcases hS.kind with ⟨e', hk⟩ | hk <;> simp [Builtin.append_, run_underlying hu, run_underlying hk, Go.sizeOf, typeInfo, hi, hS.len, hr, hS.cells, Br, hst, hc1]
        have hex : (execOp a.eval ⟨some d, .call { callee := .builtin .append, args := #[x, y], argTypes := #[T, tx] }, ty, pos, af, g⟩).run C.P w = .ok (.value (.slice (some ⟨b, o, none⟩) (n + m) cap)) (setBlk w b (B3 full (o + n) news) E fr) := by
          simp [execOp, resolve, invoke, builtin, ← h1, ← h2, hap]
        rw [hex];refine ⟨(⟨some ⟨b, o, none⟩, n + m, cap⟩, [⟨b, pre ++ (olds ++ news) ++ [], E, cm⟩]), .inr ⟨b, o, cap, cm, pre, [], rfl, hr, by simp [hol, hnl], hpre, .inl rfl, hcm, rfl⟩, rfl, ?_⟩;refine hh'.upd (.head (cs := pre ++ olds ++ [])) hlt (by rw [putAll_size]; exact hsz2) ?_ hbk.free;refine prefix_iff.2 fun j u hj => ?_;rw [Array.getElem?_toList, putAll_get _ _ _ _ oM];have hpl := hbk.pre;simp only [List.append_nil] at hj hpl;rcases Nat.lt_or_ge j (o + n) with hjn | hjn
        · rw [if_neg oM]
          rw [← List.append_assoc, List.getElem?_append_left (by simp [hpre, hol]; omega)] at hj;simpa using prefix_iff.1 hpl j u hj
        · rw [← List.append_assoc, List.getElem?_append_right (by simp [hpre, hol]; omega)] at hj
          have e : j - (pre ++ olds).length = j - (o + n) := by simp [hpre, hol]
          rw [e] at hj;have hlt3 : j - (o + n) < news.length := (List.getElem?_eq_some_iff.1 hj).1;rw [if_pos oM];exact hj
theorem Tr.extractB {x : Operand} {vs : Array Value} {i : Nat} {b : Bool} (hg : Aj ops sl g = true) (hk : okD c d C.N = true) (hx : Af sl x = some (.tuple vs)) (hv : vs[i]? = some (.bool b))
    (kt : b = true → Tr C ops rest ⟨(d, .bool true) :: sl, hp⟩ Q) (kf : b = false → Tr C ops rest ⟨(d, .bool false) :: sl, hp⟩ Q) : Tr C ops ((c, ⟨some d, .extract x i, ty, pos, af, g⟩) :: rest) ⟨sl, hp⟩ Q := by
  cases b
  · exact Tr.eX hg hk hx hv (kf rfl)
  · exact Tr.eX hg hk hx hv (kt rfl)
end
end Hw
end

section
namespace Go.Proofs.YtdilealohibfoaaGreat
open Go Hw
theorem Sz2 : Sz Tryz.prog 2 1 := by unfold Sz; kernel_rfl
theorem Sz3 : Sz Tryz.prog 3 1 := by unfold Sz; kernel_rfl
theorem Sz5 : Sz Tryz.prog 5 1 := by unfold Sz; kernel_rfl
theorem Zr5 : Zr Tryz.prog 5 (u8 0) := by unfold Zr; kernel_rfl
theorem Sz23 : Sz Tryz.prog 23 1 := by unfold Sz; kernel_rfl
theorem Sz24 : Sz Tryz.prog 24 32 := by unfold Sz; kernel_rfl
theorem Zr24 : Zr Tryz.prog 24 (agg (Aa (List.replicate 32 0))) := by unfold Zr; kernel_rfl
theorem Sz25 : Sz Tryz.prog 25 32 := by unfold Sz; kernel_rfl
theorem Cr : Zr Tryz.prog 25 (agg (Aa (List.replicate 32 0))) := by unfold Zr; kernel_rfl
theorem Sz26 : Sz Tryz.prog 26 1 := by unfold Sz; kernel_rfl
theorem Zr26 : Zr Tryz.prog 26 (.slice none 0 0) := by unfold Zr; kernel_rfl
theorem Sz28 : Sz Tryz.prog 28 34 := by unfold Sz; kernel_rfl
theorem Sz40 : Sz Tryz.prog 40 1 := by unfold Sz; kernel_rfl
theorem Sz43 : Sz Tryz.prog 43 32 := by unfold Sz; kernel_rfl
theorem Zr43 : Zr Tryz.prog 43 (agg (Aa (List.replicate 32 0))) := by unfold Zr; kernel_rfl
theorem Sz44 : Sz Tryz.prog 44 1 := by unfold Sz; kernel_rfl
theorem Zr44 : Zr Tryz.prog 44 (.slice none 0 0) := by unfold Zr; kernel_rfl
theorem Sz45 : Sz Tryz.prog 45 64 := by unfold Sz; kernel_rfl
theorem Zr45 : Zr Tryz.prog 45 (agg (Aa (List.replicate 64 0))) := by unfold Zr; kernel_rfl
theorem Sz46 : Sz Tryz.prog 46 64 := by unfold Sz; kernel_rfl
theorem Zr46 : Zr Tryz.prog 46 (agg (Aa (List.replicate 64 0))) := by unfold Zr; kernel_rfl
theorem Sz48 : Sz Tryz.prog 48 131 := by unfold Sz; kernel_rfl
theorem Sz135 : Sz Tryz.prog 135 1 := by unfold Sz; kernel_rfl
theorem Sz136 : Sz Tryz.prog 136 1 := by unfold Sz; kernel_rfl
theorem Sz137 : Sz Tryz.prog 137 1 := by unfold Sz; kernel_rfl
theorem Sz138 : Sz Tryz.prog 138 1 := by unfold Sz; kernel_rfl
theorem Sz139 : Sz Tryz.prog 139 1 := by unfold Sz; kernel_rfl
theorem Sz141 : Sz Tryz.prog 141 7 := by unfold Sz; kernel_rfl
theorem Sz159 : Sz Tryz.prog 159 0 := by unfold Sz; kernel_rfl
theorem Zr159 : Zr Tryz.prog 159 (agg []) := by unfold Zr; kernel_rfl
theorem Sz175 : Sz Tryz.prog 175 8 := by unfold Sz; kernel_rfl
theorem Zr175 : Zr Tryz.prog 175 (agg (Ae (List.replicate 8 0))) := by unfold Zr; kernel_rfl
theorem Sz192 : Sz Tryz.prog 192 132 := by unfold Sz; kernel_rfl
theorem Sz195 : Sz Tryz.prog 195 33 := by unfold Sz; kernel_rfl
theorem Sz213 : Sz Tryz.prog 213 128 := by unfold Sz; kernel_rfl
theorem Sz214 : Sz Tryz.prog 214 32 := by unfold Sz; kernel_rfl
theorem A5 : Zr Tryz.prog 214 (agg (Aa (List.replicate 32 0))) := by unfold Zr; kernel_rfl
theorem Sz217 : Sz Tryz.prog 217 64 := by unfold Sz; kernel_rfl
theorem Sz247 : Sz Tryz.prog 247 80 := by unfold Sz; kernel_rfl
theorem Zr247 : Zr Tryz.prog 247 (agg (Ae (List.replicate 80 0))) := by unfold Zr; kernel_rfl
theorem Sz255 : Sz Tryz.prog 255 4 := by unfold Sz; kernel_rfl
theorem Zr255 : Zr Tryz.prog 255 (agg (Ae (List.replicate 4 0))) := by unfold Zr; kernel_rfl
theorem Sz256 : Sz Tryz.prog 256 4 := by unfold Sz; kernel_rfl
theorem Zr256 : Zr Tryz.prog 256 (agg (Ae (List.replicate 4 0))) := by unfold Zr; kernel_rfl
theorem Sz268 : Sz Tryz.prog 268 128 := by unfold Sz; kernel_rfl
theorem Sz277 : Sz Tryz.prog 277 10 := by unfold Sz; kernel_rfl
theorem Zr277 : Zr Tryz.prog 277 (agg (Bw (List.replicate 10 0))) := by unfold Zr; kernel_rfl
theorem Sz280 : Sz Tryz.prog 280 30 := by unfold Sz; kernel_rfl
theorem Sz295 : Sz Tryz.prog 295 5 := by unfold Sz; kernel_rfl
theorem Zr295 : Zr Tryz.prog 295 (agg (Ae (List.replicate 5 0))) := by unfold Zr; kernel_rfl
theorem Zr310 : Zr Tryz.prog 310 (agg (Bw (List.replicate 64 0))) := by unfold Zr; kernel_rfl
theorem Sz314 : Sz Tryz.prog 314 2 := by unfold Sz; kernel_rfl
theorem Zr314 : Zr Tryz.prog 314 (agg ([u64 0] ++ [u64 0])) := by unfold Zr; kernel_rfl
theorem Body15 : Av Tryz.prog 15 := fun _ _ => zK
theorem Body16 : Av Tryz.prog 16 := fun _ _ => zK
theorem Body17 : Av Tryz.prog 17 := fun _ _ => zK
theorem Body18 : Av Tryz.prog 18 := fun _ _ => zK
theorem Body19 : Av Tryz.prog 19 := fun _ _ => zK
theorem Body20 : Av Tryz.prog 20 := fun _ _ => zK
theorem Body21 : Av Tryz.prog 21 := fun _ _ => zK
theorem Body22 : Av Tryz.prog 22 := fun _ _ => zK
theorem Body23 : Av Tryz.prog 23 := fun _ _ => zK
theorem Body24 : Av Tryz.prog 24 := fun _ _ => zK
theorem Body25 : Av Tryz.prog 25 := fun _ _ => zK
theorem Body26 : Av Tryz.prog 26 := fun _ _ => zK
theorem Body29 : Av Tryz.prog 29 := fun _ _ => zK
theorem Body36 : Av Tryz.prog 36 := fun _ _ => zK
theorem Body46 : Av Tryz.prog 46 := fun _ _ => zK
theorem Body47 : Av Tryz.prog 47 := fun _ _ => zK
theorem Body52 : Av Tryz.prog 52 := fun _ _ => zK
theorem Body65 : Av Tryz.prog 65 := fun _ _ => zK
theorem Body77 : Av Tryz.prog 77 := fun _ _ => zK
theorem Body78 : Av Tryz.prog 78 := fun _ _ => zK
theorem Body79 : Av Tryz.prog 79 := fun _ _ => zK
theorem Body80 : Av Tryz.prog 80 := fun _ _ => zK
theorem Body81 : Av Tryz.prog 81 := fun _ _ => zK
theorem Body82 : Av Tryz.prog 82 := fun _ _ => zK
theorem Body83 : Av Tryz.prog 83 := fun _ _ => zK
theorem Body84 : Av Tryz.prog 84 := fun _ _ => zK
theorem Body85 : Av Tryz.prog 85 := fun _ _ => zK
theorem Body86 : Av Tryz.prog 86 := fun _ _ => zK
theorem Body87 : Av Tryz.prog 87 := fun _ _ => zK
theorem Body88 : Av Tryz.prog 88 := fun _ _ => zK
theorem Body89 : Av Tryz.prog 89 := fun _ _ => zK
theorem Body96 : Av Tryz.prog 96 := fun _ _ => zK
theorem Body101 : Av Tryz.prog 101 := fun _ _ => zK
theorem Body106 : Av Tryz.prog 106 := fun _ _ => zK
theorem Body107 : Av Tryz.prog 107 := fun _ _ => zK
theorem Body108 : Av Tryz.prog 108 := fun _ _ => zK
theorem Body109 : Av Tryz.prog 109 := fun _ _ => zK
theorem Body110 : Av Tryz.prog 110 := fun _ _ => zK
theorem Body111 : Av Tryz.prog 111 := fun _ _ => zK
theorem Body112 : Av Tryz.prog 112 := fun _ _ => zK
theorem Body113 : Av Tryz.prog 113 := fun _ _ => zK
theorem Body114 : Av Tryz.prog 114 := fun _ _ => zK
theorem Body115 : Av Tryz.prog 115 := fun _ _ => zK
theorem Body131 : Av Tryz.prog 131 := fun _ _ => zK
theorem Body132 : Av Tryz.prog 132 := fun _ _ => zK
theorem Body133 : Av Tryz.prog 133 := fun _ _ => zK
theorem Body140 : Av Tryz.prog 140 := fun _ _ => zK
theorem Body141 : Av Tryz.prog 141 := fun _ _ => zK
theorem Body142 : Av Tryz.prog 142 := fun _ _ => zK
theorem Body145 : Av Tryz.prog 145 := fun _ _ => zK
theorem Body147 : Av Tryz.prog 147 := fun _ _ => zK
theorem Body148 : Av Tryz.prog 148 := fun _ _ => zK
theorem Body149 : Av Tryz.prog 149 := fun _ _ => zK
theorem Body150 : Av Tryz.prog 150 := fun _ _ => zK
theorem Body151 : Av Tryz.prog 151 := fun _ _ => zK
theorem Body152 : Av Tryz.prog 152 := fun _ _ => zK
theorem Body153 : Av Tryz.prog 153 := fun _ _ => zK
theorem Body154 : Av Tryz.prog 154 := fun _ _ => zK
theorem Body155 : Av Tryz.prog 155 := fun _ _ => zK
theorem Body156 : Av Tryz.prog 156 := fun _ _ => zK
theorem Body157 : Av Tryz.prog 157 := fun _ _ => zK
theorem Body158 : Av Tryz.prog 158 := fun _ _ => zK
theorem Body159 : Av Tryz.prog 159 := fun _ _ => zK
theorem Body160 : Av Tryz.prog 160 := fun _ _ => zK
theorem Body161 : Av Tryz.prog 161 := fun _ _ => zK
theorem Body162 : Av Tryz.prog 162 := fun _ _ => zK
theorem Body169 : Av Tryz.prog 169 := fun _ _ => zK
theorem Body171 : Av Tryz.prog 171 := fun _ _ => zK
theorem Body172 : Av Tryz.prog 172 := fun _ _ => zK
theorem Body173 : Av Tryz.prog 173 := fun _ _ => zK
theorem Body174 : Av Tryz.prog 174 := fun _ _ => zK
theorem Body175 : Av Tryz.prog 175 := fun _ _ => zK
theorem Body176 : Av Tryz.prog 176 := fun _ _ => zK
theorem Body183 : Av Tryz.prog 183 := fun _ _ => zK
theorem Body184 : Av Tryz.prog 184 := fun _ _ => zK
theorem Body188 : Av Tryz.prog 188 := fun _ _ => zK
theorem Body189 : Av Tryz.prog 189 := fun _ _ => zK
theorem Body190 : Av Tryz.prog 190 := fun _ _ => zK
theorem Body191 : Av Tryz.prog 191 := fun _ _ => zK
theorem Body192 : Av Tryz.prog 192 := fun _ _ => zK
theorem Body193 : Av Tryz.prog 193 := fun _ _ => zK
theorem Body194 : Av Tryz.prog 194 := fun _ _ => zK
theorem Body195 : Av Tryz.prog 195 := fun _ _ => zK
theorem Body196 : Av Tryz.prog 196 := fun _ _ => zK
theorem Body197 : Av Tryz.prog 197 := fun _ _ => zK
theorem Body198 : Av Tryz.prog 198 := fun _ _ => zK
theorem Body201 : Av Tryz.prog 201 := fun _ _ => zK
theorem Body202 : Av Tryz.prog 202 := fun _ _ => zK
theorem Body203 : Av Tryz.prog 203 := fun _ _ => zK
theorem Body204 : Av Tryz.prog 204 := fun _ _ => zK
theorem Body205 : Av Tryz.prog 205 := fun _ _ => zK
theorem Body206 : Av Tryz.prog 206 := fun _ _ => zK
theorem Body207 : Av Tryz.prog 207 := fun _ _ => zK
theorem Body208 : Av Tryz.prog 208 := fun _ _ => zK
theorem Body211 : Av Tryz.prog 211 := fun _ _ => zK
theorem Body212 : Av Tryz.prog 212 := fun _ _ => zK
theorem Body213 : Av Tryz.prog 213 := fun _ _ => zK
theorem Body217 : Av Tryz.prog 217 := fun _ _ => zK
theorem Body218 : Av Tryz.prog 218 := fun _ _ => zK
theorem Body228 : Av Tryz.prog 228 := fun _ _ => zK
theorem Body229 : Av Tryz.prog 229 := fun _ _ => zK
theorem Body230 : Av Tryz.prog 230 := fun _ _ => zK
theorem Body231 : Av Tryz.prog 231 := fun _ _ => zK
theorem Body232 : Av Tryz.prog 232 := fun _ _ => zK
theorem Body233 : Av Tryz.prog 233 := fun _ _ => zK
theorem Body234 : Av Tryz.prog 234 := fun _ _ => zK
theorem Body235 : Av Tryz.prog 235 := fun _ _ => zK
theorem Body236 : Av Tryz.prog 236 := fun _ _ => zK
theorem Body237 : Av Tryz.prog 237 := fun _ _ => zK
theorem Body238 : Av Tryz.prog 238 := fun _ _ => zK
theorem Body239 : Av Tryz.prog 239 := fun _ _ => zK
theorem Body240 : Av Tryz.prog 240 := fun _ _ => zK
theorem Body241 : Av Tryz.prog 241 := fun _ _ => zK
theorem Body242 : Av Tryz.prog 242 := fun _ _ => zK
theorem Body243 : Av Tryz.prog 243 := fun _ _ => zK
theorem Body244 : Av Tryz.prog 244 := fun _ _ => zK
theorem Body245 : Av Tryz.prog 245 := fun _ _ => zK
theorem B6 : Av Tryz.prog 246 := fun _ _ => zK
theorem Body247 : Av Tryz.prog 247 := fun _ _ => zK
theorem Body248 : Av Tryz.prog 248 := fun _ _ => zK
theorem Body249 : Av Tryz.prog 249 := fun _ _ => zK
theorem Body250 : Av Tryz.prog 250 := fun _ _ => zK
theorem Body251 : Av Tryz.prog 251 := fun _ _ => zK
theorem Body252 : Av Tryz.prog 252 := fun _ _ => zK
theorem Body253 : Av Tryz.prog 253 := fun _ _ => zK
theorem Body254 : Av Tryz.prog 254 := fun _ _ => zK
theorem Body255 : Av Tryz.prog 255 := fun _ _ => zK
theorem Body256 : Av Tryz.prog 256 := fun _ _ => zK
theorem Body257 : Av Tryz.prog 257 := fun _ _ => zK
theorem Body258 : Av Tryz.prog 258 := fun _ _ => zK
theorem Body259 : Av Tryz.prog 259 := fun _ _ => zK
theorem Body260 : Av Tryz.prog 260 := fun _ _ => zK
theorem Body261 : Av Tryz.prog 261 := fun _ _ => zK
theorem Body262 : Av Tryz.prog 262 := fun _ _ => zK
theorem Body263 : Av Tryz.prog 263 := fun _ _ => zK
theorem Body264 : Av Tryz.prog 264 := fun _ _ => zK
theorem Body265 : Av Tryz.prog 265 := fun _ _ => zK
theorem Body266 : Av Tryz.prog 266 := fun _ _ => zK
theorem Body267 : Av Tryz.prog 267 := fun _ _ => zK
theorem Body268 : Av Tryz.prog 268 := fun _ _ => zK
theorem Body269 : Av Tryz.prog 269 := fun _ _ => zK
theorem Body270 : Av Tryz.prog 270 := fun _ _ => zK
theorem Body271 : Av Tryz.prog 271 := fun _ _ => zK
theorem Body272 : Av Tryz.prog 272 := fun _ _ => zK
theorem Body273 : Av Tryz.prog 273 := fun _ _ => zK
theorem Body274 : Av Tryz.prog 274 := fun _ _ => zK
theorem Body275 : Av Tryz.prog 275 := fun _ _ => zK
theorem Body276 : Av Tryz.prog 276 := fun _ _ => zK
theorem Body277 : Av Tryz.prog 277 := fun _ _ => zK
theorem Body278 : Av Tryz.prog 278 := fun _ _ => zK
theorem Body279 : Av Tryz.prog 279 := fun _ _ => zK
theorem Body280 : Av Tryz.prog 280 := fun _ _ => zK
theorem Body281 : Av Tryz.prog 281 := fun _ _ => zK
theorem Body287 : Av Tryz.prog 287 := fun _ _ => zK
theorem Body288 : Av Tryz.prog 288 := fun _ _ => zK
theorem Body289 : Av Tryz.prog 289 := fun _ _ => zK
theorem Body290 : Av Tryz.prog 290 := fun _ _ => zK
theorem Body291 : Av Tryz.prog 291 := fun _ _ => zK
theorem Body292 : Av Tryz.prog 292 := fun _ _ => zK
theorem Body293 : Av Tryz.prog 293 := fun _ _ => zK
theorem Body294 : Av Tryz.prog 294 := fun _ _ => zK
theorem Body295 : Av Tryz.prog 295 := fun _ _ => zK
theorem Body296 : Av Tryz.prog 296 := fun _ _ => zK
theorem Body297 : Av Tryz.prog 297 := fun _ _ => zK
theorem Body298 : Av Tryz.prog 298 := fun _ _ => zK
theorem Body299 : Av Tryz.prog 299 := fun _ _ => zK
theorem Body300 : Av Tryz.prog 300 := fun _ _ => zK
theorem Body301 : Av Tryz.prog 301 := fun _ _ => zK
theorem Body302 : Av Tryz.prog 302 := fun _ _ => zK
theorem Body303 : Av Tryz.prog 303 := fun _ _ => zK
theorem Body304 : Av Tryz.prog 304 := fun _ _ => zK
theorem Body305 : Av Tryz.prog 305 := fun _ _ => zK
theorem Body306 : Av Tryz.prog 306 := fun _ _ => zK
theorem Body307 : Av Tryz.prog 307 := fun _ _ => zK
theorem Body308 : Av Tryz.prog 308 := fun _ _ => zK
theorem Body309 : Av Tryz.prog 309 := fun _ _ => zK
theorem Body310 : Av Tryz.prog 310 := fun _ _ => zK
theorem Body311 : Av Tryz.prog 311 := fun _ _ => zK
theorem Body312 : Av Tryz.prog 312 := fun _ _ => zK
theorem Body313 : Av Tryz.prog 313 := fun _ _ => zK
theorem Body314 : Av Tryz.prog 314 := fun _ _ => zK
theorem Body316 : Av Tryz.prog 316 := fun _ _ => zK
theorem Body317 : Av Tryz.prog 317 := fun _ _ => zK
theorem Cp : Av Tryz.prog 318 := fun _ _ => zK
theorem Body319 : Av Tryz.prog 319 := fun _ _ => zK
theorem Body320 : Av Tryz.prog 320 := fun _ _ => zK
theorem Body321 : Av Tryz.prog 321 := fun _ _ => zK
theorem Body322 : Av Tryz.prog 322 := fun _ _ => zK
theorem Body323 : Av Tryz.prog 323 := fun _ _ => zK
theorem Body324 : Av Tryz.prog 324 := fun _ _ => zK
theorem Body325 : Av Tryz.prog 325 := fun _ _ => zK
theorem Body326 : Av Tryz.prog 326 := fun _ _ => zK
theorem Ao : Tryz.prog.follows .mixedOrders = true := by kernel_rfl
end Go.Proofs.YtdilealohibfoaaGreat
end

section
namespace Hw
open Go Go.RowKit

theorem add8_eq (x y : UInt8) : IntKind.u8.wrap ((x.toNat : Int) + y.toNat) = ((x + y).toNat : Int) := by
  have := x.toNat_lt; have := y.toNat_lt;rw [IntKind.wrap_u8, UInt8.toNat_add]; omega
theorem res_none {C : Cx} {fn : Func} {s : St} (hr : fn.results = #[]) : Res C fn s (.tuple #[]) := by
  intro a w r;simp [results, hr]
section
variable {C : Cx} {ops : Array Oper} {rest : List (Nat × Oper)} {sl : List (Nat × Value)} {hp : List Blk} {Q : St → Prop} {c d : Nat} {ty : TypeId} {pos : String} {af : Array Edge} {g : Option (Nat × Bool)}
variable {xT yT : TypeId} {x y : Operand} {a b : Int} {p q : UInt8}
theorem Tr.add_u8 (hg : Aj ops sl g = true) (hk : okD c d C.N = true) (hx : Af sl x = some (u8 p)) (hy : Af sl y = some (u8 q))
    (k : Tr C ops rest ⟨(d, u8 (p + q)) :: sl, hp⟩ Q) : Tr C ops ((c, ⟨some d, .binOp .add xT x y yT, ty, pos, af, g⟩) :: rest) ⟨sl, hp⟩ Q :=
  .bin hg hk hx hy (fun w => by simp only [binOp, Op.intArith, add8_eq]; rfl) k
variable {lo hi : Operand} {o i0 len : Nat} {E : TypeId}
theorem Tr.sliceArrLH {kl kh : IntKind} {l h : Int} {bb : Nat} (i j : Nat) (hg : Aj ops sl g = true) (hk : okD c d C.N = true) (hx : Af sl x = some (ptr bb o)) (hlo : Af sl lo = some (.int kl l)) (hhi : Af sl hi = some (.int kh h)) (hi' : l = i) (hj : h = j) (hij : i ≤ j) (hjl : j ≤ len) (hil : i < len) (hu : C.P.underlying xT = some (.array len E)) {sz : Nat} (hs : Sz C.P E sz)
    (k : Tr C ops rest ⟨(d, .slice (some ⟨bb, o + i * sz, none⟩) (j - i) (len - i)) :: sl, hp⟩ Q) : Tr C ops ((c, ⟨some d, .slice xT x (some lo) (some hi) none, ty, pos, af, g⟩) :: rest) ⟨sl, hp⟩ Q :=
  .pv hg hk ⟨by simpa [Known, Op.operands] using known3 hx hlo hhi, fun ρ hfi w => by
    have h1 := hfi x (by simp [Op.operands]); rw [hx] at h1;have h2 := hfi lo (by simp [Op.operands]); rw [hlo] at h2;have h3 := hfi hi (by simp [Op.operands]); rw [hhi] at h3;simp only [Option.some.injEq] at h1 h2 h3;subst hi'; subst hj;have e : ¬ (len = i) := by omega
    have e1 : i ≤ len := by omega
    simp [execOp, Instr.sliceAt, ← h1, ← h2, ← h3, run_underlying hu, Instr.sureAddr, Instr.sliceBounds, Instr.sliceBound, asIntOf, Cg hs, Br, e, e1, hij, hjl]⟩ k
end
end Hw
end

section
namespace Go.Proofs.YtdilealohibfoaaGreat
open Go Hw
set_option maxRecDepth 100000
structure Block where
  fWriter : List UInt8
  fSeq : UInt64
  fPrev : List UInt8
  fLinks : Sl
  fData : Sl
  fSig : List UInt8
def Block.cells (x : Block) : List Value := Aa x.fWriter ++ ([u64 x.fSeq] ++ (Aa x.fPrev ++ ([x.fLinks.v] ++ ([x.fData.v] ++ (Aa x.fSig)))))
structure Block.ok (x : Block) : Prop where
  l_fWriter : x.fWriter.length = 32
  l_fPrev : x.fPrev.length = 32
  l_fSig : x.fSig.length = 64
theorem Block.length {x : Block} (h : x.ok) : x.cells.length = 131 := by simp [Block.cells, Aa, h.l_fWriter, h.l_fPrev, h.l_fSig]
theorem Block.isCell {x : Block} (h : x.ok) : ∀ u ∈ x.cells, isCell u = true := by
  intro u hu;simp only [Block.cells, List.mem_append, List.mem_singleton, Aa, List.mem_map] at hu;rcases hu with ⟨_, _, rfl⟩ | rfl | ⟨_, _, rfl⟩ | rfl | rfl | ⟨_, _, rfl⟩ <;> first | rfl
theorem Block.row_fWriter {x : Block} (h : x.ok) : (x.cells.drop 0).take 32 = Aa x.fWriter := by simp [Block.cells, Aa, h.l_fWriter, h.l_fPrev, h.l_fSig, List.drop_append, List.take_append, List.drop_of_length_le, List.take_of_length_le]
theorem Block.rl_fWriter {x : Block} (h : x.ok) : (Aa x.fWriter).length = 32 := by simp [Aa, h.l_fWriter]
theorem Block.upd_fWriter {x : Block} (h : x.ok) (l : List UInt8) (hl : l.length = 32) : upd x.cells 0 (Aa l) = ({ x with fWriter := l }).cells := by
  simp [upd, Block.cells, Aa, h.l_fWriter, h.l_fPrev, h.l_fSig, hl, List.drop_append, List.take_append, List.drop_of_length_le, List.take_of_length_le]
theorem Block.see_fWriter {x : Block} (h : x.ok) : ∀ (j : Nat) (v : Value), (Aa x.fWriter)[j]? = some v → x.cells[0 + j]? = some v := fun j v hj => by
  rw [← Block.row_fWriter h, List.getElem?_take] at hj;split at hj
  · rwa [List.getElem?_drop] at hj
  · cases hj
theorem Block.get_fSeq {x : Block} (h : x.ok) : x.cells[32]? = some (u64 x.fSeq) := by simp [Block.cells, Aa, h.l_fWriter, h.l_fPrev, h.l_fSig, List.getElem?_append]
theorem Block.row_fPrev {x : Block} (h : x.ok) : (x.cells.drop 33).take 32 = Aa x.fPrev := by simp [Block.cells, Aa, h.l_fWriter, h.l_fPrev, h.l_fSig, List.drop_append, List.take_append, List.drop_of_length_le, List.take_of_length_le]
theorem Block.rl_fPrev {x : Block} (h : x.ok) : (Aa x.fPrev).length = 32 := by simp [Aa, h.l_fPrev]
theorem Block.see_fPrev {x : Block} (h : x.ok) : ∀ (j : Nat) (v : Value), (Aa x.fPrev)[j]? = some v → x.cells[33 + j]? = some v := fun j v hj => by
  rw [← Block.row_fPrev h, List.getElem?_take] at hj;split at hj
  · rwa [List.getElem?_drop] at hj
  · cases hj
theorem Block.get_fLinks {x : Block} (h : x.ok) : x.cells[65]? = some (x.fLinks.v) := by simp [Block.cells, Aa, h.l_fWriter, h.l_fPrev, h.l_fSig, List.getElem?_append]
theorem Block.set_fLinks {x : Block} (h : x.ok) (v : Sl) : x.cells.set 65 (v.v) = ({ x with fLinks := v }).cells := by simp [Block.cells, Aa, h.l_fWriter, h.l_fPrev, h.l_fSig, List.set_append]
theorem Block.setS_fLinks {x : Block} (h : x.ok) (p : Option Addr) (n c : Nat) : x.cells.set 65 (.slice p n c) = ({ x with fLinks := ⟨p, n, c⟩ }).cells := Block.set_fLinks h ⟨p, n, c⟩
theorem Block.get_fData {x : Block} (h : x.ok) : x.cells[66]? = some (x.fData.v) := by simp [Block.cells, Aa, h.l_fWriter, h.l_fPrev, h.l_fSig, List.getElem?_append]
theorem Block.set_fData {x : Block} (h : x.ok) (v : Sl) : x.cells.set 66 (v.v) = ({ x with fData := v }).cells := by simp [Block.cells, Aa, h.l_fWriter, h.l_fPrev, h.l_fSig, List.set_append]
theorem Block.setS_fData {x : Block} (h : x.ok) (p : Option Addr) (n c : Nat) : x.cells.set 66 (.slice p n c) = ({ x with fData := ⟨p, n, c⟩ }).cells := Block.set_fData h ⟨p, n, c⟩
theorem Block.row_fSig {x : Block} (h : x.ok) : (x.cells.drop 67).take 64 = Aa x.fSig := by simp [Block.cells, Aa, h.l_fWriter, h.l_fPrev, h.l_fSig, List.drop_append, List.take_append, List.drop_of_length_le, List.take_of_length_le]
theorem Block.rl_fSig {x : Block} (h : x.ok) : (Aa x.fSig).length = 64 := by simp [Aa, h.l_fSig]
theorem Block.upd_fSig {x : Block} (h : x.ok) (l : List UInt8) (hl : l.length = 64) : upd x.cells 67 (Aa l) = ({ x with fSig := l }).cells := by
  simp [upd, Block.cells, Aa, h.l_fWriter, h.l_fPrev, h.l_fSig, hl, List.drop_append, List.take_append, List.drop_of_length_le, List.take_of_length_le]
theorem Block.see_fSig {x : Block} (h : x.ok) : ∀ (j : Nat) (v : Value), (Aa x.fSig)[j]? = some v → x.cells[67 + j]? = some v := fun j v hj => by
  rw [← Block.row_fSig h, List.getElem?_take] at hj;split at hj
  · rwa [List.getElem?_drop] at hj
  · cases hj
def Block.zero : Block := ⟨List.replicate 32 0, 0, List.replicate 32 0, Sl.nil, Sl.nil, List.replicate 64 0⟩
theorem Block.zero_ok : Block.zero.ok := by constructor <;> first | exact trivial | simp [Block.zero]
theorem Block.zr : Zr Tryz.prog 48 (agg Block.zero.cells) := by unfold Zr; kernel_rfl
structure Cut where
  fHeight : UInt64
  fPrev : List UInt8
  fHeads : Sl
def Cut.cells (x : Cut) : List Value := [u64 x.fHeight] ++ (Aa x.fPrev ++ ([x.fHeads.v]))
structure Cut.ok (x : Cut) : Prop where
  l_fPrev : x.fPrev.length = 32
theorem Cut.length {x : Cut} (h : x.ok) : x.cells.length = 34 := by simp [Cut.cells, Aa, h.l_fPrev]
theorem Cut.isCell {x : Cut} (h : x.ok) : ∀ u ∈ x.cells, isCell u = true := by
  intro u hu;simp only [Cut.cells, List.mem_append, List.mem_singleton, Aa, List.mem_map] at hu;rcases hu with rfl | ⟨_, _, rfl⟩ | rfl <;> first | rfl
theorem Cut.get_fHeight {x : Cut} (h : x.ok) : x.cells[0]? = some (u64 x.fHeight) := by simp [Cut.cells, Aa, h.l_fPrev, List.getElem?_append]
theorem Cut.row_fPrev {x : Cut} (h : x.ok) : (x.cells.drop 1).take 32 = Aa x.fPrev := by simp [Cut.cells, Aa, h.l_fPrev, List.drop_append, List.take_append, List.drop_of_length_le, List.take_of_length_le]
theorem Cut.rl_fPrev {x : Cut} (h : x.ok) : (Aa x.fPrev).length = 32 := by simp [Aa, h.l_fPrev]
theorem Cut.see_fPrev {x : Cut} (h : x.ok) : ∀ (j : Nat) (v : Value), (Aa x.fPrev)[j]? = some v → x.cells[1 + j]? = some v := fun j v hj => by
  rw [← Cut.row_fPrev h, List.getElem?_take] at hj;split at hj
  · rwa [List.getElem?_drop] at hj
  · cases hj
theorem Cut.get_fHeads {x : Cut} (h : x.ok) : x.cells[33]? = some (x.fHeads.v) := by simp [Cut.cells, Aa, h.l_fPrev, List.getElem?_append]
def Cut.zero : Cut := ⟨0, List.replicate 32 0, Sl.nil⟩
theorem Cut.zero_ok : Cut.zero.ok := by constructor <;> first | exact trivial | simp [Cut.zero]
theorem Cut.zr : Zr Tryz.prog 28 (agg Cut.zero.cells) := by unfold Zr; kernel_rfl
structure Point where
  fX : List UInt8
  fY : List UInt8
def Point.cells (x : Point) : List Value := Aa x.fX ++ (Aa x.fY)
structure Point.ok (x : Point) : Prop where
  l_fX : x.fX.length = 32
  l_fY : x.fY.length = 32
theorem Point.length {x : Point} (h : x.ok) : x.cells.length = 64 := by simp [Point.cells, Aa, h.l_fX, h.l_fY]
theorem Point.isCell {x : Point} (h : x.ok) : ∀ u ∈ x.cells, isCell u = true := by
  intro u hu;simp only [Point.cells, List.mem_append, List.mem_singleton, Aa, List.mem_map] at hu;rcases hu with ⟨_, _, rfl⟩ | ⟨_, _, rfl⟩ <;> rfl
theorem Point.row_fX {x : Point} (h : x.ok) : (x.cells.drop 0).take 32 = Aa x.fX := by simp [Point.cells, Aa, h.l_fX, h.l_fY, List.drop_append, List.take_append, List.drop_of_length_le, List.take_of_length_le]
theorem Point.rl_fX {x : Point} (h : x.ok) : (Aa x.fX).length = 32 := by simp [Aa, h.l_fX]
theorem Point.row_fY {x : Point} (h : x.ok) : (x.cells.drop 32).take 32 = Aa x.fY := by simp [Point.cells, Aa, h.l_fX, h.l_fY, List.drop_append, List.take_append, List.drop_of_length_le, List.take_of_length_le]
theorem Point.rl_fY {x : Point} (h : x.ok) : (Aa x.fY).length = 32 := by simp [Aa, h.l_fY]
def Point.zero : Point := ⟨List.replicate 32 0, List.replicate 32 0⟩
theorem Point.zero_ok : Point.zero.ok := by constructor <;> simp [Point.zero]
theorem Point.zr : Zr Tryz.prog 217 (agg Point.zero.cells) := by unfold Zr; kernel_rfl
theorem Point.eqq {x y : Point} (hx : x.ok) (hy : y.ok) (w : World) : (Op.equalIn 10000 217 (agg x.cells) (agg y.cells)).run Tryz.prog w = .ok (decide (x.fX = y.fX) && (decide (x.fY = y.fY) && (true))) w := by
  rw [show (10000 : Nat) = 9999 + 1 from rfl, run_equalIn_struct w 9999 217 x.cells.toArray y.cells.toArray zK zK];exact (eqFields_step dE (run_partN Y214.h rfl Sz214 (Point.row_fX hx)) (run_partN Y214.h rfl Sz214 (Point.row_fX hy)) (eq_bytesA Y214.h Y5.h Sz5 hx.l_fX hy.l_fX) (eqFields_step dE (run_partN Y214.h rfl Sz214 (Point.row_fY hx)) (run_partN Y214.h rfl Sz214 (Point.row_fY hy)) (eq_bytesA Y214.h Y5.h Sz5 hx.l_fY hy.l_fY) eqFields_nil))
theorem Point.eq_run {x y : Point} (hx : x.ok) (hy : y.ok) (w : World) [Decidable (x = y)] : (Op.equalIn 10000 217 (agg x.cells) (agg y.cells)).run Tryz.prog w = .ok (decide (x = y)) w := by
  rw [Point.eqq hx hy];congr 1;obtain ⟨x0, x1⟩ := x;obtain ⟨y0, y1⟩ := y;rw [Bool.eq_iff_iff];simp only [Bool.and_eq_true, decide_eq_true_eq, Point.mk.injEq, and_true]
theorem Point.eq_runC {x y : Point} (hx : x.ok) (hy : y.ok) (w : World) : (Op.equalIn 10000 217 (agg x.cells) (agg y.cells)).run Tryz.prog w = .ok (@decide (x = y) (Classical.propDecidable (x = y))) w := @Point.eq_run x y hx hy w (Classical.propDecidable (x = y))
theorem Point.eg : Tryz.prog.eqGuardType Tryz.prog.depth 217 = false := by kernel_rfl
structure wide where
  fX : List UInt8
  fY : List UInt8
  fZ : List UInt8
  fT : List UInt8
def wide.cells (x : wide) : List Value := Aa x.fX ++ (Aa x.fY ++ (Aa x.fZ ++ (Aa x.fT)))
structure wide.ok (x : wide) : Prop where
  l_fX : x.fX.length = 32
  l_fY : x.fY.length = 32
  l_fZ : x.fZ.length = 32
  l_fT : x.fT.length = 32
theorem wide.length {x : wide} (h : x.ok) : x.cells.length = 128 := by simp [wide.cells, Aa, h.l_fX, h.l_fY, h.l_fZ, h.l_fT]
theorem wide.isCell {x : wide} (h : x.ok) : ∀ u ∈ x.cells, isCell u = true := by
  intro u hu;simp only [wide.cells, List.mem_append, List.mem_singleton, Aa, List.mem_map] at hu;rcases hu with ⟨_, _, rfl⟩ | ⟨_, _, rfl⟩ | ⟨_, _, rfl⟩ | ⟨_, _, rfl⟩ <;> rfl
theorem wide.row_fX {x : wide} (h : x.ok) : (x.cells.drop 0).take 32 = Aa x.fX := by simp [wide.cells, Aa, h.l_fX, h.l_fY, h.l_fZ, h.l_fT, List.drop_append, List.take_append, List.drop_of_length_le, List.take_of_length_le]
theorem wide.rl_fX {x : wide} (h : x.ok) : (Aa x.fX).length = 32 := by simp [Aa, h.l_fX]
theorem wide.upd_fX {x : wide} (h : x.ok) (l : List UInt8) (hl : l.length = 32) : upd x.cells 0 (Aa l) = ({ x with fX := l }).cells := by
  simp [upd, wide.cells, Aa, h.l_fX, h.l_fY, h.l_fZ, h.l_fT, hl, List.drop_append, List.take_append, List.drop_of_length_le, List.take_of_length_le]
theorem wide.see_fX {x : wide} (h : x.ok) : ∀ (j : Nat) (v : Value), (Aa x.fX)[j]? = some v → x.cells[0 + j]? = some v := fun j v hj => by
  rw [← wide.row_fX h, List.getElem?_take] at hj;split at hj
  · rwa [List.getElem?_drop] at hj
  · cases hj
theorem wide.row_fY {x : wide} (h : x.ok) : (x.cells.drop 32).take 32 = Aa x.fY := by simp [wide.cells, Aa, h.l_fX, h.l_fY, h.l_fZ, h.l_fT, List.drop_append, List.take_append, List.drop_of_length_le, List.take_of_length_le]
theorem wide.rl_fY {x : wide} (h : x.ok) : (Aa x.fY).length = 32 := by simp [Aa, h.l_fY]
theorem wide.upd_fY {x : wide} (h : x.ok) (l : List UInt8) (hl : l.length = 32) : upd x.cells 32 (Aa l) = ({ x with fY := l }).cells := by
  simp [upd, wide.cells, Aa, h.l_fX, h.l_fY, h.l_fZ, h.l_fT, hl, List.drop_append, List.take_append, List.drop_of_length_le, List.take_of_length_le]
theorem wide.see_fY {x : wide} (h : x.ok) : ∀ (j : Nat) (v : Value), (Aa x.fY)[j]? = some v → x.cells[32 + j]? = some v := fun j v hj => by
  rw [← wide.row_fY h, List.getElem?_take] at hj;split at hj
  · rwa [List.getElem?_drop] at hj
  · cases hj
theorem wide.row_fZ {x : wide} (h : x.ok) : (x.cells.drop 64).take 32 = Aa x.fZ := by simp [wide.cells, Aa, h.l_fX, h.l_fY, h.l_fZ, h.l_fT, List.drop_append, List.take_append, List.drop_of_length_le, List.take_of_length_le]
theorem wide.rl_fZ {x : wide} (h : x.ok) : (Aa x.fZ).length = 32 := by simp [Aa, h.l_fZ]
theorem wide.upd_fZ {x : wide} (h : x.ok) (l : List UInt8) (hl : l.length = 32) : upd x.cells 64 (Aa l) = ({ x with fZ := l }).cells := by
  simp [upd, wide.cells, Aa, h.l_fX, h.l_fY, h.l_fZ, h.l_fT, hl, List.drop_append, List.take_append, List.drop_of_length_le, List.take_of_length_le]
theorem wide.see_fZ {x : wide} (h : x.ok) : ∀ (j : Nat) (v : Value), (Aa x.fZ)[j]? = some v → x.cells[64 + j]? = some v := fun j v hj => by
  rw [← wide.row_fZ h, List.getElem?_take] at hj;split at hj
  · rwa [List.getElem?_drop] at hj
  · cases hj
theorem wide.row_fT {x : wide} (h : x.ok) : (x.cells.drop 96).take 32 = Aa x.fT := by simp [wide.cells, Aa, h.l_fX, h.l_fY, h.l_fZ, h.l_fT, List.drop_append, List.take_append, List.drop_of_length_le, List.take_of_length_le]
theorem wide.rl_fT {x : wide} (h : x.ok) : (Aa x.fT).length = 32 := by simp [Aa, h.l_fT]
theorem wide.upd_fT {x : wide} (h : x.ok) (l : List UInt8) (hl : l.length = 32) : upd x.cells 96 (Aa l) = ({ x with fT := l }).cells := by
  simp [upd, wide.cells, Aa, h.l_fX, h.l_fY, h.l_fZ, h.l_fT, hl, List.drop_append, List.take_append, List.drop_of_length_le, List.take_of_length_le]
theorem wide.see_fT {x : wide} (h : x.ok) : ∀ (j : Nat) (v : Value), (Aa x.fT)[j]? = some v → x.cells[96 + j]? = some v := fun j v hj => by
  rw [← wide.row_fT h, List.getElem?_take] at hj;split at hj
  · rwa [List.getElem?_drop] at hj
  · cases hj
def wide.zero : wide := ⟨List.replicate 32 0, List.replicate 32 0, List.replicate 32 0, List.replicate 32 0⟩
theorem wide.zero_ok : wide.zero.ok := by constructor <;> simp [wide.zero]
theorem wide.zr : Zr Tryz.prog 268 (agg wide.zero.cells) := by unfold Zr; kernel_rfl
theorem wide.eg : Tryz.prog.eqGuardType Tryz.prog.depth 268 = false := by kernel_rfl
end Go.Proofs.YtdilealohibfoaaGreat
end

section
namespace Hw
open Go

theorem Ax (l : List UInt8) : ∀ u ∈ Aa l, isCell u = true := fun u hu => by
  simp only [Aa, List.mem_map] at hu;obtain ⟨_, _, rfl⟩ := hu;rfl
def bLen (n : Nat) : Nat := if n = 0 then 0 else Nat.log2 n + 1
theorem bLen_le {n k : Nat} : bLen n ≤ k ↔ n < 2 ^ k := by
  unfold bLen;by_cases h : n = 0
  · subst h; simp; exact Nat.pow_pos dE
  · rw [if_neg h, Nat.succ_le_iff, Nat.log2_lt h]
theorem bLen_shr {n k : Nat} (h : 2 ^ k ≤ n) : bLen n = k + bLen (n / 2 ^ k) := by
  have key : ∀ j, bLen n ≤ k + j ↔ bLen (n / 2 ^ k) ≤ j := fun j => by
    rw [bLen_le, bLen_le, Nat.pow_add, Nat.div_lt_iff_lt_mul (Nat.pow_pos dE), Nat.mul_comm]
  have h1 := (key (bLen (n / 2 ^ k))).2 (Nat.le_refl _);have h2 : k < bLen n := by
    rcases Nat.lt_or_ge k (bLen n) with h | h
    · exact h
    · rw [ge_iff_le, bLen_le] at h; omega
  have h3 := (key (bLen n - k)).1 oM;omega
def szN (n : Nat) : Nat := min ((bLen (n ||| 1) + 6) / 7) 9
theorem Bz (n : Nat) : 1 ≤ szN n ∧ szN n ≤ 9 := by
  have : 1 ≤ bLen (n ||| 1) := by
    rcases Nat.lt_or_ge 0 (bLen (n ||| 1)) with h | h
    · exact h
    · rw [ge_iff_le, bLen_le] at h
      have h1 : 1 ≤ n ||| 1 := Nat.right_le_or;simp at h
  unfold szN;omega
def tailB (x : UInt64) : Nat → List UInt8
  | 0 => []
  | k + 1 => (Ap x (8 * k)).toUInt8 :: tailB x k
theorem tailB_length (x : UInt64) : ∀ k, (tailB x k).length = k
  | 0 => rfl
  | k + 1 => by simp [tailB, tailB_length x k]
theorem tailB_get (x : UInt64) : ∀ k j, j < k → (tailB x k)[j]? = some (Ap x (8 * (k - 1 - j))).toUInt8
  | 0, j, h => by omega
  | k + 1, 0, h => by simp [tailB]
  | k + 1, j + 1, h => by
    rw [tailB, List.getElem?_cons_succ, tailB_get x k j oM];congr 4;omega
def headB (x : UInt64) : UInt8 := shl8 255 (9 - szN x.toNat) ||| (Ap x (8 * (szN x.toNat - 1))).toUInt8
def numB (x : UInt64) : List UInt8 := headB x :: tailB x (szN x.toNat - 1)
theorem Bf (x : UInt64) : (numB x).length = szN x.toNat := by
  have := Bz x.toNat;simp [numB, tailB_length]; omega
def numUp (x : UInt64) (j : Nat) : List UInt8 := headB x :: (tailB x (szN x.toNat - 1)).take j
theorem numUp_length (x : UInt64) (j : Nat) (h : j ≤ szN x.toNat - 1) : (numUp x j).length = 1 + j := by
  simp [numUp, tailB_length]; omega
theorem numUp_step (x : UInt64) (j : Nat) (h : j < szN x.toNat - 1) : numUp x (j + 1) = numUp x j ++ [(Ap x (8 * (szN x.toNat - 2 - j))).toUInt8] := by
  have hl : j < (tailB x (szN x.toNat - 1)).length := by rw [tailB_length]; exact h
  have hg := tailB_get x (szN x.toNat - 1) j h;rw [List.getElem?_eq_getElem hl, Option.some.injEq] at hg;rw [numUp, numUp, List.take_succ_eq_append_getElem hl, hg, show szN x.toNat - 1 - 1 - j = szN x.toNat - 2 - j by omega];rfl
theorem numUp_all (x : UInt64) : numUp x (szN x.toNat - 1) = numB x := by
  rw [numUp, List.take_of_length_le (by rw [tailB_length]; omega), numB]
theorem numUp_zero (x : UInt64) : numUp x 0 = [headB x] := by simp [numUp]
end Hw
end

section
namespace Hw
open Go

def rolW (x : UInt64) (s : Nat) : UInt64 := Ay x s ||| Ap x (64 - s)
def schA (p : List UInt8) : Nat → List UInt64
  | 0 => List.replicate 80 0
  | i + 1 => (schA p i).set (i / 8) (Ay ((schA p i).getD (i / 8) 0) 8 ||| (p.getD i 0).toUInt64)
theorem schA_length (p : List UInt8) : ∀ i, (schA p i).length = 80
  | 0 => rfl
  | i + 1 => by rw [schA, List.length_set, schA_length p i]
def sig0 (x : UInt64) : UInt64 := rolW x 63 ^^^ rolW x 56 ^^^ Ap x 7
def sig1 (y : UInt64) : UInt64 := rolW y 45 ^^^ rolW y 3 ^^^ Ap y 6
def schB (w : List UInt64) : Nat → List UInt64
  | 0 => w
  | j + 1 => (schB w j).set (16 + j) ((schB w j).getD j 0 + sig0 ((schB w j).getD (j + 1) 0) + (schB w j).getD (j + 9) 0 + sig1 ((schB w j).getD (j + 14) 0))
theorem schB_length (w : List UInt64) : ∀ j, (schB w j).length = w.length
  | 0 => rfl
  | j + 1 => by rw [schB, List.length_set, schB_length w j]
def schW (p : List UInt8) : List UInt64 := schB (schA p 128) 64
structure W8 where
  a : UInt64
  b : UInt64
  c : UInt64
  d : UInt64
  e : UInt64
  f : UInt64
  g : UInt64
  h : UInt64
def W8.l (s : W8) : List UInt64 := [s.a, s.b, s.c, s.d, s.e, s.f, s.g, s.h]
def W8.of (l : List UInt64) : W8 := ⟨l.getD 0 0, l.getD 1 0, l.getD 2 0, l.getD 3 0, l.getD 4 0, l.getD 5 0, l.getD 6 0, l.getD 7 0⟩
def rndT1 (s : W8) (k w : UInt64) : UInt64 := s.h + (rolW s.e 50 ^^^ rolW s.e 46 ^^^ rolW s.e 23) + ((s.e &&& s.f) ^^^ ((18446744073709551615 ^^^ s.e) &&& s.g)) + k + w
def rndT2 (s : W8) : UInt64 := (rolW s.a 36 ^^^ rolW s.a 30 ^^^ rolW s.a 25) + ((s.a &&& s.b) ^^^ (s.a &&& s.c) ^^^ (s.b &&& s.c))
def rnd1 (s : W8) (k w : UInt64) : W8 := ⟨rndT1 s k w + rndT2 s, s.a, s.b, s.c, s.d + rndT1 s k w, s.e, s.f, s.g⟩
def rnds (k w : List UInt64) (s : W8) : Nat → W8
  | 0 => s
  | t + 1 => rnd1 (rnds k w s t) (k.getD t 0) (w.getD t 0)
def addUp (st xs : List UInt64) : Nat → List UInt64
  | 0 => st
  | i + 1 => (addUp st xs i).set i ((addUp st xs i).getD i 0 + xs.getD i 0)
theorem Bu (st xs : List UInt64) : ∀ i, (addUp st xs i).length = st.length
  | 0 => rfl
  | i + 1 => by rw [addUp, List.length_set, Bu st xs i]
theorem addUp_get (st xs : List UInt64) : ∀ i j, i ≤ j → (addUp st xs i).getD j 0 = st.getD j 0
  | 0, j, _ => rfl
  | i + 1, j, h => by
    rw [addUp, List.getD_eq_getElem?_getD, List.getElem?_set_ne oM, ← List.getD_eq_getElem?_getD];exact addUp_get st xs i j oM
def pieceW (k st : List UInt64) (p : List UInt8) : List UInt64 := addUp st (rnds k (schW p) (W8.of st) 80).l 8
theorem pieceW_length (k st : List UInt64) (p : List UInt8) : (pieceW k st p).length = st.length := Bu _ _ _
def sumUp (st : List UInt64) : Nat → List UInt8
  | 0 => List.replicate 64 0
  | i + 1 => (sumUp st i).set i (Ap (st.getD (i / 8) 0) (56 - 8 * (i % 8))).toUInt8
theorem B5 (st : List UInt64) : ∀ i, (sumUp st i).length = 64
  | 0 => rfl
  | i + 1 => by rw [sumUp, List.length_set, B5 st i]
def padZ (n : Nat) : Nat := (239 - n % 128) % 128
theorem padZ_lt (n : Nat) : padZ n < 128 := Nat.mod_lt _ dE
theorem padZ_at (n j : Nat) (h : j ≤ padZ n) : (n + 1 + j) % 128 = 112 ↔ j = padZ n := by unfold padZ at *; omega
def beUp (x : UInt64) : Nat → List UInt8
  | 0 => []
  | j + 1 => beUp x j ++ [(Ap x (56 - 8 * j)).toUInt8]
theorem beUp_length (x : UInt64) : ∀ j, (beUp x j).length = j
  | 0 => rfl
  | j + 1 => by rw [beUp, List.length_append, beUp_length x j]; rfl
def padB (l : List UInt8) : List UInt8 := l ++ [128] ++ List.replicate (padZ l.length) 0 ++ beUp 0 8 ++ beUp (UInt64.ofNat (8 * l.length)) 8
theorem padB_length (l : List UInt8) : (padB l).length = l.length + 17 + padZ l.length := by
  simp only [padB, List.length_append, beUp_length, List.length_replicate, List.length_singleton]; omega
theorem padB_mod (l : List UInt8) : (padB l).length = 128 * ((padB l).length / 128) := by
  rw [padB_length]; unfold padZ; omega
def runW (k st : List UInt64) (bs : List UInt8) : Nat → List UInt64
  | 0 => st
  | i + 1 => pieceW k (runW k st bs i) ((bs.drop (128 * i)).take 128)
theorem runW_length (k st : List UInt64) (bs : List UInt8) : ∀ i, (runW k st bs i).length = st.length
  | 0 => rfl
  | i + 1 => by rw [runW, pieceW_length, runW_length k st bs i]
def allW (k st : List UInt64) (l : List UInt8) : List UInt64 := runW k st (padB l) ((padB l).length / 128)
theorem allW_length (k st : List UInt64) (l : List UInt8) : (allW k st l).length = st.length := runW_length _ _ _ _
end Hw
end

section
namespace Hw
open Go Go.RowKit

theorem flat_get {m : Nat} : ∀ {cs : List (List Value)} {i j : Nat} {l : List Value}, (∀ l ∈ cs, l.length = m) → cs[i]? = some l → j < l.length → cs.flatten[i * m + j]? = l[j]?
  | [], i, j, l, _, h, _ => by simp at h
  | x :: cs, 0, j, l, hl, h, hj => by
    simp only [List.getElem?_cons_zero, Option.some.injEq] at h;subst h;rw [Nat.zero_mul, Nat.zero_add, List.flatten_cons, List.getElem?_append_left hj]
  | x :: cs, i + 1, j, l, hl, h, hj => by
    rw [List.getElem?_cons_succ] at h;have hx := hl x sP;rw [List.flatten_cons, List.getElem?_append_right (by rw [hx, Nat.add_mul]; omega), hx, show (i + 1) * m + j - m = i * m + j by rw [Nat.add_mul]; omega];exact flat_get (fun y hy => hl y (by simp [hy])) h hj
theorem sees_elem {w : World} {b o m i : Nat} {cs : List (List Value)} {l : List Value} (hl : ∀ l ∈ cs, l.length = m) (hs : Sees w b o cs.flatten) (hi : cs[i]? = some l) : Sees w b (o + i * m) l := fun j v hj => by
  have hlt : j < l.length := (List.getElem?_eq_some_iff.1 hj).1;have := hs (i * m + j) v (by rw [flat_get hl hi hlt]; exact hj);rwa [Nat.add_assoc]

structure SeqIs {R D : Type} (cells : R → List Value) (k : Nat) (Is : World → R → D → Prop) (W : World) (s : Sl) (rs : List R) (ds : List D) : Prop where
  nr : rs.length = s.n
  nd : ds.length = s.n
  is : ∀ (i : Nat) (r : R) (d : D), rs[i]? = some r → ds[i]? = some d → Is W r d
  len : ∀ r ∈ rs, (cells r).length = k
  cap : s.n ≤ s.c
  see : SeesP W s.p (rs.map cells).flatten
  max : s.n ≤ maxLen
  nil : s.p = none → s.c = 0
section
variable {R D : Type} {cells : R → List Value} {k : Nat} {Is : World → R → D → Prop} {W w : World} {s : Sl} {rs : List R} {ds : List D}
theorem SeqIs.flat (h : SeqIs cells k Is W s rs ds) : (rs.map cells).flatten.length = s.n * k := by
  rw [← h.nr];have hl := h.len;clear h
  induction rs with
  | nil => simp
  | cons r rs ih => rw [List.map_cons, List.flatten_cons, List.length_append, ih (fun x hx => hl x (by simp [hx])), hl r sP, List.length_cons, Nat.add_mul]; omega
theorem SeqIs.at (h : SeqIs cells k Is W s rs ds) (hk : 0 < k) {i : Nat} (hi : i < s.n) : ∃ b o r d, s.p = some ⟨b, o, none⟩ ∧ rs[i]? = some r ∧ ds[i]? = some d ∧ Is W r d ∧ (cells r).length = k ∧ Sees W b (o + i * k) (cells r) := by
  have h1 : i < rs.length := by rw [h.nr]; exact hi
  have h2 : i < ds.length := by rw [h.nd]; exact hi
  have h3 : 0 < s.n * k := Nat.mul_pos oM hk;obtain ⟨b, o, hp, hs⟩ := h.see.at (by rw [h.flat]; exact h3);have e1 := List.getElem?_eq_getElem h1;have e2 := List.getElem?_eq_getElem h2;refine ⟨b, o, rs[i], ds[i], hp, e1, e2, h.is i _ _ e1 e2, h.len _ (List.getElem_mem h1), ?_⟩;exact sees_elem (cs := rs.map cells) (fun l hl => by obtain ⟨r, hr, rfl⟩ := List.mem_map.1 hl; exact h.len r hr) hs (by rw [List.getElem?_map, e1]; rfl)
theorem SeqIs.ext {C : Cx} {hp : List Blk} (hh : HRep C hp w) (hl : C.lent = []) (hIs : ∀ r d, Is C.W0 r d → Is w r d) (h : SeqIs cells k Is C.W0 s rs ds) : SeqIs cells k Is w s rs ds :=
  ⟨h.nr, h.nd, fun i r d h1 h2 => hIs r d (h.is i r d h1 h2), h.len, h.cap, A2 hh hl h.see, h.max, h.nil⟩
theorem SeqIs.none : SeqIs cells k Is W Sl.nil [] [] :=
  ⟨rfl, rfl, fun i r d h => (by simp at h), fun r h => (by cases h), Nat.le_refl _, SeesP.nil, Nat.zero_le _, fun _ => rfl⟩
end

section
variable {R D : Type} {cells : R → List Value} {k : Nat} {Is : World → R → D → Prop} {w : World} {E : TypeId} {s s' : Sl} {bl bl' bl2 bl3 : List Blk} {rs : List R} {ds : List D} {n : Nat}
end

section
variable {C : Cx} {ops : Array Oper} {rest : List (Nat × Oper)} {sl : List (Nat × Value)} {hp : List Blk} {Q : St → Prop} {c d : Nat} {ty : TypeId} {pos : String} {af : Array Edge} {g : Option (Nat × Bool)}
variable {f : Operand} {fid : FuncId} {ars : List Operand} {ats : Array TypeId} {vs us : List Value} {fst cap : Array Value}
theorem Tr.callCV {Pre : World → Prop} {r : Value} (hg : Aj ops sl g = true) (hk : okG c d C.N = true) (hfn : Af sl f = some (.func (.func fid) fst cap)) (hargs : evs sl ars = some vs) (hus : fst.toList ++ vs ++ cap.toList = us) (hb : Av C.P fid)
    (hc : Meets C.P fid us [] Pre fun v out => v = r ∧ out = []) (hpre : ∀ w, HRep C hp w → Pre w)
    (k : Tr C ops rest ⟨(d, r) :: sl, hp⟩ Q) : Tr C ops ((c, ⟨some d, .call ⟨.value f, ars.toArray, ats⟩, ty, pos, af, g⟩) :: rest) ⟨sl, hp⟩ Q :=
  .callC hg hk hfn hargs hus hb hc (fun l hn => ⟨r, [], ⟨rfl, rfl⟩, hn⟩) hpre fun v out h => by obtain ⟨rfl, rfl⟩ := h; exact k
end

section
variable {H : Type} {enc : TypeId × Value → H} {P : Program} {W : World} {base : Nat} {sp : Nat → Bool} {held : Bool}
theorem elems_of {R D : Type} {cells : R → List Value} {k : Nat} {Is : World → R → D → Prop} (b o : Nat) : ∀ n : Nat, (∀ i, i < n → ∃ r d, Is W r d ∧ (cells r).length = k ∧ Sees W b (o + i * k) (cells r)) →
    ∃ (rs : List R) (ds : List D), rs.length = n ∧ ds.length = n ∧ (∀ r ∈ rs, (cells r).length = k) ∧ (∀ (i : Nat) (r : R) (d : D), rs[i]? = some r → ds[i]? = some d → Is W r d) ∧ Sees W b o (rs.map cells).flatten ∧ (rs.map cells).flatten.length = n * k
  | 0, _ => ⟨[], [], rfl, rfl, fun r h => (by cases h), fun i r d h => (by simp at h), fun j v h => (by simp at h), by simp⟩
  | n + 1, h => by
    obtain ⟨rs, ds, h1, h2, h3, h4, h5, h6⟩ := elems_of b o n fun i hi => h i oM;obtain ⟨r, d, g1, g2, g3⟩ := h n oM;refine ⟨rs ++ [r], ds ++ [d], by simp [h1], by simp [h2], fun x hx => ?_, fun i x y hx hy => ?_, fun j v hj => ?_, ?_⟩
    · rcases List.mem_append.1 hx with hx | hx
      · exact h3 x hx
      · rw [List.mem_singleton.1 hx]; exact g2
    · by_cases hn : i < n
      · rw [List.getElem?_append_left oM] at hx hy
        exact h4 i x y hx hy
      · rw [List.getElem?_append_right oM, h1] at hx
        rw [List.getElem?_append_right oM, h2] at hy;have e : i - n = 0 := by
          have := (List.getElem?_eq_some_iff.1 hx).1;simp at this; omega
        rw [e] at hx hy;simp only [List.getElem?_cons_zero, Option.some.injEq] at hx hy;subst hx; subst hy;exact g1
    · rw [List.map_append, List.flatten_append] at hj
      rcases Nat.lt_or_ge j (n * k) with h7 | h7
      · rw [List.getElem?_append_left oM] at hj
        exact h5 j v hj
      · rw [List.getElem?_append_right oM, h6] at hj
        have := g3 (j - n * k) v (by simpa using hj);rw [show o + n * k + (j - n * k) = o + j by omega] at this;exact this
    · rw [List.map_append, List.flatten_append, List.length_append, h6, Nat.add_mul]
      simp [g2]
theorem open_seqS {R D : Type} {cells : R → List Value} {k : Nat} {Is : World → R → D → Prop} {t e : TypeId} (hu : P.underlying t = some (.slice e)) (hc : P.cellsOf e = k) (hk : 0 < k) (hel : ∀ {n : Nat} {cs : List Value} {y : DataW H × List MemPlace}, DataW.trod enc P W base sp held n e cs = some y → ∃ r d, cs = cells r ∧ Is W r d ∧ (cells r).length = k)
    {fuel : Nat} {cs : List Value} {y : DataW H × List MemPlace} (h : DataW.trod enc P W base sp held fuel t cs = some y) : ∃ s rs ds, cs = [Sl.v s] ∧ SeqIs cells k Is W s rs ds := by
  obtain ⟨s, rfl, h1, h2, h3, hx⟩ := open_sliceT hu h;by_cases h0 : s.n = 0
  · exact ⟨s, [], [], rfl, by simp [h0], by simp [h0], fun i r d h => (by simp at h), fun r h => (by cases h), h1, SeesP.nil, Nat.le_trans h1 h2, h3⟩
  · obtain ⟨⟨b, o, sp'⟩, hp, _⟩ := hx 0 oM
    have hx' : ∀ i, i < s.n → ∃ r d, Is W r d ∧ (cells r).length = k ∧ ∀ (j : Nat) (v : Value), (cells r)[j]? = some v → W.cell? (((⟨b, o, sp'⟩ : Addr).add (i * k)).add j) = some v := fun i hi => by
      obtain ⟨a', hp', cs', n, y', hcs, ht⟩ := hx i hi;rw [hp] at hp';obtain rfl : a' = ⟨b, o, sp'⟩ := by injection hp'.symm
      rw [hc] at hcs;obtain ⟨r, d, rfl, hr, hlen⟩ := hel ht;exact ⟨r, d, hr, hlen, (cells_at hcs).2⟩
    obtain rfl : sp' = none := by
      obtain ⟨r, d, _, hl, hv⟩ := hx' 0 oM;obtain ⟨v, hv0⟩ : ∃ v, (cells r)[0]? = some v := ⟨_, List.getElem?_eq_getElem oM⟩;have := hv 0 v hv0;simpa [Addr.add] using World.cell?_spot this
    obtain ⟨rs, ds, e1, e2, e3, e4, e5, _⟩ := elems_of (W := W) (Is := Is) (cells := cells) (k := k) b o s.n fun i hi => by
      obtain ⟨r, d, hr, hl, hv⟩ := hx' i hi;refine ⟨r, d, hr, hl, fun j v hj => ?_⟩;have := hv j v hj;rwa [Br, Br] at this
    exact ⟨s, rs, ds, rfl, e1, e2, e4, e3, h1, by rw [hp]; exact SeesP.of e5, Nat.le_trans h1 h2, h3⟩
end
end Hw
end

section
namespace Ed

abbrev ClsOf {C : Type → Type} {a : Type} (_ : C a) : Type → Type := C
abbrev CommRing : Type → Type := ClsOf Dyadic.instCommRing
structure Cv (R : Type) [CommRing R] where
  d : R
  i : R
  inv : R → R
  one_ne : (1 : R) ≠ 0
  two_ne : (1 : R) + 1 ≠ 0
  mul_inv : ∀ a : R, a ≠ 0 → a * inv a = 1
  inv_zero : inv 0 = 0
  i_sq : i * i = -1
  nsq : ∀ z : R, z * z ≠ d

structure Pt (R : Type) where
  x : R
  y : R

section
variable {R : Type} [CommRing R] (C : Cv R)
theorem Cv.no_zero (C : Cv R) {a b : R} (ha : a ≠ 0) (hb : b ≠ 0) : a * b ≠ 0 := fun h => by
  have h1 := C.mul_inv a ha;have h2 := C.mul_inv b hb;exact C.one_ne (by grind)
theorem Cv.zero_or (C : Cv R) {a b : R} (h : a * b = 0) : a = 0 ∨ b = 0 := by
  by_cases ha : a = 0
  · exact .inl ha
  · by_cases hb : b = 0
    · exact .inr hb
    · exact absurd h (C.no_zero ha hb)
theorem Cv.cancel (C : Cv R) {a u v : R} (ha : a ≠ 0) (h : a * u = a * v) : u = v := by
  have h1 := C.mul_inv a ha;grind
def Cv.on (P : Pt R) : Prop := P.y * P.y - P.x * P.x = 1 + C.d * P.x * P.x * P.y * P.y
def Cv.e (P Q : Pt R) : R := C.d * P.x * Q.x * P.y * Q.y
def Cv.add (P Q : Pt R) : Pt R := ⟨(P.x * Q.y + Q.x * P.y) * C.inv (1 + C.e P Q), (P.y * Q.y + P.x * Q.x) * C.inv (1 - C.e P Q)⟩
def zero : Pt R := ⟨0, 1⟩
def neg (P : Pt R) : Pt R := ⟨-P.x, P.y⟩

theorem Cv.sq_no {u v : R} (hv : v ≠ 0) (h : u * u = C.d * (v * v)) : False := by
  have h1 := C.mul_inv v hv;exact C.nsq (u * C.inv v) (by grind)
theorem Cv.complete {P Q : Pt R} (hP : C.on P) (hQ : C.on Q) : C.e P Q * C.e P Q ≠ 1 := fun h => by
  obtain ⟨x1, y1⟩ := P;obtain ⟨x2, y2⟩ := Q;simp only [on, e] at *;have hi := C.i_sq;have h1 : (C.i * x1 + C.d * x1 * x2 * y1 * y2 * y1) * (C.i * x1 + C.d * x1 * x2 * y1 * y2 * y1) = C.d * ((x1 * y1 * (C.i * x2 + y2)) * (x1 * y1 * (C.i * x2 + y2))) := by grind
  have h2 : (C.i * x1 - C.d * x1 * x2 * y1 * y2 * y1) * (C.i * x1 - C.d * x1 * x2 * y1 * y2 * y1) = C.d * ((x1 * y1 * (C.i * x2 - y2)) * (x1 * y1 * (C.i * x2 - y2))) := by grind
  have n1 : x1 ≠ 0 := fun e => C.one_ne (by rw [e] at h; grind);have n2 : y1 ≠ 0 := fun e => C.one_ne (by rw [e] at h; grind);have n3 : y2 ≠ 0 := fun e => C.one_ne (by rw [e] at h; grind);have n4 := C.no_zero n1 n2;by_cases h3 : C.i * x2 + y2 = 0
  · by_cases h4 : C.i * x2 - y2 = 0
    · have h5 : (1 + 1) * y2 = 0 := by grind
      rcases C.zero_or h5 with h6 | h6
      · exact C.two_ne h6
      · exact n3 h6
    · exact C.sq_no (C.no_zero n4 h4) h2
  · exact C.sq_no (C.no_zero n4 h3) h1
theorem Cv.plus_ne {P Q : Pt R} (hP : C.on P) (hQ : C.on Q) : 1 + C.e P Q ≠ 0 := fun h => C.complete hP hQ (by grind)
theorem Cv.minus_ne {P Q : Pt R} (hP : C.on P) (hQ : C.on Q) : 1 - C.e P Q ≠ 0 := fun h => C.complete hP hQ (by grind)

theorem Cv.on_zero : C.on (zero : Pt R) := by simp only [on, zero]; grind
theorem Cv.on_neg {P : Pt R} (h : C.on P) : C.on (neg P) := by simp only [on, neg] at *; grind
theorem Cv.add_zero (P : Pt R) : C.add P zero = P := by
  obtain ⟨x, y⟩ := P;have h1 := C.mul_inv 1 C.one_ne;have h2 : C.e ⟨x, y⟩ ⟨0, 1⟩ = 0 := by simp only [e]; grind
  simp only [add, zero, h2];rw [show (1 : R) + 0 = 1 by grind, show (1 : R) - 0 = 1 by grind];congr 1 <;> grind
theorem Cv.e_comm (P Q : Pt R) : C.e P Q = C.e Q P := by simp only [e]; grind
theorem Cv.add_comm (P Q : Pt R) : C.add P Q = C.add Q P := by
  simp only [add, C.e_comm P Q];congr 1 <;> grind
theorem Cv.add_neg {P : Pt R} (h : C.on P) : C.add P (neg P) = zero := by
  have h1 := C.mul_inv _ (C.minus_ne h (C.on_neg h));obtain ⟨x, y⟩ := P;simp only [on, add, neg, zero, e] at *;congr 1 <;> grind
theorem Cv.on_add {P Q : Pt R} (hP : C.on P) (hQ : C.on Q) : C.on (C.add P Q) := by
  have h1 := C.mul_inv _ (C.plus_ne hP hQ);have h2 := C.mul_inv _ (C.minus_ne hP hQ);obtain ⟨x1, y1⟩ := P;obtain ⟨x2, y2⟩ := Q;simp only [on, add, e] at *;generalize C.inv (1 + C.d * x1 * x2 * y1 * y2) = a at *;generalize C.inv (1 - C.d * x1 * x2 * y1 * y2) = b at *;have k : ((y1*y2+x1*x2)*(1 + C.d*x1*x2*y1*y2))*((y1*y2+x1*x2)*(1 + C.d*x1*x2*y1*y2)) - ((x1*y2+x2*y1)*(1 - C.d*x1*x2*y1*y2))*((x1*y2+x2*y1)*(1 - C.d*x1*x2*y1*y2)) = ((1 + C.d*x1*x2*y1*y2)*(1 - C.d*x1*x2*y1*y2))*((1 + C.d*x1*x2*y1*y2)*(1 - C.d*x1*x2*y1*y2)) + C.d*((x1*y2+x2*y1)*(x1*y2+x2*y1))*((y1*y2+x1*x2)*(y1*y2+x1*x2)) := by grind
  generalize C.d * x1 * x2 * y1 * y2 = ee at *;generalize y1*y2+x1*x2 = B at *;generalize x1*y2+x2*y1 = A at *;clear hP hQ;have e1 : (a * b) * (a * b) * (B * (1 + ee) * (B * (1 + ee)) - A * (1 - ee) * (A * (1 - ee))) = B * b * (B * b) - A * a * (A * a) := by grind
  have e2 : (a * b) * (a * b) * ((1 + ee) * (1 - ee) * ((1 + ee) * (1 - ee)) + C.d * (A * A) * (B * B)) = 1 + C.d * (A * a) * (A * a) * (B * b) * (B * b) := by grind
  rw [← e1, ← e2, k]

theorem Cv.frac (C : Cv R) {X Y n m k l : R} (hm : m ≠ 0) (hl : l ≠ 0) (h1 : X * m = n) (h2 : Y * l = k) (h : n * l = k * m) : X = Y :=
  C.cancel (C.no_zero hm hl) (by grind)
theorem Cv.third {P Q S : Pt R} (hP : C.on P) (hQ : C.on Q) (hS : C.on S) :
    (C.add (C.add P Q) S).x * ((1 - C.e P Q) * (1 + C.e P Q) + C.d * S.x * S.y * (P.x * Q.y + Q.x * P.y) * (P.y * Q.y + P.x * Q.x)) = (P.x * Q.y + Q.x * P.y) * S.y * (1 - C.e P Q) + S.x * (P.y * Q.y + P.x * Q.x) * (1 + C.e P Q) ∧
    (C.add (C.add P Q) S).y * ((1 - C.e P Q) * (1 + C.e P Q) - C.d * S.x * S.y * (P.x * Q.y + Q.x * P.y) * (P.y * Q.y + P.x * Q.x)) = (P.y * Q.y + P.x * Q.x) * S.y * (1 + C.e P Q) + S.x * (P.x * Q.y + Q.x * P.y) * (1 - C.e P Q) ∧
    (1 - C.e P Q) * (1 + C.e P Q) + C.d * S.x * S.y * (P.x * Q.y + Q.x * P.y) * (P.y * Q.y + P.x * Q.x) ≠ 0 ∧ (1 - C.e P Q) * (1 + C.e P Q) - C.d * S.x * S.y * (P.x * Q.y + Q.x * P.y) * (P.y * Q.y + P.x * Q.x) ≠ 0 := by
  have p1 := C.plus_ne hP hQ;have p2 := C.minus_ne hP hQ;have hA := C.on_add hP hQ;have p3 := C.plus_ne hA hS;have p4 := C.minus_ne hA hS;have h1 := C.mul_inv _ p1;have h2 := C.mul_inv _ p2;have h3 := C.mul_inv _ p3;have h4 := C.mul_inv _ p4;have m1 := C.no_zero (C.no_zero p2 p1) p3;have m2 := C.no_zero (C.no_zero p2 p1) p4;generalize he : C.e P Q = ee at *;have eA : C.e (C.add P Q) S = C.d * ((P.x * Q.y + Q.x * P.y) * C.inv (1 + ee)) * S.x * ((P.y * Q.y + P.x * Q.x) * C.inv (1 - ee)) * S.y := by rw [← he]; rfl
  have xA : (C.add (C.add P Q) S).x = ((P.x * Q.y + Q.x * P.y) * C.inv (1 + ee) * S.y + S.x * ((P.y * Q.y + P.x * Q.x) * C.inv (1 - ee))) * C.inv (1 + C.e (C.add P Q) S) := by rw [← he]; rfl
  have yA : (C.add (C.add P Q) S).y = ((P.y * Q.y + P.x * Q.x) * C.inv (1 - ee) * S.y + (P.x * Q.y + Q.x * P.y) * C.inv (1 + ee) * S.x) * C.inv (1 - C.e (C.add P Q) S) := by rw [← he]; rfl
  rw [xA, yA];generalize C.inv (1 + C.e (C.add P Q) S) = u at *;generalize C.inv (1 - C.e (C.add P Q) S) = v at *;rw [eA] at h3 h4 m1 m2;generalize C.inv (1 + ee) = a at *;generalize C.inv (1 - ee) = b at *;generalize P.x * Q.y + Q.x * P.y = A at *;generalize P.y * Q.y + P.x * Q.x = B at *;clear he eA xA yA hA p3 p4 hP hQ hS;have k1 : (1 - ee) * (1 + ee) + C.d * S.x * S.y * A * B = (1 - ee) * (1 + ee) * (1 + C.d * (A * a) * S.x * (B * b) * S.y) := by grind
  have k2 : (1 - ee) * (1 + ee) - C.d * S.x * S.y * A * B = (1 - ee) * (1 + ee) * (1 - C.d * (A * a) * S.x * (B * b) * S.y) := by grind
  rw [k1, k2];refine ⟨?_, ?_, m1, m2⟩
  · generalize (1 + C.d * (A * a) * S.x * (B * b) * S.y) = w at *
    have : (A * a * S.y + S.x * (B * b)) * u * ((1 - ee) * (1 + ee) * w) = (A * ((1 + ee) * a) * (1 - ee) * S.y + S.x * (B * ((1 - ee) * b)) * (1 + ee)) * (w * u) := by grind
    rw [this, h1, h2, h3]; grind
  · generalize (1 - C.d * (A * a) * S.x * (B * b) * S.y) = w at *
    have : (B * b * S.y + A * a * S.x) * v * ((1 - ee) * (1 + ee) * w) = (B * ((1 - ee) * b) * (1 + ee) * S.y + S.x * (A * ((1 + ee) * a)) * (1 - ee)) * (w * v) := by grind
    rw [this, h1, h2, h4]; grind
theorem Cv.add_assoc {P Q S : Pt R} (hP : C.on P) (hQ : C.on Q) (hS : C.on S) : C.add (C.add P Q) S = C.add P (C.add Q S) := by
  rw [C.add_comm P (C.add Q S)];obtain ⟨a1, a2, a3, a4⟩ := C.third hP hQ hS;obtain ⟨b1, b2, b3, b4⟩ := C.third hQ hS hP;have hx : (C.add (C.add P Q) S).x = (C.add (C.add Q S) P).x := by
    refine C.frac a3 b3 a1 b1 ?_;clear a1 a2 a3 a4 b1 b2 b3 b4;simp only [on, e] at *;grind
  have hy : (C.add (C.add P Q) S).y = (C.add (C.add Q S) P).y := by
    refine C.frac a4 b4 a2 b2 ?_;clear a1 a2 a3 a4 b1 b2 b3 b4 hx;simp only [on, e] at *;grind
  revert hx hy;generalize C.add (C.add P Q) S = U;generalize C.add (C.add Q S) P = V;obtain ⟨x, y⟩ := U;obtain ⟨z, w⟩ := V;rintro rfl rfl;rfl
end
section
variable {R : Type} [CommRing R] (C : Cv R)
theorem Cv.zero_add (P : Pt R) : C.add zero P = P := by rw [C.add_comm, C.add_zero]
def Cv.mul : Nat → Pt R → Pt R
  | 0, _ => zero
  | n + 1, P => C.add (Cv.mul n P) P
theorem Cv.on_mul {P : Pt R} (h : C.on P) : ∀ n, C.on (C.mul n P)
  | 0 => C.on_zero
  | n + 1 => C.on_add (Cv.on_mul h n) h
theorem Cv.mul_one (P : Pt R) : C.mul 1 P = P := C.zero_add P
theorem Cv.mul_add {P : Pt R} (h : C.on P) (m : Nat) : ∀ n, C.mul (m + n) P = C.add (C.mul m P) (C.mul n P)
  | 0 => (C.add_zero _).symm
  | n + 1 => by
    show C.add (C.mul (m + n) P) P = C.add (C.mul m P) (C.add (C.mul n P) P);rw [Cv.mul_add h m n, C.add_assoc (C.on_mul h m) (C.on_mul h n) h]
theorem Cv.swap4 {P Q S T : Pt R} (hP : C.on P) (hQ : C.on Q) (hS : C.on S) (hT : C.on T) : C.add (C.add P Q) (C.add S T) = C.add (C.add P S) (C.add Q T) := by
  rw [C.add_assoc hP hQ (C.on_add hS hT), ← C.add_assoc hQ hS hT, C.add_comm Q S, C.add_assoc hS hQ hT, ← C.add_assoc hP hS (C.on_add hQ hT)]
theorem Cv.mul_plus {P Q : Pt R} (hP : C.on P) (hQ : C.on Q) : ∀ n, C.mul n (C.add P Q) = C.add (C.mul n P) (C.mul n Q)
  | 0 => (C.add_zero _).symm
  | n + 1 => by
    show C.add (C.mul n (C.add P Q)) (C.add P Q) = C.add (C.add (C.mul n P) P) (C.add (C.mul n Q) Q);rw [Cv.mul_plus hP hQ n, C.swap4 (C.on_mul hP n) (C.on_mul hQ n) hP hQ]
theorem Cv.mul_zero : ∀ n, C.mul n (zero : Pt R) = zero
  | 0 => rfl
  | n + 1 => by show C.add (C.mul n zero) zero = zero; rw [Cv.mul_zero n, C.add_zero]
theorem Cv.mul_mul {P : Pt R} (h : C.on P) (m : Nat) : ∀ n, C.mul (m * n) P = C.mul m (C.mul n P)
  | 0 => (C.mul_zero m).symm
  | n + 1 => by
    rw [Nat.mul_succ, C.mul_add h, Cv.mul_mul h m n];show _ = C.mul m (C.add (C.mul n P) P);rw [C.mul_plus (C.on_mul h n) h]
theorem Cv.mul_two {P : Pt R} (h : C.on P) (n : Nat) : C.mul (2 * n) P = C.add (C.mul n P) (C.mul n P) := by rw [Nat.two_mul, C.mul_add h]
theorem Cv.mul_order {P : Pt R} (h : C.on P) {L : Nat} (hL : C.mul L P = zero) (n : Nat) : C.mul (n % L) P = C.mul n P := by
  have e : C.mul (n % L + L * (n / L)) P = C.mul (n % L) P := by
    rw [C.mul_add h, Nat.mul_comm, C.mul_mul h, hL, C.mul_zero, C.add_zero]
  rw [← e, Nat.mod_add_div]
theorem Cv.neg_unique {P Q : Pt R} (hP : C.on P) (hQ : C.on Q) (h : C.add P Q = zero) : Q = neg P := by
  have h1 := C.add_assoc (C.on_neg hP) hP hQ;rw [h, C.add_zero, C.add_comm (neg P) P, C.add_neg hP, C.zero_add] at h1;exact h1
theorem Cv.neg_add {P Q : Pt R} (hP : C.on P) (hQ : C.on Q) : neg (C.add P Q) = C.add (neg P) (neg Q) := by
  refine (C.neg_unique (C.on_add hP hQ) (C.on_add (C.on_neg hP) (C.on_neg hQ)) ?_).symm;rw [C.swap4 hP hQ (C.on_neg hP) (C.on_neg hQ), C.add_neg hP, C.add_neg hQ, C.add_zero]
theorem Cv.mul_neg {P : Pt R} (h : C.on P) : ∀ n, C.mul n (neg P) = neg (C.mul n P)
  | 0 => by show (zero : Pt R) = neg zero; simp only [zero, neg]; congr 1; grind
  | n + 1 => by
    show C.add (C.mul n (neg P)) (neg P) = neg (C.add (C.mul n P) P);rw [Cv.mul_neg h n, C.neg_add (C.on_mul h n) h]

theorem Cv.below_ne (C : Cv R) (Y : R) : C.d * (Y * Y) + 1 ≠ 0 := fun h => by
  have hi := C.i_sq;by_cases hY : Y = 0
  · rw [hY] at h
    exact C.one_ne (by grind)
  · exact C.sq_no (u := C.i) (v := Y) hY (by grind)
theorem Cv.on_read {x Y u : R} (h2 : (C.d * (Y * Y) + 1) * u = 1) (h3 : x * x = (Y * Y - 1) * u) : C.on ⟨x, Y⟩ := by
  show Y * Y - x * x = 1 + C.d * x * x * Y * Y;have h4 : x * x * (C.d * (Y * Y) + 1) = Y * Y - 1 := by
    rw [h3];have : (Y * Y - 1) * u * (C.d * (Y * Y) + 1) = (Y * Y - 1) * ((C.d * (Y * Y) + 1) * u) := by grind
    rw [this, h2]; grind
  grind
theorem Cv.on_iff (P : Pt R) : C.on P ↔ P.y * P.y - P.x * P.x = 1 + C.d * (P.x * P.x * (P.y * P.y)) := by
  have e : C.d * P.x * P.x * P.y * P.y = C.d * (P.x * P.x * (P.y * P.y)) := by grind
  simp only [on, e]
theorem sq_neg (x : R) : -x * -x = x * x := by grind
structure Wd (R : Type) where
  x : R
  y : R
  z : R
  t : R
structure Wd.rep (w : Wd R) (P : Pt R) : Prop where
  z : w.z ≠ 0
  x : w.x = P.x * w.z
  y : w.y = P.y * w.z
  t : w.t = P.x * P.y * w.z
def Wd.fin (e f g h : R) : Wd R := ⟨e * f, g * h, f * g, e * h⟩
def Wd.add (d : R) (w p : Wd R) : Wd R :=
  Wd.fin ((w.y + w.x) * (p.y + p.x) - (w.y - w.x) * (p.y - p.x)) (w.z * p.z + w.z * p.z - w.t * (d + d) * p.t) (w.z * p.z + w.z * p.z + w.t * (d + d) * p.t) ((w.y + w.x) * (p.y + p.x) + (w.y - w.x) * (p.y - p.x))
def Wd.dbl (w : Wd R) : Wd R :=
  Wd.fin (w.x * w.x + w.y * w.y - (w.x + w.y) * (w.x + w.y)) (w.z * w.z + w.z * w.z + (w.x * w.x - w.y * w.y)) (w.x * w.x - w.y * w.y) (w.x * w.x + w.y * w.y)
def Wd.of (P : Pt R) : Wd R := ⟨P.x, P.y, 1, P.x * P.y⟩
theorem Cv.rep_of (C : Cv R) (P : Pt R) : (Wd.of P).rep P := ⟨C.one_ne, by simp only [Wd.of]; grind, by simp only [Wd.of]; grind, by simp only [Wd.of]; grind⟩
theorem Cv.rep_add {w p : Wd R} {P Q : Pt R} (hw : w.rep P) (hp : p.rep Q) (hP : C.on P) (hQ : C.on Q) : (Wd.add C.d w p).rep (C.add P Q) := by
  have p1 := C.plus_ne hP hQ;have p2 := C.minus_ne hP hQ;have h1 := C.mul_inv _ p1;have h2 := C.mul_inv _ p2;obtain ⟨w1, w2, w3, w4⟩ := hw;obtain ⟨q1, q2, q3, q4⟩ := hp;have hzz := C.no_zero w1 q1;have hz2 := C.no_zero (C.no_zero C.two_ne hzz) (C.no_zero C.two_ne hzz);have hz3 := C.no_zero hz2 (C.no_zero p2 p1);obtain ⟨x, y, z, t⟩ := w;obtain ⟨x', y', z', t'⟩ := p;simp only at *;subst w2 w3 w4 q2 q3 q4;have e1 : C.e P Q = C.d * P.x * Q.x * P.y * Q.y := rfl;simp only [Cv.add, Wd.add, Wd.fin];generalize C.inv (1 + C.e P Q) = a at *;generalize C.inv (1 - C.e P Q) = b at *;have f1 : z * z' + z * z' - P.x * P.y * z * (C.d + C.d) * (Q.x * Q.y * z') = (1 + 1) * (z * z') * (1 - C.e P Q) := by rw [e1]; grind
  have f2 : z * z' + z * z' + P.x * P.y * z * (C.d + C.d) * (Q.x * Q.y * z') = (1 + 1) * (z * z') * (1 + C.e P Q) := by rw [e1]; grind
  have f3 : (P.y * z + P.x * z) * (Q.y * z' + Q.x * z') - (P.y * z - P.x * z) * (Q.y * z' - Q.x * z') = (1 + 1) * (z * z') * (P.x * Q.y + Q.x * P.y) := by grind
  have f4 : (P.y * z + P.x * z) * (Q.y * z' + Q.x * z') + (P.y * z - P.x * z) * (Q.y * z' - Q.x * z') = (1 + 1) * (z * z') * (P.y * Q.y + P.x * Q.x) := by grind
  rw [f1, f2, f3, f4];generalize P.x * Q.y + Q.x * P.y = A at *;generalize P.y * Q.y + P.x * Q.x = B at *;generalize C.e P Q = ee at *;generalize (1 + 1) * (z * z') = k at *;constructor <;> simp only
  · intro h; exact hz3 (by grind)
  · have : A * a * (k * (1 - ee) * (k * (1 + ee))) = k * A * (k * (1 - ee)) * ((1 + ee) * a) := by grind
    rw [this, h1]; grind
  · have : B * b * (k * (1 - ee) * (k * (1 + ee))) = k * (1 + ee) * (k * B) * ((1 - ee) * b) := by grind
    rw [this, h2]; grind
  · have : A * a * (B * b) * (k * (1 - ee) * (k * (1 + ee))) = k * A * (k * B) * ((1 + ee) * a) * ((1 - ee) * b) := by grind
    rw [this, h1, h2]; grind
theorem Cv.rep_dbl {w : Wd R} {P : Pt R} (hw : w.rep P) (hP : C.on P) : (Wd.dbl w).rep (C.add P P) := by
  have p1 := C.plus_ne hP hP;have p2 := C.minus_ne hP hP;have h1 := C.mul_inv _ p1;have h2 := C.mul_inv _ p2;obtain ⟨w1, w2, w3, w4⟩ := hw;have hzz := C.no_zero w1 w1;have hz2 := C.no_zero hzz hzz;have hz3 := C.no_zero hz2 (C.no_zero p2 p1);obtain ⟨x, y, z, t⟩ := w;simp only at *;subst w2 w3 w4;have e1 : P.y * P.y - P.x * P.x = 1 + C.e P P := by
    have h := hP;simp only [on] at h;rw [h]; rfl
  simp only [Cv.add, Wd.dbl, Wd.fin];generalize C.inv (1 + C.e P P) = a at *;generalize C.inv (1 - C.e P P) = b at *;generalize C.e P P = ee at *;have f1 : z * z + z * z + (P.x * z * (P.x * z) - P.y * z * (P.y * z)) = (z * z) * (1 - ee) := by grind
  have f2 : P.x * z * (P.x * z) - P.y * z * (P.y * z) = - ((z * z) * (1 + ee)) := by grind
  have f3 : P.x * z * (P.x * z) + P.y * z * (P.y * z) - (P.x * z + P.y * z) * (P.x * z + P.y * z) = - ((z * z) * (P.x * P.y + P.x * P.y)) := by grind
  have f4 : P.x * z * (P.x * z) + P.y * z * (P.y * z) = (z * z) * (P.y * P.y + P.x * P.x) := by grind
  rw [f1, f2, f3, f4];clear f1 f2 f3 f4 e1;generalize P.x * P.y + P.x * P.y = A at *;generalize P.y * P.y + P.x * P.x = B at *;generalize z * z = k at *;constructor <;> simp only
  · intro h; exact hz3 (by grind)
  · have : A * a * (k * (1 - ee) * -(k * (1 + ee))) = -(k * A) * (k * (1 - ee)) * ((1 + ee) * a) := by grind
    rw [this, h1]; grind
  · have : B * b * (k * (1 - ee) * -(k * (1 + ee))) = -(k * (1 + ee)) * (k * B) * ((1 - ee) * b) := by grind
    rw [this, h2]; grind
  · have : A * a * (B * b) * (k * (1 - ee) * -(k * (1 + ee))) = -(k * A) * (k * B) * ((1 + ee) * a) * ((1 - ee) * b) := by grind
    rw [this, h1, h2]; grind
theorem Cv.rep_pt {w : Wd R} {P : Pt R} (hw : w.rep P) : (⟨w.x * C.inv w.z, w.y * C.inv w.z⟩ : Pt R) = P := by
  have h1 := C.mul_inv _ hw.z;rw [hw.x, hw.y];obtain ⟨x, y⟩ := P;simp only;congr 1 <;> grind

structure Fr (R : Type) where
  x : R
  y : R
  z : R
structure Fr.rep (w : Fr R) (P : Pt R) : Prop where
  z : w.z ≠ 0
  x : w.x = P.x * w.z
  y : w.y = P.y * w.z
def Fr.add (d : R) (p q : Fr R) : Fr R :=
  ⟨p.z * q.z * ((p.z * q.z * (p.z * q.z) - d * (p.x * q.x * (p.y * q.y))) * ((p.x + p.y) * (q.x + q.y) - (p.x * q.x + p.y * q.y))), p.z * q.z * ((p.z * q.z * (p.z * q.z) + d * (p.x * q.x * (p.y * q.y))) * (p.x * q.x + p.y * q.y)), (p.z * q.z * (p.z * q.z) - d * (p.x * q.x * (p.y * q.y))) * (p.z * q.z * (p.z * q.z) + d * (p.x * q.x * (p.y * q.y)))⟩
def Fr.of (P : Pt R) : Fr R := ⟨P.x, P.y, 1⟩
theorem Cv.far_of (C : Cv R) (P : Pt R) : (Fr.of P).rep P := ⟨C.one_ne, by simp only [Fr.of]; grind, by simp only [Fr.of]; grind⟩
theorem Cv.far_add {w p : Fr R} {P Q : Pt R} (hw : w.rep P) (hp : p.rep Q) (hP : C.on P) (hQ : C.on Q) : (Fr.add C.d w p).rep (C.add P Q) := by
  have p1 := C.plus_ne hP hQ;have p2 := C.minus_ne hP hQ;have h1 := C.mul_inv _ p1;have h2 := C.mul_inv _ p2;obtain ⟨w1, w2, w3⟩ := hw;obtain ⟨q1, q2, q3⟩ := hp;have hzz := C.no_zero w1 q1;have hz2 := C.no_zero (C.no_zero hzz hzz) (C.no_zero hzz hzz);have hz3 := C.no_zero hz2 (C.no_zero p2 p1);obtain ⟨x, y, z⟩ := w;obtain ⟨x', y', z'⟩ := p;simp only at *;subst w2 w3 q2 q3;have e1 : C.e P Q = C.d * P.x * Q.x * P.y * Q.y := rfl;simp only [Cv.add, Fr.add];generalize C.inv (1 + C.e P Q) = a at *;generalize C.inv (1 - C.e P Q) = b at *;have f1 : z * z' * (z * z') - C.d * (P.x * z * (Q.x * z') * (P.y * z * (Q.y * z'))) = z * z' * (z * z') * (1 - C.e P Q) := by rw [e1]; grind
  have f2 : z * z' * (z * z') + C.d * (P.x * z * (Q.x * z') * (P.y * z * (Q.y * z'))) = z * z' * (z * z') * (1 + C.e P Q) := by rw [e1]; grind
  have f3 : (P.x * z + P.y * z) * (Q.x * z' + Q.y * z') - (P.x * z * (Q.x * z') + P.y * z * (Q.y * z')) = z * z' * (P.x * Q.y + Q.x * P.y) := by grind
  have f4 : P.x * z * (Q.x * z') + P.y * z * (Q.y * z') = z * z' * (P.y * Q.y + P.x * Q.x) := by grind
  rw [f3, f1, f2, f4];clear f1 f2 f3 f4;generalize P.x * Q.y + Q.x * P.y = A at *;generalize P.y * Q.y + P.x * Q.x = B at *;generalize C.e P Q = ee at *;generalize z * z' = k at *;constructor <;> simp only
  · intro h; exact hz3 (by grind)
  · have : A * a * (k * k * (1 - ee) * (k * k * (1 + ee))) = k * (k * k * (1 - ee) * (k * A)) * ((1 + ee) * a) := by grind
    rw [this, h1]; grind
  · have : B * b * (k * k * (1 - ee) * (k * k * (1 + ee))) = k * (k * k * (1 + ee) * (k * B)) * ((1 - ee) * b) := by grind
    rw [this, h2]; grind
theorem Cv.far_pt {w : Fr R} {P : Pt R} (hw : w.rep P) : (⟨w.x * C.inv w.z, w.y * C.inv w.z⟩ : Pt R) = P := by
  have h1 := C.mul_inv _ hw.z;rw [hw.x, hw.y];obtain ⟨x, y⟩ := P;simp only;congr 1 <;> grind

def Cv.lin (a b : Nat) (P Q : Pt R) : Pt R := C.add (C.mul a P) (C.mul b Q)
theorem Cv.on_lin {P Q : Pt R} (hP : C.on P) (hQ : C.on Q) (a b : Nat) : C.on (C.lin a b P Q) := C.on_add (C.on_mul hP a) (C.on_mul hQ b)
theorem Cv.lin_two {P Q : Pt R} (hP : C.on P) (hQ : C.on Q) (a b : Nat) : C.lin (2 * a) (2 * b) P Q = C.add (C.lin a b P Q) (C.lin a b P Q) := by
  simp only [lin];rw [C.mul_two hP, C.mul_two hQ, C.swap4 (C.on_mul hP a) (C.on_mul hP a) (C.on_mul hQ b) (C.on_mul hQ b)]
theorem Cv.lin_left {P Q : Pt R} (hP : C.on P) (hQ : C.on Q) (a b : Nat) : C.lin (a + 1) b P Q = C.add (C.lin a b P Q) P := by
  simp only [lin];show C.add (C.add (C.mul a P) P) (C.mul b Q) = _;rw [C.add_assoc (C.on_mul hP a) hP (C.on_mul hQ b), C.add_comm P, ← C.add_assoc (C.on_mul hP a) (C.on_mul hQ b) hP]
theorem Cv.lin_right {P Q : Pt R} (hP : C.on P) (hQ : C.on Q) (a b : Nat) : C.lin a (b + 1) P Q = C.add (C.lin a b P Q) Q := by
  simp only [lin];show C.add (C.mul a P) (C.add (C.mul b Q) Q) = _;rw [← C.add_assoc (C.on_mul hP a) (C.on_mul hQ b) hQ]
theorem Cv.lin_both {P Q : Pt R} (hP : C.on P) (hQ : C.on Q) (a b : Nat) : C.lin (a + 1) (b + 1) P Q = C.add (C.lin a b P Q) (C.add P Q) := by
  rw [C.lin_right hP hQ, C.lin_left hP hQ, C.add_assoc (C.on_lin hP hQ a b) hP hQ]
theorem Cv.lin_zero (P Q : Pt R) : C.lin 0 0 P Q = zero := C.add_zero _
def mulW (d : R) (P : Wd R) : List Bool → Wd R → Wd R
  | [], acc => acc
  | true :: bs, acc => mulW d P bs (Wd.add d (Wd.dbl acc) P)
  | false :: bs, acc => mulW d P bs (Wd.dbl acc)
theorem mulW_t (d : R) (P : Wd R) (bs : List Bool) (acc : Wd R) : mulW d P (true :: bs) acc = mulW d P bs (Wd.add d (Wd.dbl acc) P) := rfl
theorem mulW_f (d : R) (P : Wd R) (bs : List Bool) (acc : Wd R) : mulW d P (false :: bs) acc = mulW d P bs (Wd.dbl acc) := rfl
def bitsV (a : Nat) : List Bool → Nat
  | [] => a
  | true :: bs => bitsV (2 * a + 1) bs
  | false :: bs => bitsV (2 * a) bs
theorem Cv.mulW_rep {P : Pt R} (hP : C.on P) {p : Wd R} (hp : p.rep P) : ∀ (bs : List Bool) (acc : Wd R) (a : Nat), acc.rep (C.mul a P) → (mulW C.d p bs acc).rep (C.mul (bitsV a bs) P)
  | [], acc, a, h => h
  | false :: bs, acc, a, h => by
    have h2 : (Wd.dbl acc).rep (C.mul (2 * a) P) := by
      rw [C.mul_two hP];exact C.rep_dbl h (C.on_mul hP a)
    exact Cv.mulW_rep hP hp bs _ _ h2
  | true :: bs, acc, a, h => by
    have h2 : (Wd.dbl acc).rep (C.mul (2 * a) P) := by
      rw [C.mul_two hP];exact C.rep_dbl h (C.on_mul hP a)
    exact Cv.mulW_rep hP hp bs (Wd.add C.d (Wd.dbl acc) p) (2 * a + 1) (C.rep_add h2 hp (C.on_mul hP _) hP)
end
def toBits : Nat → Nat → List Bool
  | 0, _ => []
  | k + 1, n => (n / 2 ^ k % 2 == 1) :: toBits k n
theorem toBits_v : ∀ (k n a : Nat), bitsV a (toBits k n) = a * 2 ^ k + n % 2 ^ k
  | 0, n, a => by simp [toBits, bitsV, Nat.mod_one]
  | k + 1, n, a => by
    have e1 : n % 2 ^ (k + 1) = n % 2 ^ k + 2 ^ k * (n / 2 ^ k % 2) := by rw [Nat.pow_succ, Nat.mod_mul]
    have h := Nat.mod_two_eq_zero_or_one (n / 2 ^ k);rw [toBits, e1];rcases h with h | h
    · rw [h, show ((0 : Nat) == 1) = false from rfl, bitsV, toBits_v k n, Nat.pow_succ, Nat.mul_zero, Nat.add_zero, Nat.mul_comm 2 a, Nat.mul_assoc, Nat.mul_comm 2]
    · rw [h, show ((1 : Nat) == 1) = true from rfl, bitsV, toBits_v k n, Nat.pow_succ, Nat.mul_one, Nat.add_mul, Nat.one_mul, Nat.mul_comm 2 a, Nat.mul_assoc, Nat.mul_comm 2]
      omega
end Ed
end

section
namespace Hw
open Go

def le : List UInt8 → Nat
  | [] => 0
  | b :: l => b.toNat + 256 * le l

def leb : Nat → Nat → List UInt8
  | 0, _ => []
  | k + 1, n => UInt8.ofNat n :: leb k (n / 256)

def w64 (n : Nat) : UInt64 := UInt64.ofNat n

def wv (l : List UInt64) : Nat := l.foldl (fun a x => a * 2 ^ 64 + x.toNat) 0

def Bp (n : Nat) : List UInt64 := [w64 (n / 2 ^ 192), w64 (n / 2 ^ 128), w64 (n / 2 ^ 64), w64 n]

theorem Ag : ∀ k n, (leb k n).length = k
  | 0, _ => rfl
  | k + 1, n => by simp [leb, Ag k]

theorem le_leb : ∀ k n, le (leb k n) = n % 256 ^ k
  | 0, n => by simp [le, leb, Nat.mod_one]
  | k + 1, n => by
    rw [leb, le, le_leb k, Nat.pow_succ, Nat.mul_comm (256 ^ k) 256, Nat.mod_mul];simp

theorem le_lt : ∀ l : List UInt8, le l < 256 ^ l.length
  | [] => by simp [le]
  | b :: l => by
    have := le_lt l;have := b.toNat_lt;rw [le, List.length_cons, Nat.pow_succ];omega

theorem le32 {l : List UInt8} (h : l.length = 32) : le l < 2 ^ 256 := by
  have := le_lt l; rw [h] at this; exact this

theorem leb_le : ∀ l : List UInt8, leb l.length (le l) = l
  | [] => rfl
  | b :: l => by
    have h := b.toNat_lt;have h1 : (b.toNat + 256 * le l) / 256 = le l := by omega
    have h2 : UInt8.ofNat (b.toNat + 256 * le l) = b := by
      apply UInt8.toNat_inj.1;rw [UInt8.toNat_ofNat'];omega
    rw [le, List.length_cons, leb, h1, h2, leb_le l]

theorem le_append : ∀ a b : List UInt8, le (a ++ b) = le a + 256 ^ a.length * le b
  | [], b => by simp [le]
  | x :: a, b => by
    have : 256 ^ a.length * 256 * le b = 256 * (256 ^ a.length * le b) := by rw [Nat.mul_comm (256 ^ a.length) 256, Nat.mul_assoc]
    rw [List.cons_append, le, le_append a b, le, List.length_cons, Nat.pow_succ, this];omega

theorem Bl (n : Nat) : (w64 n).toNat = n % 2 ^ 64 := by simp [w64]

theorem wv4 (a b c d : UInt64) : wv [a, b, c, d] = ((a.toNat * 2 ^ 64 + b.toNat) * 2 ^ 64 + c.toNat) * 2 ^ 64 + d.toNat := by
  simp [wv]

theorem Cn (n : Nat) : (Bp n).length = 4 := rfl

theorem wv_take_succ (l : List UInt64) (k : Nat) (h : k < l.length) : wv (l.take (k + 1)) = wv (l.take k) * 2 ^ 64 + (l.getD k 0).toNat := by
  rw [List.take_succ_eq_append_getElem h, wv, List.foldl_append];simp [wv, List.getD, h]

theorem words4_wv {l : List UInt64} (h : l.length = 4) : Bp (wv l) = l := by
  match l, h with
  | [a, b, c, d], _ =>
    have ha := a.toNat_lt; have hb := b.toNat_lt; have hc := c.toNat_lt; have hd := d.toNat_lt;rw [wv4];simp only [Bp];have e1 : w64 ((((a.toNat * 2 ^ 64 + b.toNat) * 2 ^ 64 + c.toNat) * 2 ^ 64 + d.toNat) / 2 ^ 192) = a := by
      apply UInt64.toNat_inj.1; rw [Bl]; omega
    have e2 : w64 ((((a.toNat * 2 ^ 64 + b.toNat) * 2 ^ 64 + c.toNat) * 2 ^ 64 + d.toNat) / 2 ^ 128) = b := by
      apply UInt64.toNat_inj.1; rw [Bl]; omega
    have e3 : w64 ((((a.toNat * 2 ^ 64 + b.toNat) * 2 ^ 64 + c.toNat) * 2 ^ 64 + d.toNat) / 2 ^ 64) = c := by
      apply UInt64.toNat_inj.1; rw [Bl]; omega
    have e4 : w64 ((((a.toNat * 2 ^ 64 + b.toNat) * 2 ^ 64 + c.toNat) * 2 ^ 64 + d.toNat)) = d := by
      apply UInt64.toNat_inj.1; rw [Bl]; omega
    rw [e1, e2, e3, e4]

theorem wv_words4 (n : Nat) : wv (Bp n) = n % 2 ^ 256 := by
  rw [Bp, wv4];simp only [Bl];omega

theorem words4_mod (n : Nat) : Bp (n % 2 ^ 256) = Bp n := by
  rw [← wv_words4, words4_wv rfl]

def L : Nat := 7237005577332262213973186563042994240857116359379907606001950938285454250989


def cmp1 (x y : UInt64) : Int := if x.toNat < y.toNat then -1 else if y.toNat < x.toNat then 1 else 0

def cmpW : List UInt64 → List UInt64 → Int
  | x :: xs, y :: ys => if cmp1 x y = 0 then cmpW xs ys else cmp1 x y
  | _, _ => 0

theorem cmp1_self (x : UInt64) : cmp1 x x = 0 := by simp [cmp1]

theorem cmpW_at : ∀ (k : Nat) (xs ys : List UInt64), (∀ j, j < k → xs.getD j 0 = ys.getD j 0) → k < xs.length → k < ys.length → cmp1 (xs.getD k 0) (ys.getD k 0) ≠ 0 → cmpW xs ys = cmp1 (xs.getD k 0) (ys.getD k 0)
  | _, [], _, _, h, _, _ => by simp at h
  | _, _, [], _, _, h, _ => by simp at h
  | 0, x :: xs, y :: ys, _, _, _, hc => by
    simp at hc;simp [cmpW, hc]
  | k + 1, x :: xs, y :: ys, h, hx, hy, hc => by
    have h0 := h 0 oM;simp at h0;subst h0;have := cmpW_at k xs ys (fun j hj => by have := h (j + 1) oM; simpa using this) (by simpa using hx) (by simpa using hy) (by simpa using hc);simpa [cmpW, cmp1_self] using this

theorem cmpW_all : ∀ (xs ys : List UInt64), xs.length = ys.length → (∀ j, j < xs.length → xs.getD j 0 = ys.getD j 0) → cmpW xs ys = 0
  | [], _, _, _ => by simp [cmpW]
  | _ :: _, [], h, _ => by simp at h
  | x :: xs, y :: ys, hl, h => by
    have h0 := h 0 sP;simp at h0;subst h0;have := cmpW_all xs ys (by simpa using hl) (fun j hj => by have := h (j + 1) (by simp; omega); simpa using this);simpa [cmpW, cmp1_self] using this

theorem cmp1_eq {x y : UInt64} (h : cmp1 x y = 0) : x = y := by
  apply UInt64.toNat_inj.1;unfold cmp1 at h;split at h
  · simp at h
  · split at h
    · simp at h
    · omega

theorem cmpW_lt {w m : List UInt64} (hw : w.length = 4) (hm : m.length = 4) : cmpW w m < 0 ↔ wv w < wv m := by
  match w, hw, m, hm with
  | [a, b, c, d], _, [e, f, g, h], _ =>
    rw [wv4, wv4];have ha := a.toNat_lt; have hb := b.toNat_lt; have hc := c.toNat_lt; have hd := d.toNat_lt;have he := e.toNat_lt; have hf := f.toNat_lt; have hg := g.toNat_lt; have hh := h.toNat_lt;simp only [cmpW, cmp1]
    repeat' split
    all_goals omega

def mulHi (x y : UInt64) : UInt64 :=
  let x0 := x &&& 4294967295
  let x1 := Ap x 32
  let y0 := y &&& 4294967295
  let y1 := Ap y 32
  let t := x1 * y0 + Ap (x0 * y0) 32
  x1 * y1 + Ap t 32 + Ap ((t &&& 4294967295) + x0 * y1) 32

theorem A4 (x : UInt64) (n : Nat) : (Ap x n).toNat = x.toNat / 2 ^ n := by
  have h : x.toNat / 2 ^ n ≤ x.toNat := Nat.div_le_self _ _;have := x.toNat_lt;rw [Ap, UInt64.toNat_ofNat', Nat.mod_eq_of_lt oM]
theorem Bt (x : UInt64) (n : Nat) : (Ay x n).toNat = x.toNat * 2 ^ n % 2 ^ 64 := by rw [Ay, UInt64.toNat_ofNat']
theorem and32_toNat (x : UInt64) : (x &&& 4294967295).toNat = x.toNat % 4294967296 := by
  rw [UInt64.toNat_and];exact Nat.and_two_pow_sub_one_eq_mod x.toNat 32

theorem mulHi_toNat (x y : UInt64) : (mulHi x y).toNat = x.toNat * y.toNat / 2 ^ 64 := by
  have hx := x.toNat_lt; have hy := y.toNat_lt;have key := mul64_arith (x.toNat : Int) (y.toNat : Int) oM oM oM oM;simp only [mulHi, UInt64.toNat_add, UInt64.toNat_mul, A4, and32_toNat];have e : ((x.toNat * y.toNat / 2 ^ 64 : Nat) : Int) = (x.toNat : Int) * y.toNat / 18446744073709551616 := by simp
  apply Int.ofNat.inj;show ((_ : Nat) : Int) = ((_ : Nat) : Int);rw [e, ← key];simp

end Hw
end

section
namespace Hw
open Go

def PF : Nat := 57896044618658097711785492504343953926634992332820282019728792003956564819949
def LOW : UInt64 := 2251799813685247
theorem low_toNat (x : UInt64) : (x &&& LOW).toNat = x.toNat % 2251799813685248 := by
  rw [UInt64.toNat_and];exact Nat.and_two_pow_sub_one_eq_mod x.toNat 51
theorem or_add {x y : UInt64} {k m : Nat} (hx : x.toNat < 2 ^ k) (hy : y.toNat = 2 ^ k * m) : (x ||| y).toNat = x.toNat + y.toNat := by
  rw [UInt64.toNat_or, hy, Nat.or_comm, ← Nat.two_pow_add_eq_or_of_lt hx];omega
structure W5 where
  a : UInt64
  b : UInt64
  c : UInt64
  d : UInt64
  e : UInt64
def W5.l (w : W5) : List UInt64 := [w.a, w.b, w.c, w.d, w.e]
def W5.v (w : W5) : Nat := w.a.toNat + 2251799813685248 * w.b.toNat + 5070602400912917605986812821504 * w.c.toNat + 11417981541647679048466287755595961091061972992 * w.d.toNat + 25711008708143844408671393477458601640355247900524685364822016 * w.e.toNat

def ldF (q0 q1 q2 q3 : UInt64) : W5 :=
  ⟨q0 &&& LOW, (Ap q0 51 ||| Ay q1 13) &&& LOW, (Ap q1 38 ||| Ay q2 26) &&& LOW, (Ap q2 25 ||| Ay q3 39) &&& LOW, Ap q3 12⟩
theorem mid_word (x y : UInt64) (s : Nat) (hs : s ≤ 64) : (Ap x (64 - s) ||| Ay y s).toNat = x.toNat / 2 ^ (64 - s) + y.toNat * 2 ^ s % 2 ^ 64 := by
  have hx : x.toNat / 2 ^ (64 - s) < 2 ^ s := by
    rw [Nat.div_lt_iff_lt_mul (Nat.pow_pos dE), ← Nat.pow_add, show s + (64 - s) = 64 by omega];exact x.toNat_lt
  have e : y.toNat * 2 ^ s % 2 ^ 64 = 2 ^ s * (y.toNat % 2 ^ (64 - s)) := by
    have h := Nat.mul_mod_mul_left (2 ^ s) y.toNat (2 ^ (64 - s));rw [← Nat.pow_add, show s + (64 - s) = 64 by omega, Nat.mul_comm] at h;exact h
  rw [or_add (k := s) (m := y.toNat % 2 ^ (64 - s)) (by rw [A4]; exact hx) (by rw [Bt, e]), A4, Bt]
structure W5.lt (w : W5) (n m : Nat) : Prop where
  a : w.a.toNat < n
  b : w.b.toNat < n
  c : w.c.toNat < n
  d : w.d.toNat < n
  e : w.e.toNat < m
theorem ldF_lt (q0 q1 q2 q3 : UInt64) : (ldF q0 q1 q2 q3).lt 2251799813685248 4503599627370496 := by
  have := q3.toNat_lt;refine ⟨?_, ?_, ?_, ?_, ?_⟩ <;> simp only [ldF, low_toNat, A4] <;> omega
theorem ld_arith (q0 q1 q2 q3 : Nat) (h0 : q0 < 2 ^ 64) (h1 : q1 < 2 ^ 64) (h2 : q2 < 2 ^ 64) (h3 : q3 < 2 ^ 64) :
    q0 % 2251799813685248 + 2251799813685248 * ((q0 / 2 ^ 51 + q1 * 2 ^ 13 % 2 ^ 64) % 2251799813685248) + 5070602400912917605986812821504 * ((q1 / 2 ^ 38 + q2 * 2 ^ 26 % 2 ^ 64) % 2251799813685248) + 11417981541647679048466287755595961091061972992 * ((q2 / 2 ^ 25 + q3 * 2 ^ 39 % 2 ^ 64) % 2251799813685248) + 25711008708143844408671393477458601640355247900524685364822016 * (q3 / 2 ^ 12)
    = q0 + 18446744073709551616 * q1 + 340282366920938463463374607431768211456 * q2 + 6277101735386680763835789423207666416102355444464034512896 * q3 := by
  have e1 : (q0 / 2 ^ 51 + q1 * 2 ^ 13 % 2 ^ 64) % 2251799813685248 = q0 / 2251799813685248 + 8192 * (q1 % 274877906944) := by omega
  have e2 : (q1 / 2 ^ 38 + q2 * 2 ^ 26 % 2 ^ 64) % 2251799813685248 = q1 / 274877906944 + 67108864 * (q2 % 33554432) := by omega
  have e3 : (q2 / 2 ^ 25 + q3 * 2 ^ 39 % 2 ^ 64) % 2251799813685248 = q2 / 33554432 + 549755813888 * (q3 % 4096) := by omega
  rw [e1, e2, e3];omega
theorem ldF_v (q0 q1 q2 q3 : UInt64) : (ldF q0 q1 q2 q3).v = q0.toNat + 18446744073709551616 * q1.toNat + 340282366920938463463374607431768211456 * q2.toNat + 6277101735386680763835789423207666416102355444464034512896 * q3.toNat := by
  have h1 := mid_word q0 q1 13 dE;have h2 := mid_word q1 q2 26 dE;have h3 := mid_word q2 q3 39 dE;simp only [W5.v, ldF, low_toNat];rw [show (Ap q0 51 ||| Ay q1 13).toNat = _ from h1, show (Ap q1 38 ||| Ay q2 26).toNat = _ from h2, show (Ap q2 25 ||| Ay q3 39).toNat = _ from h3, A4];exact ld_arith _ _ _ _ q0.toNat_lt q1.toNat_lt q2.toNat_lt q3.toNat_lt

def carF (w : W5) : W5 :=
  ⟨(w.a &&& LOW) + 19 * Ap w.e 51, (w.b &&& LOW) + Ap w.a 51, (w.c &&& LOW) + Ap w.b 51, (w.d &&& LOW) + Ap w.c 51, (w.e &&& LOW) + Ap w.d 51⟩
structure W5.carried (w : W5) (n : Nat) : Prop where
  a : w.a.toNat < 2251799813685248 + 155648
  b : w.b.toNat < 2251799813685248 + 8192
  c : w.c.toNat < 2251799813685248 + 8192
  d : w.d.toNat < 2251799813685248 + 8192
  e : w.e.toNat < 2251799813685248 + 8192
theorem carF_a (w : W5) : (carF w).a.toNat = w.a.toNat % 2251799813685248 + 19 * (w.e.toNat / 2251799813685248) := by
  have := w.e.toNat_lt;simp only [carF, UInt64.toNat_add, UInt64.toNat_mul, low_toNat, A4];rw [show (19 : UInt64).toNat = 19 from rfl];omega
theorem carF_b (w : W5) : (carF w).b.toNat = w.b.toNat % 2251799813685248 + w.a.toNat / 2251799813685248 := by
  have := w.a.toNat_lt;simp only [carF, UInt64.toNat_add, low_toNat, A4];omega
theorem carF_c (w : W5) : (carF w).c.toNat = w.c.toNat % 2251799813685248 + w.b.toNat / 2251799813685248 := by
  have := w.b.toNat_lt;simp only [carF, UInt64.toNat_add, low_toNat, A4];omega
theorem carF_d (w : W5) : (carF w).d.toNat = w.d.toNat % 2251799813685248 + w.c.toNat / 2251799813685248 := by
  have := w.c.toNat_lt;simp only [carF, UInt64.toNat_add, low_toNat, A4];omega
theorem carF_e (w : W5) : (carF w).e.toNat = w.e.toNat % 2251799813685248 + w.d.toNat / 2251799813685248 := by
  have := w.d.toNat_lt;simp only [carF, UInt64.toNat_add, low_toNat, A4];omega
theorem carF_small (w : W5) : (carF w).carried 0 := by
  have h1 := w.a.toNat_lt; have h2 := w.b.toNat_lt; have h3 := w.c.toNat_lt; have h4 := w.d.toNat_lt; have h5 := w.e.toNat_lt;refine ⟨?_, ?_, ?_, ?_, ?_⟩
  · rw [carF_a]; omega
  · rw [carF_b]; omega
  · rw [carF_c]; omega
  · rw [carF_d]; omega
  · rw [carF_e]; omega
theorem carF_v (w : W5) : (carF w).v + PF * (w.e.toNat / 2251799813685248) = w.v := by
  simp only [W5.v, carF_a, carF_b, carF_c, carF_d, carF_e, PF];omega
theorem carF_mod (w : W5) : (carF w).v % PF = w.v % PF := by rw [← carF_v w, Nat.add_mul_mod_self_left]

def ccF (w : W5) : UInt64 := Ap (w.e + Ap (w.d + Ap (w.c + Ap (w.b + Ap (w.a + 19) 51) 51) 51) 51) 51
def fixF (w : W5) (c : UInt64) : W5 :=
  ⟨(w.a + 19 * c) &&& LOW, (w.b + Ap (w.a + 19 * c) 51) &&& LOW, (w.c + Ap (w.b + Ap (w.a + 19 * c) 51) 51) &&& LOW,
   (w.d + Ap (w.c + Ap (w.b + Ap (w.a + 19 * c) 51) 51) 51) &&& LOW, (w.e + Ap (w.d + Ap (w.c + Ap (w.b + Ap (w.a + 19 * c) 51) 51) 51) 51) &&& LOW⟩
def stF (w : W5) : W5 := fixF (carF w) (ccF (carF w))
theorem cc_arith (a b c d e : Nat) : (e + (d + (c + (b + (a + 19) / 2251799813685248) / 2251799813685248) / 2251799813685248) / 2251799813685248) / 2251799813685248 =
    (a + 2251799813685248 * b + 5070602400912917605986812821504 * c + 11417981541647679048466287755595961091061972992 * d + 25711008708143844408671393477458601640355247900524685364822016 * e + 19) / 57896044618658097711785492504343953926634992332820282019728792003956564819968 := by omega
theorem ccF_v {w : W5} (h : w.carried 0) : (ccF w).toNat = (w.v + 19) / 57896044618658097711785492504343953926634992332820282019728792003956564819968 := by
  obtain ⟨h1, h2, h3, h4, h5⟩ := h;simp only [ccF, A4, UInt64.toNat_add, show (19 : UInt64).toNat = 19 from rfl, W5.v];rw [← cc_arith];omega
theorem fix_five (x b c d e : Nat) :
    x % 2251799813685248 + 2251799813685248 * ((b + x / 2251799813685248) % 2251799813685248) + 5070602400912917605986812821504 * ((c + (b + x / 2251799813685248) / 2251799813685248) % 2251799813685248) + 11417981541647679048466287755595961091061972992 * ((d + (c + (b + x / 2251799813685248) / 2251799813685248) / 2251799813685248) % 2251799813685248) + 25711008708143844408671393477458601640355247900524685364822016 * ((e + (d + (c + (b + x / 2251799813685248) / 2251799813685248) / 2251799813685248) / 2251799813685248) % 2251799813685248)
    = (x + 2251799813685248 * b + 5070602400912917605986812821504 * c + 11417981541647679048466287755595961091061972992 * d + 25711008708143844408671393477458601640355247900524685364822016 * e) % 57896044618658097711785492504343953926634992332820282019728792003956564819968 := by omega
theorem fix_red {v k : Nat} (hk : k = (v + 19) / 57896044618658097711785492504343953926634992332820282019728792003956564819968) (hb : v < 2 * 57896044618658097711785492504343953926634992332820282019728792003956564819949) : (v + 19 * k) % 57896044618658097711785492504343953926634992332820282019728792003956564819968 = v % 57896044618658097711785492504343953926634992332820282019728792003956564819949 := by
  have h : k = 0 ∨ k = 1 := by omega
  rcases h with rfl | rfl <;> omega
theorem fixF_lt (w : W5) (c : UInt64) : (fixF w c).lt 2251799813685248 2251799813685248 := by
  refine ⟨?_, ?_, ?_, ?_, ?_⟩ <;> simp only [fixF, low_toNat] <;> exact Nat.mod_lt _ dE
theorem carried_lt {w : W5} (h : w.carried 0) : w.v < 2 * 57896044618658097711785492504343953926634992332820282019728792003956564819949 := by
  obtain ⟨h1, h2, h3, h4, h5⟩ := h;simp only [W5.v];omega
theorem fix_words {w : W5} (h : w.carried 0) {k : UInt64} (hk : k.toNat ≤ 1) : (w.a + 19 * k).toNat = w.a.toNat + 19 * k.toNat ∧
    (w.b + Ap (w.a + 19 * k) 51).toNat = w.b.toNat + (w.a.toNat + 19 * k.toNat) / 2251799813685248 ∧
    (w.c + Ap (w.b + Ap (w.a + 19 * k) 51) 51).toNat = w.c.toNat + (w.b.toNat + (w.a.toNat + 19 * k.toNat) / 2251799813685248) / 2251799813685248 ∧
    (w.d + Ap (w.c + Ap (w.b + Ap (w.a + 19 * k) 51) 51) 51).toNat = w.d.toNat + (w.c.toNat + (w.b.toNat + (w.a.toNat + 19 * k.toNat) / 2251799813685248) / 2251799813685248) / 2251799813685248 ∧
    (w.e + Ap (w.d + Ap (w.c + Ap (w.b + Ap (w.a + 19 * k) 51) 51) 51) 51).toNat = w.e.toNat + (w.d.toNat + (w.c.toNat + (w.b.toNat + (w.a.toNat + 19 * k.toNat) / 2251799813685248) / 2251799813685248) / 2251799813685248) / 2251799813685248 := by
  obtain ⟨h1, h2, h3, h4, h5⟩ := h;have g1 : (w.a + 19 * k).toNat = w.a.toNat + 19 * k.toNat := by simp only [UInt64.toNat_add, UInt64.toNat_mul, show (19 : UInt64).toNat = 19 from rfl]; omega
  have g2 : (w.b + Ap (w.a + 19 * k) 51).toNat = w.b.toNat + (w.a.toNat + 19 * k.toNat) / 2251799813685248 := by rw [UInt64.toNat_add, A4, g1]; omega
  have g3 : (w.c + Ap (w.b + Ap (w.a + 19 * k) 51) 51).toNat = w.c.toNat + (w.b.toNat + (w.a.toNat + 19 * k.toNat) / 2251799813685248) / 2251799813685248 := by rw [UInt64.toNat_add, A4, g2]; omega
  have g4 : (w.d + Ap (w.c + Ap (w.b + Ap (w.a + 19 * k) 51) 51) 51).toNat = w.d.toNat + (w.c.toNat + (w.b.toNat + (w.a.toNat + 19 * k.toNat) / 2251799813685248) / 2251799813685248) / 2251799813685248 := by rw [UInt64.toNat_add, A4, g3]; omega
  exact ⟨g1, g2, g3, g4, by rw [UInt64.toNat_add, A4, g4]; omega⟩
theorem fix_v {w : W5} (h : w.carried 0) {k : UInt64} (hk : k.toNat ≤ 1) : (fixF w k).v = (w.v + 19 * k.toNat) % 57896044618658097711785492504343953926634992332820282019728792003956564819968 := by
  obtain ⟨g1, g2, g3, g4, g5⟩ := fix_words h hk;have e : (fixF w k).v = (w.a.toNat + 19 * k.toNat) % 2251799813685248 + 2251799813685248 * ((w.b.toNat + (w.a.toNat + 19 * k.toNat) / 2251799813685248) % 2251799813685248) + 5070602400912917605986812821504 * ((w.c.toNat + (w.b.toNat + (w.a.toNat + 19 * k.toNat) / 2251799813685248) / 2251799813685248) % 2251799813685248) + 11417981541647679048466287755595961091061972992 * ((w.d.toNat + (w.c.toNat + (w.b.toNat + (w.a.toNat + 19 * k.toNat) / 2251799813685248) / 2251799813685248) / 2251799813685248) % 2251799813685248) + 25711008708143844408671393477458601640355247900524685364822016 * ((w.e.toNat + (w.d.toNat + (w.c.toNat + (w.b.toNat + (w.a.toNat + 19 * k.toNat) / 2251799813685248) / 2251799813685248) / 2251799813685248) / 2251799813685248) % 2251799813685248) := by
    simp only [W5.v, fixF, low_toNat, g1, g2, g3, g4, g5]
  rw [e, fix_five];clear e g1 g2 g3 g4 g5;have e2 : w.v + 19 * k.toNat = w.a.toNat + 19 * k.toNat + 2251799813685248 * w.b.toNat + 5070602400912917605986812821504 * w.c.toNat + 11417981541647679048466287755595961091061972992 * w.d.toNat + 25711008708143844408671393477458601640355247900524685364822016 * w.e.toNat := by rw [W5.v]; omega
  rw [e2]
theorem fixF_v {w : W5} (h : w.carried 0) : (fixF w (ccF w)).v = w.v % PF := by
  have hc := ccF_v h;have hb := carried_lt h;have hk : (ccF w).toNat ≤ 1 := by omega
  rw [fix_v h hk];exact fix_red hc hb
theorem stF_v (w : W5) : (stF w).v = w.v % PF := by rw [stF, fixF_v (carF_small w), carF_mod]
def stB5 (w : W5) : List UInt8 := leb 8 (w.a ||| Ay w.b 51).toNat ++ leb 8 (Ap w.b 13 ||| Ay w.c 38).toNat ++ leb 8 (Ap w.c 26 ||| Ay w.d 25).toNat ++ leb 8 (Ap w.d 39 ||| Ay w.e 12).toNat
theorem leb_split (m : Nat) : ∀ n x, leb (n + m) x = leb n x ++ leb m (x / 256 ^ n)
  | 0, x => by simp [leb]
  | n + 1, x => by
    rw [show n + 1 + m = (n + m) + 1 by omega, leb, leb, leb_split m n (x / 256), Nat.div_div_eq_div_mul, Nat.pow_succ, Nat.mul_comm 256];rfl
theorem leb_low256 (k : Nat) (x : Nat) : leb k (x % 256 ^ k) = leb k x := by
  have h := leb_le (leb k x);rw [Ag, le_leb] at h;exact h
theorem leb_32 (x : Nat) : leb 32 x = leb 8 (x % 18446744073709551616) ++ (leb 8 (x / 18446744073709551616 % 18446744073709551616) ++ (leb 8 (x / 340282366920938463463374607431768211456 % 18446744073709551616) ++ leb 8 (x / 6277101735386680763835789423207666416102355444464034512896))) := by
  have e : ∀ x, leb 8 (x % 18446744073709551616) = leb 8 x := fun x => leb_low256 8 x;rw [e, e, e];have h1 := leb_split 24 8 x;have h2 := leb_split 16 8 (x / 256 ^ 8);have h3 := leb_split 8 8 (x / 256 ^ 8 / 256 ^ 8);rw [Nat.div_div_eq_div_mul] at h2 h3;rw [Nat.div_div_eq_div_mul] at h3;exact h1.trans (congrArg _ (h2.trans (congrArg _ h3)))
theorem leb4 (q0 q1 q2 q3 : Nat) (h0 : q0 < 2 ^ 64) (h1 : q1 < 2 ^ 64) (h2 : q2 < 2 ^ 64) : leb 8 q0 ++ leb 8 q1 ++ leb 8 q2 ++ leb 8 q3 = leb 32 (q0 + 18446744073709551616 * q1 + 340282366920938463463374607431768211456 * q2 + 6277101735386680763835789423207666416102355444464034512896 * q3) := by
  rw [leb_32, List.append_assoc, List.append_assoc];have a0 : (q0 + 18446744073709551616 * q1 + 340282366920938463463374607431768211456 * q2 + 6277101735386680763835789423207666416102355444464034512896 * q3) % 18446744073709551616 = q0 := by omega
  have a1 : (q0 + 18446744073709551616 * q1 + 340282366920938463463374607431768211456 * q2 + 6277101735386680763835789423207666416102355444464034512896 * q3) / 18446744073709551616 % 18446744073709551616 = q1 := by omega
  have a2 : (q0 + 18446744073709551616 * q1 + 340282366920938463463374607431768211456 * q2 + 6277101735386680763835789423207666416102355444464034512896 * q3) / 340282366920938463463374607431768211456 % 18446744073709551616 = q2 := by omega
  have a3 : (q0 + 18446744073709551616 * q1 + 340282366920938463463374607431768211456 * q2 + 6277101735386680763835789423207666416102355444464034512896 * q3) / 6277101735386680763835789423207666416102355444464034512896 = q3 := by omega
  rw [a0, a1, a2, a3]
theorem stB5_eq {w : W5} (h : w.lt 2251799813685248 2251799813685248) : stB5 w = leb 32 w.v := by
  obtain ⟨h1, h2, h3, h4, h5⟩ := h;have m0 : (w.a ||| Ay w.b 51).toNat = w.a.toNat + w.b.toNat * 2 ^ 51 % 2 ^ 64 := by
    rw [or_add (k := 51) (m := w.b.toNat % 2 ^ 13) oM (by rw [Bt]; omega), Bt]
  have m1 := mid_word w.b w.c 38 dE;have m1' : (Ap w.b 13 ||| Ay w.c 38).toNat = w.b.toNat / 2 ^ 13 + w.c.toNat * 2 ^ 38 % 2 ^ 64 := by
    rw [or_add (k := 38) (m := w.c.toNat % 2 ^ 26) (by rw [A4]; omega) (by rw [Bt]; omega), Bt, A4]
  have m2' : (Ap w.c 26 ||| Ay w.d 25).toNat = w.c.toNat / 2 ^ 26 + w.d.toNat * 2 ^ 25 % 2 ^ 64 := by
    rw [or_add (k := 25) (m := w.d.toNat % 2 ^ 39) (by rw [A4]; omega) (by rw [Bt]; omega), Bt, A4]
  have m3' : (Ap w.d 39 ||| Ay w.e 12).toNat = w.d.toNat / 2 ^ 39 + w.e.toNat * 2 ^ 12 % 2 ^ 64 := by
    rw [or_add (k := 12) (m := w.e.toNat % 2 ^ 52) (by rw [A4]; omega) (by rw [Bt]; omega), Bt, A4]
  rw [stB5, leb4 _ _ _ _ (UInt64.toNat_lt _) (UInt64.toNat_lt _) (UInt64.toNat_lt _), m0, m1', m2', m3'];congr 1;simp only [W5.v];omega
theorem store_eq (w : W5) : stB5 (stF w) = leb 32 (w.v % PF) := by
  have h : (stF w).lt 2251799813685248 2251799813685248 := fixF_lt _ _;rw [stB5_eq h, stF_v]

def wv2 (s : UInt64 × UInt64) : Nat := s.1.toNat * 18446744073709551616 + s.2.toNat
def plF (s : UInt64 × UInt64) (a b : UInt64) : UInt64 × UInt64 :=
  (w64 (s.1.toNat + (mulHi a b).toNat + (w64 ((s.2.toNat + (a * b).toNat + (0 : UInt64).toNat) / 2 ^ 64)).toNat), w64 (s.2.toNat + (a * b).toNat + (0 : UInt64).toNat))
theorem plF_v {s : UInt64 × UInt64} {a b : UInt64} {n : Nat} (hn : a.toNat * b.toNat = n) (h : wv2 s + n < 340282366920938463463374607431768211456) : wv2 (plF s a b) = wv2 s + n := by
  have h1 := s.1.toNat_lt;have h2 := s.2.toNat_lt;simp only [wv2, plF, Bl, mulHi_toNat, UInt64.toNat_mul, show (0 : UInt64).toNat = 0 from rfl, hn] at h ⊢;omega
def upF (s : UInt64 × UInt64) : UInt64 := Ay s.1 13 ||| Ap s.2 51
theorem upF_v {s : UInt64 × UInt64} (h : wv2 s < 41538374868278621028243970633760768) : (upF s).toNat = wv2 s / 2251799813685248 := by
  have h2 := s.2.toNat_lt;simp only [wv2] at h ⊢;have e : (upF s).toNat = s.2.toNat / 2 ^ 51 + s.1.toNat * 2 ^ 13 % 2 ^ 64 := by
    rw [upF, UInt64.or_comm, or_add (k := 13) (m := s.1.toNat % 2 ^ 51) (by rw [A4]; omega) (by rw [Bt]; omega), Bt, A4]
  rw [e];omega
theorem low_v (s : UInt64 × UInt64) : (s.2 &&& LOW).toNat = wv2 s % 2251799813685248 := by
  rw [low_toNat, wv2]; omega
abbrev s0F (a b : W5) := plF (plF (plF (plF (plF (0, 0) a.a b.a) (19 * a.b) b.e) (19 * a.c) b.d) (19 * a.d) b.c) (19 * a.e) b.b
abbrev s1F (a b : W5) := plF (plF (plF (plF (plF (0, 0) a.a b.b) a.b b.a) (19 * a.c) b.e) (19 * a.d) b.d) (19 * a.e) b.c
abbrev s2F (a b : W5) := plF (plF (plF (plF (plF (0, 0) a.a b.c) a.b b.b) a.c b.a) (19 * a.d) b.e) (19 * a.e) b.d
abbrev s3F (a b : W5) := plF (plF (plF (plF (plF (0, 0) a.a b.d) a.b b.c) a.c b.b) a.d b.a) (19 * a.e) b.e
abbrev s4F (a b : W5) := plF (plF (plF (plF (plF (0, 0) a.a b.e) a.b b.d) a.c b.c) a.d b.b) a.e b.a
def mulF (a b : W5) : W5 := carF ⟨((s0F a b).2 &&& LOW) + 19 * upF (s4F a b), ((s1F a b).2 &&& LOW) + upF (s0F a b), ((s2F a b).2 &&& LOW) + upF (s1F a b), ((s3F a b).2 &&& LOW) + upF (s2F a b), ((s4F a b).2 &&& LOW) + upF (s3F a b)⟩
theorem times19 {x : UInt64} (h : x.toNat < 18014398509481984) : (19 * x).toNat = 19 * x.toNat := by
  rw [UInt64.toNat_mul, show (19 : UInt64).toNat = 19 from rfl]; omega
theorem mul_bound {x y : Nat} (hx : x < 18014398509481984) (hy : y < 18014398509481984) : x * y < 324518553658426726783156020576256 := by
  have := Nat.mul_lt_mul'' hx hy;exact this
theorem prod_poly (X a b c d e a' b' c' d' e' : Int) : (a + X * b + X * X * c + X * X * X * d + X * X * X * X * e) * (a' + X * b' + X * X * c' + X * X * X * d' + X * X * X * X * e') =
    (a * a' + 19 * (b * e') + 19 * (c * d') + 19 * (d * c') + 19 * (e * b')) + X * (a * b' + b * a' + 19 * (c * e') + 19 * (d * d') + 19 * (e * c')) + X * X * (a * c' + b * b' + c * a' + 19 * (d * e') + 19 * (e * d')) + X * X * X * (a * d' + b * c' + c * b' + d * a' + 19 * (e * e')) + X * X * X * X * (a * e' + b * d' + c * c' + d * b' + e * a') +
    (X * X * X * X * X - 19) * ((b * e' + c * d' + d * c' + e * b') + X * (c * e' + d * d' + e * c') + X * X * (d * e' + e * d') + X * X * X * (e * e')) := by
  grind
theorem prod_nat (a b c d e a' b' c' d' e' : Nat) : (a + 2251799813685248 * b + 5070602400912917605986812821504 * c + 11417981541647679048466287755595961091061972992 * d + 25711008708143844408671393477458601640355247900524685364822016 * e) * (a' + 2251799813685248 * b' + 5070602400912917605986812821504 * c' + 11417981541647679048466287755595961091061972992 * d' + 25711008708143844408671393477458601640355247900524685364822016 * e') =
    (a * a' + 19 * (b * e') + 19 * (c * d') + 19 * (d * c') + 19 * (e * b')) + 2251799813685248 * (a * b' + b * a' + 19 * (c * e') + 19 * (d * d') + 19 * (e * c')) + 5070602400912917605986812821504 * (a * c' + b * b' + c * a' + 19 * (d * e') + 19 * (e * d')) + 11417981541647679048466287755595961091061972992 * (a * d' + b * c' + c * b' + d * a' + 19 * (e * e')) + 25711008708143844408671393477458601640355247900524685364822016 * (a * e' + b * d' + c * c' + d * b' + e * a') +
    PF * ((b * e' + c * d' + d * c' + e * b') + 2251799813685248 * (c * e' + d * d' + e * c') + 5070602400912917605986812821504 * (d * e' + e * d') + 11417981541647679048466287755595961091061972992 * (e * e')) := by
  have h := prod_poly 2251799813685248 a b c d e a' b' c' d' e';apply Int.ofNat.inj;simp only [PF];show ((_ : Nat) : Int) = ((_ : Nat) : Int);simp only [Int.natCast_add, Int.natCast_mul];exact h
theorem s_add {s : UInt64 × UInt64} {a b : UInt64} {m n : Nat} (hs : wv2 s = m) (hn : a.toNat * b.toNat = n) (h : m + n < 340282366920938463463374607431768211456) : wv2 (plF s a b) = m + n := by
  rw [plF_v hn (by rw [hs]; exact h), hs]
theorem wv2_zero : wv2 (0, 0) = 0 := rfl
theorem carry_sum (s0 s1 s2 s3 s4 : Nat) : (s0 % 2251799813685248 + 19 * (s4 / 2251799813685248)) + 2251799813685248 * (s1 % 2251799813685248 + s0 / 2251799813685248) + 5070602400912917605986812821504 * (s2 % 2251799813685248 + s1 / 2251799813685248) + 11417981541647679048466287755595961091061972992 * (s3 % 2251799813685248 + s2 / 2251799813685248) + 25711008708143844408671393477458601640355247900524685364822016 * (s4 % 2251799813685248 + s3 / 2251799813685248) + PF * (s4 / 2251799813685248) =
    s0 + 2251799813685248 * s1 + 5070602400912917605986812821504 * s2 + 11417981541647679048466287755595961091061972992 * s3 + 25711008708143844408671393477458601640355247900524685364822016 * s4 := by
  simp only [PF];omega
structure W5.fit (w : W5) : Prop where
  a : w.a.toNat < 18014398509481984
  b : w.b.toNat < 18014398509481984
  c : w.c.toNat < 18014398509481984
  d : w.d.toNat < 18014398509481984
  e : w.e.toNat < 18014398509481984
theorem W5.lt.fit {w : W5} (h : w.lt 2251799813685248 4503599627370496) : w.fit := by
  obtain ⟨h1, h2, h3, h4, h5⟩ := h;constructor <;> omega
theorem W5.carried.fit {w : W5} (h : w.carried 0) : w.fit := by
  obtain ⟨h1, h2, h3, h4, h5⟩ := h;constructor <;> omega
theorem mulF_v {a b : W5} (ha : a.fit) (hb : b.fit) : (mulF a b).v % PF = (a.v * b.v) % PF := by
  obtain ⟨a0, a1, a2, a3, a4⟩ := ha;obtain ⟨b0, b1, b2, b3, b4⟩ := hb;have m : ∀ {x y : UInt64}, x.toNat < 18014398509481984 → y.toNat < 18014398509481984 → ∃ n, x.toNat * y.toNat = n ∧ n < 324518553658426726783156020576256 := fun hx hy => ⟨_, rfl, mul_bound hx hy⟩;have m19 : ∀ {x y : UInt64} {n : Nat}, x.toNat < 18014398509481984 → x.toNat * y.toNat = n → (19 * x).toNat * y.toNat = 19 * n := fun hx hn => by rw [times19 hx, Nat.mul_assoc, hn]
  obtain ⟨p00, e00, l00⟩ := m a0 b0; obtain ⟨p01, e01, l01⟩ := m a0 b1; obtain ⟨p02, e02, l02⟩ := m a0 b2; obtain ⟨p03, e03, l03⟩ := m a0 b3; obtain ⟨p04, e04, l04⟩ := m a0 b4;obtain ⟨p10, e10, l10⟩ := m a1 b0; obtain ⟨p11, e11, l11⟩ := m a1 b1; obtain ⟨p12, e12, l12⟩ := m a1 b2; obtain ⟨p13, e13, l13⟩ := m a1 b3; obtain ⟨p14, e14, l14⟩ := m a1 b4;obtain ⟨p20, e20, l20⟩ := m a2 b0; obtain ⟨p21, e21, l21⟩ := m a2 b1; obtain ⟨p22, e22, l22⟩ := m a2 b2; obtain ⟨p23, e23, l23⟩ := m a2 b3; obtain ⟨p24, e24, l24⟩ := m a2 b4;obtain ⟨p30, e30, l30⟩ := m a3 b0; obtain ⟨p31, e31, l31⟩ := m a3 b1; obtain ⟨p32, e32, l32⟩ := m a3 b2; obtain ⟨p33, e33, l33⟩ := m a3 b3; obtain ⟨p34, e34, l34⟩ := m a3 b4;obtain ⟨p40, e40, l40⟩ := m a4 b0; obtain ⟨p41, e41, l41⟩ := m a4 b1; obtain ⟨p42, e42, l42⟩ := m a4 b2; obtain ⟨p43, e43, l43⟩ := m a4 b3; obtain ⟨p44, e44, l44⟩ := m a4 b4;have hv : a.v * b.v = _ := prod_nat a.a.toNat a.b.toNat a.c.toNat a.d.toNat a.e.toNat b.a.toNat b.b.toNat b.c.toNat b.d.toNat b.e.toNat;rw [e00, e01, e02, e03, e04, e10, e11, e12, e13, e14, e20, e21, e22, e23, e24, e30, e31, e32, e33, e34, e40, e41, e42, e43, e44] at hv;have k0 : wv2 (s0F a b) = p00 + 19 * p14 + 19 * p23 + 19 * p32 + 19 * p41 := by
    have := s_add (s_add (s_add (s_add (s_add wv2_zero e00 oM) (m19 a1 e14) oM) (m19 a2 e23) oM) (m19 a3 e32) oM) (m19 a4 e41) oM;rw [Nat.zero_add] at this; exact this
  have k1 : wv2 (s1F a b) = p01 + p10 + 19 * p24 + 19 * p33 + 19 * p42 := by
    have := s_add (s_add (s_add (s_add (s_add wv2_zero e01 oM) e10 oM) (m19 a2 e24) oM) (m19 a3 e33) oM) (m19 a4 e42) oM;rw [Nat.zero_add] at this; exact this
  have k2 : wv2 (s2F a b) = p02 + p11 + p20 + 19 * p34 + 19 * p43 := by
    have := s_add (s_add (s_add (s_add (s_add wv2_zero e02 oM) e11 oM) e20 oM) (m19 a3 e34) oM) (m19 a4 e43) oM;rw [Nat.zero_add] at this; exact this
  have k3 : wv2 (s3F a b) = p03 + p12 + p21 + p30 + 19 * p44 := by
    have := s_add (s_add (s_add (s_add (s_add wv2_zero e03 oM) e12 oM) e21 oM) e30 oM) (m19 a4 e44) oM;rw [Nat.zero_add] at this; exact this
  have k4 : wv2 (s4F a b) = p04 + p13 + p22 + p31 + p40 := by
    have := s_add (s_add (s_add (s_add (s_add wv2_zero e04 oM) e13 oM) e22 oM) e31 oM) e40 oM;rw [Nat.zero_add] at this; exact this
  clear e00 e01 e02 e03 e04 e10 e11 e12 e13 e14 e20 e21 e22 e23 e24 e30 e31 e32 e33 e34 e40 e41 e42 e43 e44;rw [← k0, ← k1, ← k2, ← k3, ← k4] at hv;have n0 : wv2 (s0F a b) < 25312447185357284689086169604947968 := by omega
  have n1 : wv2 (s1F a b) < 25312447185357284689086169604947968 := by omega
  have n2 : wv2 (s2F a b) < 25312447185357284689086169604947968 := by omega
  have n3 : wv2 (s3F a b) < 25312447185357284689086169604947968 := by omega
  have n4 : wv2 (s4F a b) < 1622592768292133633915780102881280 + 1 := by omega
  clear k0 k1 k2 k3 k4;rw [mulF, carF_mod];have f : (⟨((s0F a b).2 &&& LOW) + 19 * upF (s4F a b), ((s1F a b).2 &&& LOW) + upF (s0F a b), ((s2F a b).2 &&& LOW) + upF (s1F a b), ((s3F a b).2 &&& LOW) + upF (s2F a b), ((s4F a b).2 &&& LOW) + upF (s3F a b)⟩ : W5).v + PF * (wv2 (s4F a b) / 2251799813685248) =
      wv2 (s0F a b) + 2251799813685248 * wv2 (s1F a b) + 5070602400912917605986812821504 * wv2 (s2F a b) + 11417981541647679048466287755595961091061972992 * wv2 (s3F a b) + 25711008708143844408671393477458601640355247900524685364822016 * wv2 (s4F a b) := by
    rw [← carry_sum];clear hv;have u0 := upF_v (s := s0F a b) oM; have u1 := upF_v (s := s1F a b) oM; have u2 := upF_v (s := s2F a b) oM; have u3 := upF_v (s := s3F a b) oM; have u4 := upF_v (s := s4F a b) oM;have v0 := low_v (s0F a b); have v1 := low_v (s1F a b); have v2 := low_v (s2F a b); have v3 := low_v (s3F a b); have v4 := low_v (s4F a b);have c0 : (((s0F a b).2 &&& LOW) + 19 * upF (s4F a b)).toNat = wv2 (s0F a b) % 2251799813685248 + 19 * (wv2 (s4F a b) / 2251799813685248) := by
      rw [UInt64.toNat_add, UInt64.toNat_mul, v0, u4, show (19 : UInt64).toNat = 19 from rfl]; omega
    have c1 : (((s1F a b).2 &&& LOW) + upF (s0F a b)).toNat = wv2 (s1F a b) % 2251799813685248 + wv2 (s0F a b) / 2251799813685248 := by
      rw [UInt64.toNat_add, v1, u0]; omega
    have c2 : (((s2F a b).2 &&& LOW) + upF (s1F a b)).toNat = wv2 (s2F a b) % 2251799813685248 + wv2 (s1F a b) / 2251799813685248 := by
      rw [UInt64.toNat_add, v2, u1]; omega
    have c3 : (((s3F a b).2 &&& LOW) + upF (s2F a b)).toNat = wv2 (s3F a b) % 2251799813685248 + wv2 (s2F a b) / 2251799813685248 := by
      rw [UInt64.toNat_add, v3, u2]; omega
    have c4 : (((s4F a b).2 &&& LOW) + upF (s3F a b)).toNat = wv2 (s4F a b) % 2251799813685248 + wv2 (s3F a b) / 2251799813685248 := by
      rw [UInt64.toNat_add, v4, u3]; omega
    simp only [W5.v, c0, c1, c2, c3, c4]
  rw [hv, ← f, Nat.add_mul_mod_self_left, Nat.add_mul_mod_self_left]
end Hw
end

section
namespace Hw
open Go
set_option maxRecDepth 100000

def modW : List UInt64 := [1152921504606846976, 0, 1503914060200516822, 6346243789798364141]
theorem modW_length : modW.length = 4 := rfl
def dblW (w : List UInt64) (b : UInt64) : List UInt64 :=
  [Ay (w.getD 0 0) 1 ||| Ap (w.getD 1 0) 63, Ay (w.getD 1 0) 1 ||| Ap (w.getD 2 0) 63, Ay (w.getD 2 0) 1 ||| Ap (w.getD 3 0) 63, Ay (w.getD 3 0) 1 ||| b]
theorem dblW_length (w : List UInt64) (b : UInt64) : (dblW w b).length = 4 := rfl
def ldW (a : List UInt8) : Nat → List UInt64
  | 0 => List.replicate 4 0
  | k + 1 => (ldW a k).set (k / 8) (Ay ((ldW a k).getD (k / 8) 0) 8 ||| (a.getD (31 - k) 0).toUInt64)
theorem ldW_length (a : List UInt8) : ∀ k, (ldW a k).length = 4
  | 0 => rfl
  | k + 1 => by simp [ldW, ldW_length a k]
def stB (w : List UInt64) : Nat → List UInt8
  | 0 => List.replicate 32 0
  | k + 1 => (stB w k).set (31 - k) (Ap (w.getD (k / 8) 0) (56 - 8 * (k % 8))).toUInt8
theorem stB_length (w : List UInt64) : ∀ k, (stB w k).length = 32
  | 0 => rfl
  | k + 1 => by simp [stB, stB_length w k]
def mnsW (w m : List UInt64) : Nat → List UInt64 × UInt64
  | 0 => (w, 0)
  | t + 1 =>
    let p := mnsW w m t
    let x := (p.1.getD (3 - t) 0).toNat
    let y := (m.getD (3 - t) 0).toNat
    (p.1.set (3 - t) (w64 (x + 2 ^ 64 - y - p.2.toNat)), if x < y + p.2.toNat then 1 else 0)
theorem mnsW_length (w m : List UInt64) : ∀ t, (mnsW w m t).1.length = w.length
  | 0 => rfl
  | t + 1 => by simp [mnsW, mnsW_length w m t]
theorem mnsW_borrow (w m : List UInt64) : ∀ t, (mnsW w m t).2.toNat ≤ 1
  | 0 => by simp [mnsW]
  | t + 1 => by simp only [mnsW]; split <;> simp
def sub64E : Array Value → Sem Value := fun args => do
  let (x, y, b) ← Extern.MathBitsCarry.three "Sub64" args
  pure (Extern.MathBitsCarry.pair ((x + Extern.MathBitsCarry.m64 - y - b) % Extern.MathBitsCarry.m64) (if x < y + b then 1 else 0))

theorem le_take_drop (l : List UInt8) (k : Nat) (h : k ≤ l.length) : le l = le (l.take k) + 256 ^ k * le (l.drop k) := by
  have := le_append (l.take k) (l.drop k);rw [List.take_append_drop] at this;rw [this, List.length_take, Nat.min_eq_left h]

theorem le_drop (l : List UInt8) (k : Nat) (h : k ≤ l.length) : le l / 256 ^ k = le (l.drop k) := by
  have h1 := le_lt (l.take k);rw [List.length_take, Nat.min_eq_left h] at h1;rw [le_take_drop l k h, Nat.add_mul_div_left _ _ (Nat.pow_pos dE), Nat.div_eq_of_lt h1, Nat.zero_add]

theorem acc8 (x : UInt64) (b : UInt8) : Ay x 8 ||| b.toUInt64 = w64 (x.toNat * 256 + b.toNat) := by
  apply UInt64.toNat_inj.1;have hb := b.toNat_lt;have hx := x.toNat_lt;rw [UInt64.toNat_or, Bt, Bl, UInt8.toNat_toUInt64];have e : x.toNat * 2 ^ 8 % 2 ^ 64 = 2 ^ 8 * (x.toNat % 2 ^ 56) := by omega
  rw [e, Nat.two_pow_add_eq_or_of_lt oM (x.toNat % 2 ^ 56) |>.symm];omega

theorem w64_acc (m b : Nat) : w64 ((w64 m).toNat * 256 + b) = w64 (m * 256 + b) := by
  apply UInt64.toNat_inj.1;rw [Bl, Bl, Bl];omega

theorem w64_mod {m n : Nat} (h : m % 2 ^ 64 = n % 2 ^ 64) : w64 m = w64 n := by
  apply UInt64.toNat_inj.1;rw [Bl, Bl, h]

theorem ldW_exp (a0 a1 a2 a3 a4 a5 a6 a7 a8 a9 a10 a11 a12 a13 a14 a15 a16 a17 a18 a19 a20 a21 a22 a23 a24 a25 a26 a27 a28 a29 a30 a31 : UInt8) : ldW [a0, a1, a2, a3, a4, a5, a6, a7, a8, a9, a10, a11, a12, a13, a14, a15, a16, a17, a18, a19, a20, a21, a22, a23, a24, a25, a26, a27, a28, a29, a30, a31] 32 = Bp (le [a0, a1, a2, a3, a4, a5, a6, a7, a8, a9, a10, a11, a12, a13, a14, a15, a16, a17, a18, a19, a20, a21, a22, a23, a24, a25, a26, a27, a28, a29, a30, a31]) := by
  have d24 := le_drop [a0, a1, a2, a3, a4, a5, a6, a7, a8, a9, a10, a11, a12, a13, a14, a15, a16, a17, a18, a19, a20, a21, a22, a23, a24, a25, a26, a27, a28, a29, a30, a31] 24 (Nat.le_of_ble_eq_true rfl);have d16 := le_drop [a0, a1, a2, a3, a4, a5, a6, a7, a8, a9, a10, a11, a12, a13, a14, a15, a16, a17, a18, a19, a20, a21, a22, a23, a24, a25, a26, a27, a28, a29, a30, a31] 16 (Nat.le_of_ble_eq_true rfl);have d8 := le_drop [a0, a1, a2, a3, a4, a5, a6, a7, a8, a9, a10, a11, a12, a13, a14, a15, a16, a17, a18, a19, a20, a21, a22, a23, a24, a25, a26, a27, a28, a29, a30, a31] 8 (Nat.le_of_ble_eq_true rfl);rw [Bp, show (2 : Nat) ^ 192 = 256 ^ 24 by decide, show (2 : Nat) ^ 128 = 256 ^ 16 by decide, show (2 : Nat) ^ 64 = 256 ^ 8 by decide, d24, d16, d8];clear d24 d16 d8;simp only [ldW, List.drop_succ_cons, List.drop_zero, le, List.getD_cons_succ, List.getD_cons_zero, List.set_cons_succ, List.set_cons_zero, List.replicate, Nat.reduceDiv, Nat.reduceSub, acc8];simp only [w64_acc, UInt64.toNat_zero];simp only [List.cons.injEq, and_true];refine ⟨w64_mod ?_, w64_mod ?_, w64_mod ?_, w64_mod ?_⟩ <;> omega

theorem ldW_eq {a : List UInt8} (h : a.length = 32) : ldW a 32 = Bp (le a) := by
  obtain ⟨f, hf⟩ : ∃ f : Nat → UInt8, a = (List.range 32).map f := ⟨fun i => a.getD i 0, by
    apply List.ext_getElem (by simp [h]);intro i h1 h2;simp [List.getD, h1]⟩
  subst hf;exact ldW_exp (f 0) (f 1) (f 2) (f 3) (f 4) (f 5) (f 6) (f 7) (f 8) (f 9) (f 10) (f 11) (f 12) (f 13) (f 14) (f 15) (f 16) (f 17) (f 18) (f 19) (f 20) (f 21) (f 22) (f 23) (f 24) (f 25) (f 26) (f 27) (f 28) (f 29) (f 30) (f 31)

theorem leb_get : ∀ (k n i : Nat), i < k → (leb k n)[i]? = some (UInt8.ofNat (n / 256 ^ i))
  | 0, _, _, h => by omega
  | k + 1, n, 0, _ => by simp [leb]
  | k + 1, n, i + 1, h => by
    rw [leb, List.getElem?_cons_succ, leb_get k _ i oM, Nat.div_div_eq_div_mul, Nat.pow_succ, Nat.mul_comm]

theorem stB_get (w : List UInt64) : ∀ (k i : Nat), k ≤ 32 → i < 32 → (stB w k)[i]? = some (if 31 - i < k then (Ap (w.getD ((31 - i) / 8) 0) (56 - 8 * ((31 - i) % 8))).toUInt8 else 0)
  | 0, i, _, h => by
    simp only [stB];rw [List.getElem?_replicate, if_pos h]; rfl
  | k + 1, i, hk, h => by
    rw [stB, List.getElem?_set];by_cases he : 31 - k = i
    · have e : 31 - i = k := by omega
      subst he;rw [if_pos rfl, if_pos (by rw [stB_length]; omega), e, if_pos oM]
    · rw [if_neg he, stB_get w k i oM h]
      congr 1;by_cases h1 : 31 - i < k
      · rw [if_pos h1, if_pos oM]
      · rw [if_neg h1, if_neg oM]

theorem byte_at (m s : Nat) (h : s + 8 ≤ 64) : m % 2 ^ 64 / 2 ^ s % 256 = m / 2 ^ s % 256 := by
  have e : (2 : Nat) ^ 64 = 2 ^ s * 2 ^ (64 - s) := by rw [← Nat.pow_add]; congr 1; omega
  rw [e, Nat.mod_mul_right_div_self];have e2 : (256 : Nat) ∣ 2 ^ (64 - s) := by
    refine ⟨2 ^ (56 - s), ?_⟩;rw [show (256 : Nat) = 2 ^ 8 by decide, ← Nat.pow_add]; congr 1; omega
  exact Nat.mod_mod_of_dvd _ e2

theorem stB_eq (n : Nat) : stB (Bp n) 32 = leb 32 n := by
  apply List.ext_getElem?;intro i;rcases Nat.lt_or_ge i 32 with h | h
  · rw [leb_get 32 n i h, stB_get _ 32 i oM h, if_pos oM]
    congr 1;apply UInt8.toNat_inj.1;rw [UInt64.toNat_toUInt8, A4, UInt8.toNat_ofNat'];have key : ∀ j s : Nat, j < 4 → s + 8 ≤ 64 → ((Bp n).getD j 0).toNat / 2 ^ s % 2 ^ 8 = n / 2 ^ (64 * (3 - j) + s) % 2 ^ 8 := by
      intro j s hj hs;have : (Bp n).getD j 0 = w64 (n / 2 ^ (64 * (3 - j))) := by
        match j, hj with
        | 0, _ => rfl
        | 1, _ => rfl
        | 2, _ => rfl
        | 3, _ => simp [Bp]
      rw [this, Bl, Nat.pow_add, ← Nat.div_div_eq_div_mul];exact byte_at _ s hs
    have := key ((31 - i) / 8) (56 - 8 * ((31 - i) % 8)) oM oM;rw [this, show (256 : Nat) = 2 ^ 8 by decide, ← Nat.pow_mul];congr 3;omega
  · rw [List.getElem?_eq_none (by rw [stB_length]; exact h), List.getElem?_eq_none (by rw [Ag]; exact h)]

theorem dblW_eq (n : Nat) (b : UInt64) (hb : b.toNat ≤ 1) : dblW (Bp n) b = Bp (2 * n + b.toNat) := by
  have two : ∀ (x y : Nat), Ay (w64 x) 1 ||| Ap (w64 y) 63 = w64 (2 * x + y % 2 ^ 64 / 2 ^ 63) := by
    intro x y;apply UInt64.toNat_inj.1;rw [UInt64.toNat_or, Bt, A4, Bl, Bl, Bl];have e : x % 2 ^ 64 * 2 ^ 1 % 2 ^ 64 = 2 ^ 1 * (x % 2 ^ 63) := by omega
    rw [e, Nat.two_pow_add_eq_or_of_lt oM (x % 2 ^ 63) |>.symm];omega
  have one : Ay (w64 n) 1 ||| b = w64 (2 * n + b.toNat) := by
    apply UInt64.toNat_inj.1;rw [UInt64.toNat_or, Bt, Bl, Bl];have e : n % 2 ^ 64 * 2 ^ 1 % 2 ^ 64 = 2 ^ 1 * (n % 2 ^ 63) := by omega
    rw [e, Nat.two_pow_add_eq_or_of_lt oM (n % 2 ^ 63) |>.symm];omega
  simp only [dblW, Bp, List.getD_cons_succ, List.getD_cons_zero, two, one, List.cons.injEq, and_true];refine ⟨w64_mod ?_, w64_mod ?_, w64_mod ?_⟩ <;> omega

theorem mnsW_eq {w m : List UInt64} (hw : w.length = 4) (hm : m.length = 4) : (mnsW w m 4).1 = Bp (wv w + 2 ^ 256 - wv m) := by
  match w, hw, m, hm with
  | [a, b, c, d], _, [e, f, g, h], _ =>
    rw [wv4, wv4];have ha := a.toNat_lt; have hb := b.toNat_lt; have hc := c.toNat_lt; have hd := d.toNat_lt;have he := e.toNat_lt; have hf := f.toNat_lt; have hg := g.toNat_lt; have hh := h.toNat_lt;simp only [mnsW, Bp, Nat.sub_zero, Nat.reduceSub, List.getD_cons_succ, List.getD_cons_zero, List.set_cons_succ, List.set_cons_zero, List.cons.injEq, and_true, UInt64.toNat_zero, Nat.add_zero];generalize hx1 : (if d.toNat < h.toNat then (1 : UInt64) else 0) = x1;have y1 : (d.toNat < h.toNat ∧ x1.toNat = 1) ∨ (¬ d.toNat < h.toNat ∧ x1.toNat = 0) := by subst hx1; split <;> simp [*]
    generalize hx2 : (if c.toNat < g.toNat + x1.toNat then (1 : UInt64) else 0) = x2;have y2 : (c.toNat < g.toNat + x1.toNat ∧ x2.toNat = 1) ∨ (¬ c.toNat < g.toNat + x1.toNat ∧ x2.toNat = 0) := by subst hx2; split <;> simp [*]
    generalize hx3 : (if b.toNat < f.toNat + x2.toNat then (1 : UInt64) else 0) = x3;have y3 : (b.toNat < f.toNat + x2.toNat ∧ x3.toNat = 1) ∨ (¬ b.toNat < f.toNat + x2.toNat ∧ x3.toNat = 0) := by subst hx3; split <;> simp [*]
    clear hx1 hx2 hx3;refine ⟨w64_mod ?_, w64_mod ?_, w64_mod ?_, w64_mod ?_⟩ <;> omega

theorem modW_eq : modW = Bp L := by decide
theorem res_step (A x t : Nat) (hx : x < 2 ^ 64) (ht : t < 64) : let m := (A * 2 ^ t + x / 2 ^ (64 - t)) % L
    (if 2 * m + x / 2 ^ (63 - t) % 2 < L then 2 * m + x / 2 ^ (63 - t) % 2 else 2 * m + x / 2 ^ (63 - t) % 2 - L) = (A * 2 ^ (t + 1) + x / 2 ^ (63 - t)) % L := by
  intro m;have e1 : x / 2 ^ (64 - t) = x / 2 ^ (63 - t) / 2 := by
    rw [Nat.div_div_eq_div_mul, ← Nat.pow_succ]; congr 2; omega
  have e2 : x / 2 ^ (63 - t) = 2 * (x / 2 ^ (64 - t)) + x / 2 ^ (63 - t) % 2 := by omega
  have e3 : A * 2 ^ (t + 1) + x / 2 ^ (63 - t) = 2 * (A * 2 ^ t + x / 2 ^ (64 - t)) + x / 2 ^ (63 - t) % 2 := by
    rw [Nat.pow_succ];have : A * (2 ^ t * 2) = 2 * (A * 2 ^ t) := by rw [← Nat.mul_assoc, Nat.mul_comm]
    omega
  rw [e3];show (if 2 * m + _ < L then _ else _) = _;have hm : m = (A * 2 ^ t + x / 2 ^ (64 - t)) % L := rfl
  clear_value m
  generalize A * 2 ^ t + x / 2 ^ (64 - t) = B at hm ⊢;generalize x / 2 ^ (63 - t) = y;have hL : L = 7237005577332262213973186563042994240857116359379907606001950938285454250989 := rfl;have hy : y % 2 < 2 := Nat.mod_lt _ dE;generalize y % 2 = z at hy ⊢;have hd := Nat.div_add_mod B L;rw [← hm] at hd;have hlt : m < L := by rw [hm]; exact Nat.mod_lt _ dE
  generalize B / L = q at hd;have e4 : 2 * B + z = L * (2 * q) + (2 * m + z) := by
    have : L * (2 * q) = 2 * (L * q) := by rw [← Nat.mul_assoc, Nat.mul_comm L 2, Nat.mul_assoc]
    omega
  rw [e4, Nat.mul_add_mod];split
  · rename_i h; rw [Nat.mod_eq_of_lt h]
  · rename_i h; rw [Nat.mod_eq_sub_mod oM, Nat.mod_eq_of_lt oM]


section
variable (x y0 y1 y2 y3 a b c d h0 h1 h2 h3 k0 k1 k2 : UInt64)
end

end Hw
end

section
namespace Hw
def Prm (p : Nat) : Prop := 2 ≤ p ∧ ∀ m, m ∣ p → m = 1 ∨ m = p
theorem Prm.pos {p : Nat} (h : Prm p) : 0 < p := by have := h.1; omega
theorem Prm.coprime {p a : Nat} (h : Prm p) (ha : ¬ p ∣ a) : Nat.gcd p a = 1 := by
  rcases h.2 _ (Nat.gcd_dvd_left p a) with h1 | h1
  · exact h1
  · exact absurd (h1 ▸ Nat.gcd_dvd_right p a) ha
theorem Prm.dvd_mul {p a b : Nat} (h : Prm p) (hd : p ∣ a * b) : p ∣ a ∨ p ∣ b := by
  by_cases ha : p ∣ a
  · exact .inl ha
  · exact .inr (Nat.Coprime.dvd_of_dvd_mul_left (h.coprime ha) hd)
theorem prm_div : ∀ N, 2 ≤ N → ∃ P, Prm P ∧ P ∣ N ∧ (Prm N ∨ P * P ≤ N) := by
  intro N
  induction N using Nat.strongRecOn with
  | ind N ih =>
    intro hN;by_cases hp : Prm N
    · exact ⟨N, hp, Nat.dvd_refl N, .inl hp⟩
    · have : ∃ m k, N = m * k ∧ 2 ≤ m ∧ 2 ≤ k ∧ m ≤ k := by
        apply Classical.byContradiction;intro hno;apply hp;refine ⟨hN, fun m hm => ?_⟩;obtain ⟨k, rfl⟩ := hm;apply Classical.byContradiction;intro hc;have h0 : m ≠ 0 := fun e => by subst e; simp at hN
        have h1 : k ≠ 0 := fun e => by subst e; simp at hN
        have h2 : m ≠ 1 := fun e => hc (.inl e);have h3 : k ≠ 1 := fun e => hc (.inr (by subst e; simp));rcases Nat.le_total m k with hle | hle
        · exact hno ⟨m, k, rfl, by omega, by omega, hle⟩
        · exact hno ⟨k, m, Nat.mul_comm m k, by omega, by omega, hle⟩
      obtain ⟨m, k, rfl, h1, h2, h3⟩ := this;have hmk : m < m * k := Nat.lt_of_lt_of_le oM (Nat.mul_le_mul_left m h2);obtain ⟨P, g1, g2, g3⟩ := ih m hmk h1;have hle := Nat.le_of_dvd oM g2;exact ⟨P, g1, Nat.dvd_trans g2 (Nat.dvd_mul_right m k), .inr (Nat.mul_le_mul hle (Nat.le_trans hle h3))⟩

def noDiv (n : Nat) : Nat → Nat → Bool
  | 0, d => Nat.blt n (d * d)
  | f + 1, d => Nat.blt n (d * d) || (!(Nat.beq (n % d) 0) && noDiv n f (d + 1))
theorem noDiv_ok {n : Nat} : ∀ f d, noDiv n f d = true → ∀ m, d ≤ m → m * m ≤ n → ¬ m ∣ n
  | 0, d, h, m, hm, hmn, _ => by
    have h1 : n < d * d := by simpa [noDiv, Nat.blt_eq] using h
    have := Nat.mul_le_mul hm hm;omega
  | f + 1, d, h, m, hm, hmn, hd => by
    simp only [noDiv, Bool.or_eq_true, Bool.and_eq_true, Bool.not_eq_true'] at h;rcases h with h | ⟨h, k⟩
    · have h1 : n < d * d := by simpa [Nat.blt_eq] using h
      have := Nat.mul_le_mul hm hm;omega
    · rcases Nat.eq_or_lt_of_le hm with rfl | hlt
      · have : n % d = 0 := Nat.mod_eq_zero_of_dvd hd
        rw [this] at h;simp at h
      · exact noDiv_ok f (d + 1) k m hlt hmn hd
theorem prm_small (n f : Nat) (h2 : 2 ≤ n) (h : noDiv n f 2 = true) : Prm n := by
  obtain ⟨P, g1, g2, g3⟩ := prm_div n h2;rcases g3 with g3 | g3
  · exact g3
  · exact absurd g2 (noDiv_ok f 2 h P g1.1 g3)

def ch : Nat → Nat → Nat
  | _, 0 => 1
  | 0, _ + 1 => 0
  | n + 1, k + 1 => ch n k + ch n (k + 1)
def bsum (a n : Nat) : Nat → Nat
  | 0 => 0
  | m + 1 => bsum a n m + ch n m * a ^ m
theorem bsum_succ (a n : Nat) : ∀ m, bsum a (n + 1) (m + 1) = a * bsum a n m + bsum a n (m + 1)
  | 0 => by simp [bsum, ch]
  | m + 1 => by
    have ih := bsum_succ a n m;rw [bsum, ih, bsum.eq_2 a n (m + 1), bsum.eq_2 a n m, ch, Nat.add_mul, Nat.mul_add, Nat.pow_succ];have : a * (ch n m * a ^ m) = ch n m * (a ^ m * a) := by rw [Nat.mul_comm a, Nat.mul_assoc]
    omega
theorem ch_zero : ∀ n k, n < k → ch n k = 0
  | 0, 0, h => absurd h dE
  | 0, _ + 1, _ => rfl
  | n + 1, 0, h => absurd h oM
  | n + 1, k + 1, h => by rw [ch, ch_zero n k oM, ch_zero n (k + 1) oM]
theorem ch_self : ∀ n, ch n n = 1
  | 0 => rfl
  | n + 1 => by rw [ch, ch_self n, ch_zero n (n + 1) oM]
theorem bsum_pow (a : Nat) : ∀ n, bsum a n (n + 1) = (a + 1) ^ n
  | 0 => by simp [bsum, ch]
  | n + 1 => by
    rw [bsum_succ, bsum.eq_2 a n (n + 1), ch_zero n (n + 1) oM, bsum_pow a n, Nat.zero_mul, Nat.add_zero, Nat.pow_succ (m := n)];generalize (a + 1) ^ n = x;rw [Nat.mul_add, Nat.mul_one, Nat.mul_comm]; rfl
theorem ch_mul : ∀ n k, (k + 1) * ch (n + 1) (k + 1) = (n + 1) * ch n k
  | 0, 0 => rfl
  | 0, k + 1 => by simp [ch]
  | n + 1, 0 => by
    have h1 := ch_mul n 0;have e : ch n 0 = 1 := by cases n <;> rfl
    rw [e] at h1;show (0 + 1) * (ch (n + 1) 0 + ch (n + 1) (0 + 1)) = (n + 1 + 1) * ch (n + 1) 0;rw [show ch (n + 1) 0 = 1 from rfl];omega
  | n + 1, k + 1 => by
    have h1 := ch_mul n k;have h2 := ch_mul n (k + 1);rw [ch.eq_3 (n + 1) (k + 1), Nat.mul_add, h2];have e : ch (n + 1) (k + 1) = ch n k + ch n (k + 1) := rfl;have e1 : (k + 1 + 1) * ch (n + 1) (k + 1) = (k + 1) * ch (n + 1) (k + 1) + ch (n + 1) (k + 1) := by rw [Nat.add_mul]; omega
    rw [e1, h1];have e2 : (n + 1 + 1) * ch (n + 1) (k + 1) = (n + 1) * ch (n + 1) (k + 1) + ch (n + 1) (k + 1) := by rw [Nat.add_mul]; omega
    rw [e2];have e3 : (n + 1) * ch (n + 1) (k + 1) = (n + 1) * ch n k + (n + 1) * ch n (k + 1) := by rw [e, Nat.mul_add]
    omega
theorem Prm.dvd_ch {p k : Nat} (h : Prm p) (h0 : 0 < k) (hk : k < p) : p ∣ ch p k := by
  obtain ⟨n, rfl⟩ : ∃ n, p = n + 1 := ⟨p - 1, by omega⟩;obtain ⟨j, rfl⟩ : ∃ j, k = j + 1 := ⟨k - 1, by omega⟩;have hm : n + 1 ∣ (j + 1) * ch (n + 1) (j + 1) := by rw [ch_mul]; exact Nat.dvd_mul_right _ _
  rcases h.dvd_mul hm with h1 | h1
  · have := Nat.le_of_dvd oM h1; omega
  · exact h1
theorem Prm.bsum {p : Nat} (h : Prm p) (a : Nat) : ∀ m, 1 ≤ m → m ≤ p → bsum a p m % p = 1 % p
  | 0, h1, _ => absurd h1 dE
  | 1, _, _ => by simp [Hw.bsum, ch]
  | m + 2, _, h2 => by
    obtain ⟨c, hc⟩ := h.dvd_ch (k := m + 1) oM oM;rw [Hw.bsum, hc, Nat.mul_assoc, Nat.add_mul_mod_self_left];exact h.bsum a (m + 1) oM oM
theorem Prm.succ_pow {p : Nat} (h : Prm p) (a : Nat) : (a + 1) ^ p % p = (a ^ p + 1) % p := by
  rw [← bsum_pow, Hw.bsum, ch_self, Nat.one_mul, Nat.add_mod, h.bsum a p (by have := h.1; omega) (Nat.le_refl _), ← Nat.add_mod, Nat.add_comm]
theorem Prm.flt {p : Nat} (h : Prm p) : ∀ a, a ^ p % p = a % p
  | 0 => by rw [Nat.zero_pow h.pos]
  | a + 1 => by rw [h.succ_pow, Nat.add_mod, h.flt a, ← Nat.add_mod]
theorem Prm.fermat {p a : Nat} (h : Prm p) (ha : ¬ p ∣ a) : a ^ (p - 1) % p = 1 := by
  have h1 := h.flt a;have h2 : a ^ p = a * a ^ (p - 1) := by
    obtain ⟨n, rfl⟩ : ∃ n, p = n + 1 := ⟨p - 1, by have := h.1; omega⟩;rw [Nat.pow_succ, Nat.mul_comm]; rfl
  have hp : 1 ≤ a ^ (p - 1) := Nat.pow_pos (Nat.pos_of_ne_zero fun e => ha (e ▸ Nat.dvd_zero p));have h3 : p ∣ a * (a ^ (p - 1) - 1) := by
    rw [Nat.mul_sub, Nat.mul_one, ← h2];have hle : a ≤ a ^ p := by rw [h2]; exact Nat.le_mul_of_pos_right a hp
    apply Nat.dvd_of_mod_eq_zero;exact Nat.sub_mod_eq_zero_of_mod_eq h1
  rcases h.dvd_mul h3 with h4 | h4
  · exact absurd h4 ha
  · obtain ⟨c, hc⟩ := h4
    have : a ^ (p - 1) = 1 + p * c := by omega
    rw [this, Nat.add_mul_mod_self_left, Nat.mod_eq_of_lt h.1]

theorem pow_one_mul {P b m : Nat} (h : b ^ m % P = 1 % P) (k : Nat) : b ^ (m * k) % P = 1 % P := by
  rw [Nat.pow_mul, Nat.pow_mod, h, ← Nat.pow_mod, Nat.one_pow]
theorem pow_gcd {P b : Nat} : ∀ m n, b ^ m % P = 1 % P → b ^ n % P = 1 % P → b ^ (Nat.gcd m n) % P = 1 % P := by
  intro m n
  induction m, n using Nat.gcd.induction with
  | H0 n => intro _ h; rwa [Nat.gcd_zero_left]
  | H1 m n hm ih =>
    intro h1 h2;rw [Nat.gcd_rec];refine ih ?_ h1;have e : b ^ n = b ^ (m * (n / m)) * b ^ (n % m) := by rw [← Nat.pow_add, Nat.div_add_mod]
    rw [e, Nat.mul_mod, pow_one_mul h1, ← Nat.mul_mod, Nat.one_mul] at h2;exact h2
theorem ord_dvd {P b q : Nat} (hP : Prm P) (hq : Prm q) (h1 : b ^ q % P = 1 % P) (h2 : b % P ≠ 1 % P) : q ∣ P - 1 := by
  apply Classical.byContradiction;intro hn;have hb : ¬ P ∣ b := fun hd => by
    have : P ∣ b ^ q := by
      obtain ⟨n, rfl⟩ : ∃ n, q = n + 1 := ⟨q - 1, by have := hq.1; omega⟩;rw [Nat.pow_succ]; exact Nat.dvd_trans hd (Nat.dvd_mul_left _ _)
    rw [Nat.mod_eq_zero_of_dvd this, Nat.mod_eq_of_lt hP.1] at h1;cases h1
  have h3 := hP.fermat hb;have h4 := pow_gcd q (P - 1) h1 (by rw [h3, Nat.mod_eq_of_lt hP.1]);rw [hq.coprime hn, Nat.pow_one] at h4;exact h2 h4

def pwm (n : Nat) : Nat → Nat → Nat → Nat
  | 0, _, _ => 1 % n
  | f + 1, b, e => bif Nat.beq (e % 2) 1 then b * pwm n f (b * b % n) (e / 2) % n else pwm n f (b * b % n) (e / 2)
theorem pwm_eq (n : Nat) : ∀ f b e, e < 2 ^ f → pwm n f b e = b ^ e % n
  | 0, b, e, h => by
    obtain rfl : e = 0 := by simpa using h
    simp [pwm]
  | f + 1, b, e, h => by
    have h1 : e / 2 < 2 ^ f := by rw [Nat.pow_succ] at h; omega
    have ih := pwm_eq n f (b * b % n) (e / 2) h1;have e1 : (b * b % n) ^ (e / 2) % n = b ^ (2 * (e / 2)) % n := by rw [← Nat.pow_mod, ← Nat.pow_two, ← Nat.pow_mul]
    rw [pwm, ih, e1];by_cases h2 : e % 2 = 1
    · rw [h2]
      have : Nat.beq 1 1 = true := rfl;rw [this, cond_true];rw [Nat.mul_mod, Nat.mod_mod, ← Nat.mul_mod, Nat.mul_comm, ← Nat.pow_succ];congr 2;omega
    · have h3 : e % 2 = 0 := by omega
      rw [h3];have : Nat.beq 0 1 = false := rfl;rw [this, cond_false];congr 2;omega

def pockOk (N a q f : Nat) : Bool := Nat.beq ((N - 1) % q) 0 && Nat.beq (pwm N f a (N - 1)) 1 && Nat.beq (Nat.gcd (pwm N f a ((N - 1) / q) + (N - 1)) N) 1 && Nat.blt (N - 1) (2 ^ f)
theorem pock {N a q f : Nat} (hN : 2 ≤ N) (hq : Prm q) (h : pockOk N a q f = true) : ∀ P, Prm P → P ∣ N → q ∣ P - 1 := by
  intro P hP hPN;simp only [pockOk, Bool.and_eq_true, Nat.blt_eq] at h;obtain ⟨⟨⟨h1, h2⟩, h3⟩, h4⟩ := h;have h1 := Nat.eq_of_beq_eq_true h1;have h2 := Nat.eq_of_beq_eq_true h2;have h3 := Nat.eq_of_beq_eq_true h3;rw [pwm_eq N f a _ h4] at h2;rw [pwm_eq N f a _ (Nat.lt_of_le_of_lt (Nat.div_le_self _ _) h4)] at h3;have hd : q * ((N - 1) / q) = N - 1 := by have := Nat.div_add_mod (N - 1) q; omega
  have down : ∀ x y, x % N = y % N → x % P = y % P := fun x y e => by
    rw [← Nat.mod_mod_of_dvd x hPN, ← Nat.mod_mod_of_dvd y hPN, e]
  refine ord_dvd (b := a ^ ((N - 1) / q)) hP hq ?_ fun e => ?_
  · rw [← Nat.pow_mul, Nat.mul_comm, hd]
    exact down _ _ (by rw [h2, Nat.mod_eq_of_lt hN])
  · have e1 : P ∣ a ^ ((N - 1) / q) % N + (N - 1) := by
      obtain ⟨c, hc⟩ := hPN;have hdm := Nat.div_add_mod (a ^ ((N - 1) / q)) N;apply Nat.dvd_of_mod_eq_zero;have e2 : (a ^ ((N - 1) / q) % N + (N - 1) + 1) % P = 1 % P := by
        rw [show a ^ ((N - 1) / q) % N + (N - 1) + 1 = a ^ ((N - 1) / q) % N + N by omega];rw [Nat.add_mod, Nat.mod_mod_of_dvd _ ⟨c, hc⟩, Nat.mod_eq_zero_of_dvd ⟨c, hc⟩, Nat.add_zero, Nat.mod_mod, e]
      have hP2 := hP.1;rw [Nat.mod_eq_of_lt hP2, Nat.add_mod, Nat.mod_eq_of_lt hP2] at e2;have hlt := Nat.mod_lt (a ^ ((N - 1) / q) % N + (N - 1)) hP.pos;generalize (a ^ ((N - 1) / q) % N + (N - 1)) % P = r at e2 hlt ⊢;rcases Nat.lt_or_ge (r + 1) P with h5 | h5
      · rw [Nat.mod_eq_of_lt h5] at e2; omega
      · obtain rfl : P = r + 1 := by omega
        rw [Nat.mod_self] at e2; cases e2
    have e2 : P ∣ Nat.gcd (a ^ ((N - 1) / q) % N + (N - 1)) N := Nat.dvd_gcd e1 hPN;rw [h3] at e2;have := Nat.le_of_dvd Nat.one_pos e2;have := hP.1;omega
theorem prm_of {N F : Nat} (hN : 2 ≤ N) (h : ∀ P, Prm P → P ∣ N → F ∣ P - 1) (hF : N < (F + 1) * (F + 1)) : Prm N := by
  obtain ⟨P, g1, g2, g3⟩ := prm_div N hN;rcases g3 with g3 | g3
  · exact g3
  · have h1 := Nat.le_of_dvd (by have := g1.1; omega) (h P g1 g2)
    have := g1.1;have h2 := Nat.mul_le_mul (show F + 1 ≤ P by omega) (show F + 1 ≤ P by omega);omega
theorem prm_pock1 {N q : Nat} (a f : Nat) (hq : Prm q) (h : (pockOk N a q f && Nat.blt 1 N && Nat.blt N ((q + 1) * (q + 1))) = true) : Prm N := by
  simp only [Bool.and_eq_true, Nat.blt_eq] at h;exact prm_of h.1.2 (pock h.1.2 hq h.1.1) h.2
theorem prm_pock2 {N q r : Nat} (a b f : Nat) (hq : Prm q) (hr : Prm r) (h : (pockOk N a q f && pockOk N b r f && Nat.beq (Nat.gcd q r) 1 && Nat.blt 1 N && Nat.blt N ((q * r + 1) * (q * r + 1))) = true) : Prm N := by
  simp only [Bool.and_eq_true, Nat.blt_eq] at h;exact prm_of h.1.2 (fun P h1 h2 => Nat.Coprime.mul_dvd_of_dvd_of_dvd (Nat.eq_of_beq_eq_true h.1.1.2) (pock h.1.2 hq h.1.1.1.1 P h1 h2) (pock h.1.2 hr h.1.1.1.2 P h1 h2)) h.2
set_option maxRecDepth 100000
theorem prm_430751 : Prm 430751 := prm_small _ 658 dE zK
theorem prm_4153 : Prm 4153 := prm_small _ 66 dE zK
theorem prm_569003 : Prm 569003 := prm_small _ 756 dE zK
theorem prm_8574133 : Prm 8574133 := prm_small _ 2930 dE zK
theorem prm_127 : Prm 127 := prm_small _ 13 dE zK
theorem prm_2773320623 : Prm 2773320623 := prm_pock1 2 256 prm_569003 zK
theorem prm_72106336199 : Prm 72106336199 := prm_pock1 2 256 prm_2773320623 zK
theorem prm_1919519569386763 : Prm 1919519569386763 := prm_pock2 2 2 256 prm_8574133 prm_127 zK
theorem prm_75445702479781427272750846543864801 : Prm 75445702479781427272750846543864801 := prm_pock2 2 2 256 prm_1919519569386763 prm_72106336199 zK
theorem prm_31757755568855353 : Prm 31757755568855353 := prm_pock2 2 2 256 prm_430751 prm_4153 zK
theorem Cb : Prm 74058212732561358302231226437062788676166966415465897661863160754340907 := prm_pock2 2 2 256 prm_75445702479781427272750846543864801 prm_31757755568855353 zK
theorem prm_field : Prm 57896044618658097711785492504343953926634992332820282019728792003956564819949 := prm_pock1 2 256 Cb zK
end Hw
end

section
namespace Hw
open Go

def by8 (x : UInt64) : List UInt8 := [x.toUInt8, (Ap x 8).toUInt8, (Ap x 16).toUInt8, (Ap x 24).toUInt8, (Ap x 32).toUInt8, (Ap x 40).toUInt8, (Ap x 48).toUInt8, (Ap x 56).toUInt8]
theorem by8_eq (x : UInt64) : by8 x = leb 8 x.toNat := by
  have e : ∀ y : UInt64, y.toUInt8 = UInt8.ofNat y.toNat := fun y => rfl;simp only [by8, leb, e, A4, Nat.div_div_eq_div_mul]
def set8 (l : List UInt8) (o : Nat) (x : UInt64) : List UInt8 :=
  (((((((l.set o x.toUInt8).set (o + 1) (Ap x 8).toUInt8).set (o + 2) (Ap x 16).toUInt8).set (o + 3) (Ap x 24).toUInt8).set (o + 4) (Ap x 32).toUInt8).set (o + 5) (Ap x 40).toUInt8).set (o + 6) (Ap x 48).toUInt8).set (o + 7) (Ap x 56).toUInt8
theorem set8_at (p : List UInt8) (x : UInt64) (a b c d e f g h : UInt8) (r : List UInt8) : set8 (p ++ a :: b :: c :: d :: e :: f :: g :: h :: r) p.length x = p ++ by8 x ++ r := by
  induction p with
  | nil => rfl
  | cons y p ih =>
    simp only [List.cons_append, List.length_cons];rw [← ih];simp only [set8, show p.length + 1 + 1 = (p.length + 1) + 1 from rfl, show p.length + 1 + 2 = (p.length + 2) + 1 from rfl, show p.length + 1 + 3 = (p.length + 3) + 1 from rfl, show p.length + 1 + 4 = (p.length + 4) + 1 from rfl, show p.length + 1 + 5 = (p.length + 5) + 1 from rfl, show p.length + 1 + 6 = (p.length + 6) + 1 from rfl, show p.length + 1 + 7 = (p.length + 7) + 1 from rfl, List.set_cons_succ]
theorem by8_length (x : UInt64) : (by8 x).length = 8 := rfl
theorem set8_1 (x : UInt64) : set8 (List.replicate 32 0) 0 x = by8 x ++ List.replicate 24 0 := set8_at [] x 0 0 0 0 0 0 0 0 (List.replicate 24 0)
theorem set8_2 (x y : UInt64) : set8 (by8 x ++ List.replicate 24 0) 8 y = by8 x ++ by8 y ++ List.replicate 16 0 := set8_at (by8 x) y 0 0 0 0 0 0 0 0 (List.replicate 16 0)
theorem set8_3 (x y z : UInt64) : set8 (by8 x ++ by8 y ++ List.replicate 16 0) 16 z = by8 x ++ by8 y ++ by8 z ++ List.replicate 8 0 := set8_at (by8 x ++ by8 y) z 0 0 0 0 0 0 0 0 (List.replicate 8 0)
theorem set8_4 (x y z w : UInt64) : set8 (by8 x ++ by8 y ++ by8 z ++ List.replicate 8 0) 24 w = by8 x ++ by8 y ++ by8 z ++ by8 w := by
  have h := set8_at (by8 x ++ by8 y ++ by8 z) w 0 0 0 0 0 0 0 0 [];rw [List.append_nil] at h;exact h
theorem by8_store (w : W5) : by8 (w.a ||| Ay w.b 51) ++ by8 (Ap w.b 13 ||| Ay w.c 38) ++ by8 (Ap w.c 26 ||| Ay w.d 25) ++ by8 (Ap w.d 39 ||| Ay w.e 12) = stB5 w := by
  simp only [by8_eq, stB5]
def qw (a : List UInt8) (i : Nat) : UInt64 :=
  (a.getD (0 + 8 * i * 1 + 0) 0).toUInt64 ||| Ay (a.getD (0 + 8 * i * 1 + 1) 0).toUInt64 8 ||| Ay (a.getD (0 + 8 * i * 1 + 2) 0).toUInt64 16 ||| Ay (a.getD (0 + 8 * i * 1 + 3) 0).toUInt64 24 ||| Ay (a.getD (0 + 8 * i * 1 + 4) 0).toUInt64 32 ||| Ay (a.getD (0 + 8 * i * 1 + 5) 0).toUInt64 40 ||| Ay (a.getD (0 + 8 * i * 1 + 6) 0).toUInt64 48 ||| Ay (a.getD (0 + 8 * i * 1 + 7) 0).toUInt64 56
def qtA (a : List UInt8) : Nat → List UInt64
  | 0 => List.replicate 4 0
  | i + 1 => (qtA a i).set i (qw a i)
theorem qtA_length (a : List UInt8) : ∀ i, (qtA a i).length = 4
  | 0 => rfl
  | i + 1 => by rw [qtA, List.length_set, qtA_length a i]
theorem or_byte {x : UInt64} {b : UInt8} {k : Nat} (hk : k ≤ 56) (hx : x.toNat < 2 ^ k) : (x ||| Ay b.toUInt64 k).toNat = x.toNat + 2 ^ k * b.toNat ∧ x.toNat + 2 ^ k * b.toNat < 2 ^ (k + 8) := by
  have hb := b.toNat_lt;have h1 : 2 ^ k * b.toNat < 2 ^ 64 := by
    have h2 : 2 ^ k * b.toNat < 2 ^ k * 2 ^ 8 := Nat.mul_lt_mul_of_pos_left hb (Nat.pow_pos dE);rw [← Nat.pow_add] at h2;exact Nat.lt_of_lt_of_le h2 (Nat.pow_le_pow_right dE oM)
  have e : (Ay b.toUInt64 k).toNat = 2 ^ k * b.toNat := by rw [Bt, UInt8.toNat_toUInt64, Nat.mul_comm, Nat.mod_eq_of_lt h1]
  refine ⟨by rw [or_add hx e, e], ?_⟩;have h3 : 2 ^ k * b.toNat ≤ 2 ^ k * 255 := Nat.mul_le_mul_left _ oM;rw [Nat.pow_add];omega
theorem word8 (b0 b1 b2 b3 b4 b5 b6 b7 : UInt8) : (b0.toUInt64 ||| Ay b1.toUInt64 8 ||| Ay b2.toUInt64 16 ||| Ay b3.toUInt64 24 ||| Ay b4.toUInt64 32 ||| Ay b5.toUInt64 40 ||| Ay b6.toUInt64 48 ||| Ay b7.toUInt64 56).toNat =
    b0.toNat + 2 ^ 8 * b1.toNat + 2 ^ 16 * b2.toNat + 2 ^ 24 * b3.toNat + 2 ^ 32 * b4.toNat + 2 ^ 40 * b5.toNat + 2 ^ 48 * b6.toNat + 2 ^ 56 * b7.toNat := by
  have h0 : b0.toUInt64.toNat < 2 ^ 8 := by rw [UInt8.toNat_toUInt64]; exact b0.toNat_lt
  obtain ⟨e1, l1⟩ := or_byte (b := b1) dE h0;obtain ⟨e2, l2⟩ := or_byte (b := b2) (k := 16) dE (by rw [e1]; exact l1);obtain ⟨e3, l3⟩ := or_byte (b := b3) (k := 24) dE (by rw [e2]; exact l2);obtain ⟨e4, l4⟩ := or_byte (b := b4) (k := 32) dE (by rw [e3]; exact l3);obtain ⟨e5, l5⟩ := or_byte (b := b5) (k := 40) dE (by rw [e4]; exact l4);obtain ⟨e6, l6⟩ := or_byte (b := b6) (k := 48) dE (by rw [e5]; exact l5);obtain ⟨e7, l7⟩ := or_byte (b := b7) (k := 56) dE (by rw [e6]; exact l6);rw [e7, e6, e5, e4, e3, e2, e1, UInt8.toNat_toUInt64]
theorem qw_exp (a0 a1 a2 a3 a4 a5 a6 a7 a8 a9 a10 a11 a12 a13 a14 a15 a16 a17 a18 a19 a20 a21 a22 a23 a24 a25 a26 a27 a28 a29 a30 a31 : UInt8) (l : List UInt8) (hl : l = [a0, a1, a2, a3, a4, a5, a6, a7, a8, a9, a10, a11, a12, a13, a14, a15, a16, a17, a18, a19, a20, a21, a22, a23, a24, a25, a26, a27, a28, a29, a30, a31]) :
    (qw l 0).toNat + 18446744073709551616 * (qw l 1).toNat + 340282366920938463463374607431768211456 * (qw l 2).toNat + 6277101735386680763835789423207666416102355444464034512896 * (qw l 3).toNat = le l := by
  subst hl;have h0 := word8 a0 a1 a2 a3 a4 a5 a6 a7;have h1 := word8 a8 a9 a10 a11 a12 a13 a14 a15;have h2 := word8 a16 a17 a18 a19 a20 a21 a22 a23;have h3 := word8 a24 a25 a26 a27 a28 a29 a30 a31;have k0 := h0;simp only [qw, List.getD_cons_succ, List.getD_cons_zero, Nat.mul_zero, Nat.zero_add, Nat.add_zero, Nat.mul_one, Nat.reduceMul, Nat.reduceAdd, h0, h1, h2, h3, le];omega
theorem qw_le {a : List UInt8} (h : a.length = 32) : (qw a 0).toNat + 18446744073709551616 * (qw a 1).toNat + 340282366920938463463374607431768211456 * (qw a 2).toNat + 6277101735386680763835789423207666416102355444464034512896 * (qw a 3).toNat = le a := by
  obtain ⟨f, hf⟩ : ∃ f : Nat → UInt8, a = (List.range 32).map f := ⟨fun i => a.getD i 0, by
    apply List.ext_getElem (by simp [h]);intro i h1 h2;simp [List.getD, h1]⟩
  exact qw_exp (f 0) (f 1) (f 2) (f 3) (f 4) (f 5) (f 6) (f 7) (f 8) (f 9) (f 10) (f 11) (f 12) (f 13) (f 14) (f 15) (f 16) (f 17) (f 18) (f 19) (f 20) (f 21) (f 22) (f 23) (f 24) (f 25) (f 26) (f 27) (f 28) (f 29) (f 30) (f 31) a hf
def ldN (a : List UInt8) : W5 := ldF (qw a 0) (qw a 1) (qw a 2) (qw a 3)
theorem ldN_v {a : List UInt8} (h : a.length = 32) : (ldN a).v = le a := by rw [ldN, ldF_v, qw_le h]
theorem ldN_lt (a : List UInt8) : (ldN a).lt 2251799813685248 4503599627370496 := ldF_lt _ _ _ _
theorem W5.l_length (w : W5) : w.l.length = 5 := rfl
def addF (x y : W5) : W5 := ⟨x.a + y.a, x.b + y.b, x.c + y.c, x.d + y.d, x.e + y.e⟩
def subF (x y : W5) : W5 := ⟨x.a + (9007199254740916 - y.a), x.b + (9007199254740988 - y.b), x.c + (9007199254740988 - y.c), x.d + (9007199254740988 - y.d), x.e + (9007199254740988 - y.e)⟩
theorem addF_v {x y : W5} (hx : x.lt 2251799813685248 4503599627370496) (hy : y.lt 2251799813685248 4503599627370496) : (addF x y).v = x.v + y.v := by
  obtain ⟨h1, h2, h3, h4, h5⟩ := hx;obtain ⟨g1, g2, g3, g4, g5⟩ := hy;have e : ∀ {u v : UInt64}, u.toNat < 4503599627370496 → v.toNat < 4503599627370496 → (u + v).toNat = u.toNat + v.toNat := fun h g => by rw [UInt64.toNat_add]; omega
  simp only [W5.v, addF];rw [e oM oM, e oM oM, e oM oM, e oM oM, e h5 g5];omega
theorem subF_v {x y : W5} (hx : x.lt 2251799813685248 4503599627370496) (hy : y.lt 2251799813685248 4503599627370496) : (subF x y).v + y.v = x.v + 4 * PF := by
  obtain ⟨h1, h2, h3, h4, h5⟩ := hx;obtain ⟨g1, g2, g3, g4, g5⟩ := hy;have e : ∀ {u v : UInt64}, u.toNat < 4503599627370496 → v.toNat < 4503599627370496 → (u + (9007199254740988 - v)).toNat = u.toNat + (9007199254740988 - v.toNat) := fun h g => by
    rw [UInt64.toNat_add, UInt64.toNat_sub, show (9007199254740988 : UInt64).toNat = 9007199254740988 from rfl]; omega
  have e0 : ∀ {u v : UInt64}, u.toNat < 2251799813685248 → v.toNat < 2251799813685248 → (u + (9007199254740916 - v)).toNat = u.toNat + (9007199254740916 - v.toNat) := fun h g => by
    rw [UInt64.toNat_add, UInt64.toNat_sub, show (9007199254740916 : UInt64).toNat = 9007199254740916 from rfl]; omega
  simp only [W5.v, subF, PF];rw [e0 h1 g1, e oM oM, e oM oM, e oM oM, e h5 g5];omega
def q4 (a b c d : UInt64) : Nat := a.toNat + 18446744073709551616 * b.toNat + 340282366920938463463374607431768211456 * c.toNat + 6277101735386680763835789423207666416102355444464034512896 * d.toNat
theorem q4_shift (a b c d : UInt64) : q4 (Ay a 1) (Ay b 1 ||| Ap a 63) (Ay c 1 ||| Ap b 63) (Ay d 1 ||| Ap c 63) = 2 * q4 a b c d % 115792089237316195423570985008687907853269984665640564039457584007913129639936 := by
  have h1 := mid_word a b 1 dE;have h2 := mid_word b c 1 dE;have h3 := mid_word c d 1 dE;have := a.toNat_lt; have := b.toNat_lt; have := c.toNat_lt; have := d.toNat_lt;simp only [q4];rw [UInt64.or_comm (Ay b 1), UInt64.or_comm (Ay c 1), UInt64.or_comm (Ay d 1), show (Ap a 63 ||| Ay b 1).toNat = _ from h1, show (Ap b 63 ||| Ay c 1).toNat = _ from h2, show (Ap c 63 ||| Ay d 1).toNat = _ from h3, Bt];omega
theorem q4_top (a b c d : UInt64) : (Ap d 63).toNat = q4 a b c d / 57896044618658097711785492504343953926634992332820282019728792003956564819968 := by
  have := a.toNat_lt; have := b.toNat_lt; have := c.toNat_lt; have := d.toNat_lt;rw [A4, q4];omega
end Hw
end

section
namespace Ed
open Hw Go

theorem PF_prm : Prm PF := prm_field
instance : NeZero PF := ⟨by decide⟩
abbrev Fp := Fin PF
def fe (n : Nat) : Fp := Fin.ofNat PF n
theorem fe_val (n : Nat) : (fe n).val = n % PF := rfl
theorem fe_mod (n : Nat) : fe (n % PF) = fe n := Fin.ext (by simp [fe_val])
theorem fe_of (a : Fp) : fe a.val = a := Fin.ext (by rw [fe_val]; exact Nat.mod_eq_of_lt a.isLt)
theorem fe_add (m n : Nat) : fe (m + n) = fe m + fe n := Fin.ext (by rw [fe_val, Fin.val_add, fe_val, fe_val, ← Nat.add_mod])
theorem fe_mul (m n : Nat) : fe (m * n) = fe m * fe n := Fin.ext (by rw [fe_val, Fin.val_mul, fe_val, fe_val, ← Nat.mul_mod])
theorem fe_eq {m n : Nat} : fe m = fe n ↔ m % PF = n % PF := ⟨fun h => congrArg Fin.val h, fun h => Fin.ext h⟩
def Ch (a : Fp) (e : Nat) : Fp := fe (pwm PF 256 a.val e)
theorem fpow_val (a : Fp) {e : Nat} (h : e < 2 ^ 256) : (Ch a e).val = a.val ^ e % PF := by rw [Ch, fe_val, pwm_eq PF 256 a.val e h, Nat.mod_mod]
theorem fpow_zero (a : Fp) : Ch a 0 = 1 := Fin.ext (by rw [fpow_val a dE]; rfl)
theorem fpow_two {a : Fp} {e : Nat} (h : 2 * e < 2 ^ 256) : Ch a (2 * e) = Ch a e * Ch a e := Fin.ext (by
  rw [fpow_val a h, Fin.val_mul, fpow_val a oM, ← Nat.mul_mod, ← Nat.pow_add, Nat.two_mul])
theorem fpow_succ {a : Fp} {e : Nat} (h : e + 1 < 2 ^ 256) : Ch a (e + 1) = Ch a e * a := Fin.ext (by
  rw [fpow_val a h, Fin.val_mul, fpow_val a oM, Nat.pow_succ, Nat.mul_mod (a.val ^ e % PF), Nat.mod_mod, ← Nat.mul_mod])
theorem fpow_add {a : Fp} {m n : Nat} (h : m + n < 2 ^ 256) : Ch a (m + n) = Ch a m * Ch a n := Fin.ext (by
  rw [fpow_val a h, Fin.val_mul, fpow_val a oM, fpow_val a oM, ← Nat.mul_mod, ← Nat.pow_add])
theorem fpow_mul {a : Fp} {m n : Nat} (hm : m < 2 ^ 256) (hn : n < 2 ^ 256) (h : m * n < 2 ^ 256) : Ch (Ch a m) n = Ch a (m * n) := Fin.ext (by
  rw [fpow_val _ hn, fpow_val a hm, fpow_val a h, ← Nat.pow_mod, ← Nat.pow_mul])
theorem mulpow {a b : Fp} {n : Nat} (hn : n < 2 ^ 256) : Ch (a * b) n = Ch a n * Ch b n := Fin.ext (by
  rw [fpow_val _ hn, Fin.val_mul, Fin.val_mul, fpow_val a hn, fpow_val b hn, ← Nat.mul_mod, ← Nat.pow_mod, Nat.mul_pow])
theorem ferm {a : Fp} (h : a ≠ 0) : Ch a (PF - 1) = 1 := Fin.ext (by
  rw [fpow_val a dE];exact PF_prm.fermat fun hd => h (Fin.ext (Nat.eq_zero_of_dvd_of_lt hd a.isLt)))
def finv (a : Fp) : Fp := Ch a (PF - 2)
theorem finv_mul {a : Fp} (h : a ≠ 0) : a * finv a = 1 := by
  have h1 := ferm h;rw [show PF - 1 = (PF - 2) + 1 from by decide, fpow_succ dE] at h1;rw [finv]; grind
theorem finv_zero : finv 0 = 0 := by kernel_rfl
def fD : Fp := fe 37095705934669439343138083508754565189542113879843219016388785533085940283555
def fI : Fp := fe 19681161376707505956807079304988542015446066515923890162744021073123829784752
theorem half {z : Fp} (h : z ≠ 0) : Ch (z * z) ((PF - 1) / 2) = 1 := by
  rw [show z * z = Ch z 2 from by rw [show (2 : Nat) = 2 * 1 from rfl, fpow_two dE, show (1 : Nat) = 0 + 1 from rfl, fpow_succ dE, fpow_zero]; grind, fpow_mul dE dE dE];exact ferm h
theorem fD_half : (decide (Ch fD ((PF - 1) / 2) = 1)) = false := by kernel_rfl
theorem fI_sq : fI * fI = -1 := by kernel_rfl
theorem fone : (1 : Fp) ≠ 0 := by
  intro h;have := congrArg Fin.val h;revert this;decide
theorem ftwo : (1 : Fp) + 1 ≠ 0 := by
  intro h;have := congrArg Fin.val h;revert this;decide
def cv : Cv Fp where
  d := fD
  i := fI
  inv := finv
  one_ne := fone
  two_ne := ftwo
  mul_inv := fun _ h => finv_mul h
  inv_zero := finv_zero
  i_sq := fI_sq
  nsq := fun z h => by
    by_cases hz : z = 0
    · rw [hz] at h
      have := congrArg Fin.val h
      revert this
      decide
    · have h1 := half hz
      rw [h] at h1
      have := fD_half
      rw [h1] at this
      simp at this

def fb (x : Fp) : List UInt8 := leb 32 x.val
theorem Am (x : Fp) : (fb x).length = 32 := Ag _ _
theorem le_fb (x : Fp) : le (fb x) = x.val := by rw [fb, le_leb]; exact Nat.mod_eq_of_lt (Nat.lt_trans x.isLt dE)
theorem fe_fb (x : Fp) : fe (le (fb x)) = x := by rw [le_fb, fe_of]
theorem fb_inj {x y : Fp} : fb x = fb y ↔ x = y := ⟨fun h => by rw [← fe_fb x, h, fe_fb], fun h => by rw [h]⟩
theorem fb_fe (n : Nat) : fb (fe n) = leb 32 (n % PF) := rfl
theorem mulF_fe {a b : W5} (ha : a.fit) (hb : b.fit) : fe (mulF a b).v = fe a.v * fe b.v := by rw [← fe_mul]; exact fe_eq.2 (mulF_v ha hb)
theorem fe_four : fe (4 * PF) = 0 := by kernel_rfl
theorem subF_fe {x y : W5} (hx : x.lt 2251799813685248 4503599627370496) (hy : y.lt 2251799813685248 4503599627370496) : fe (subF x y).v = fe x.v - fe y.v := by
  have h := congrArg fe (subF_v hx hy);rw [fe_add, fe_add, fe_four] at h;grind
theorem fe_small (n : UInt64) : fb (fe n.toNat) = leb 32 n.toNat := by
  have := n.toNat_lt;rw [fb_fe, Nat.mod_eq_of_lt (Nat.lt_trans this dE)]
theorem addF_fe {a b : List UInt8} (ha : a.length = 32) (hb : b.length = 32) : fe (addF (ldN a) (ldN b)).v = fe (le a) + fe (le b) := by rw [addF_v (ldN_lt a) (ldN_lt b), ldN_v ha, ldN_v hb, fe_add]
theorem subL_fe {a b : List UInt8} (ha : a.length = 32) (hb : b.length = 32) : fe (subF (ldN a) (ldN b)).v = fe (le a) - fe (le b) := by rw [subF_fe (ldN_lt a) (ldN_lt b), ldN_v ha, ldN_v hb]
theorem mulL_fe {a b : List UInt8} (ha : a.length = 32) (hb : b.length = 32) : fe (mulF (ldN a) (ldN b)).v = fe (le a) * fe (le b) := by rw [mulF_fe (ldN_lt a).fit (ldN_lt b).fit, ldN_v ha, ldN_v hb]
structure PowI (E : Nat) (X : Fp) (k : Nat) (p : W5) (a b c d : UInt64) : Prop where
  le : k ≤ 256
  fit : p.fit
  val : fe p.v = Ch X (E / 2 ^ (256 - k))
  q : q4 a b c d = E * 2 ^ k % 2 ^ 256
theorem PowI.first {e : List UInt8} (h : e.length = 32) (X : Fp) : PowI (Hw.le e) X 0 ⟨1, 0, 0, 0, 0⟩ (qw e 0) (qw e 1) (qw e 2) (qw e 3) := by
  have hl := le_lt e;rw [h] at hl;refine ⟨by decide, ⟨by decide, by decide, by decide, by decide, by decide⟩, ?_, ?_⟩
  · rw [show 256 - 0 = 256 from rfl, Nat.div_eq_of_lt (Nat.lt_of_lt_of_le hl dE), fpow_zero]; rfl
  · rw [q4, qw_le h, Nat.pow_zero, Nat.mul_one, Nat.mod_eq_of_lt (Nat.lt_of_lt_of_le hl dE)]
theorem top_bit (E k : Nat) (hk : k < 256) : E * 2 ^ k % 2 ^ 256 / 2 ^ 255 = E / 2 ^ (255 - k) % 2 := by
  have e : (2 : Nat) ^ 256 = 2 ^ k * (2 ^ (255 - k) * 2) := by rw [← Nat.pow_succ, ← Nat.pow_add]; congr 1; omega
  have e2 : (2 : Nat) ^ 255 = 2 ^ k * 2 ^ (255 - k) := by rw [← Nat.pow_add]; congr 1; omega
  rw [e, e2, Nat.mul_comm E, Nat.mul_mod_mul_left, ← Nat.div_div_eq_div_mul, Nat.mul_div_cancel_left _ (Nat.pow_pos dE)];rw [Nat.mod_mul_right_div_self]
theorem next_div (E k : Nat) (hk : k < 256) : E / 2 ^ (256 - (k + 1)) = 2 * (E / 2 ^ (256 - k)) + E / 2 ^ (255 - k) % 2 := by
  rw [show 256 - (k + 1) = 255 - k by omega, show 256 - k = (255 - k) + 1 by omega, Nat.pow_succ, ← Nat.div_div_eq_div_mul];omega
section
variable {E : Nat} {X : Fp} {k : Nat} {p x : W5} {a b c d : UInt64}
theorem PowI.bit (h : PowI E X k p a b c d) (hk : k < 256) : (Ap d 63).toNat = E / 2 ^ (255 - k) % 2 := by
  rw [q4_top a b c d, h.q, ← top_bit E k hk]
theorem PowI.q' (h : PowI E X k p a b c d) : q4 (Ay a 1) (Ay b 1 ||| Ap a 63) (Ay c 1 ||| Ap b 63) (Ay d 1 ||| Ap c 63) = E * 2 ^ (k + 1) % 2 ^ 256 := by
  have e : E * 2 ^ (k + 1) = 2 * (E * 2 ^ k) := by rw [Nat.pow_succ, ← Nat.mul_assoc, Nat.mul_comm]
  rw [q4_shift, h.q, e];generalize E * 2 ^ k = m;omega
theorem mulF_fit (p x : W5) : (mulF p x).fit := (carF_small _).fit
theorem PowI.even (h : PowI E X k p a b c d) (hE : E < 2 ^ 256) (hk : k < 256) (hb : ¬ (Ap d 63).toNat = 1) : PowI E X (k + 1) (mulF p p) (Ay a 1) (Ay b 1 ||| Ap a 63) (Ay c 1 ||| Ap b 63) (Ay d 1 ||| Ap c 63) := by
  have h1 := h.bit hk;have h2 : E / 2 ^ (256 - (k + 1)) ≤ E := Nat.div_le_self _ _;refine ⟨hk, mulF_fit _ _, ?_, h.q'⟩;rw [next_div E k hk] at h2 ⊢;rw [show E / 2 ^ (255 - k) % 2 = 0 by omega] at h2 ⊢;rw [mulF_fe h.fit h.fit, h.val, Nat.add_zero, fpow_two oM]
theorem PowI.odd (h : PowI E X k p a b c d) (hE : E < 2 ^ 256) (hk : k < 256) (hx : x.fit) (hX : fe x.v = X) (hb : (Ap d 63).toNat = 1) : PowI E X (k + 1) (mulF (mulF p p) x) (Ay a 1) (Ay b 1 ||| Ap a 63) (Ay c 1 ||| Ap b 63) (Ay d 1 ||| Ap c 63) := by
  have h1 := h.bit hk;have h2 : E / 2 ^ (256 - (k + 1)) ≤ E := Nat.div_le_self _ _;refine ⟨hk, mulF_fit _ _, ?_, h.q'⟩;rw [next_div E k hk] at h2 ⊢;rw [show E / 2 ^ (255 - k) % 2 = 1 by omega] at h2 ⊢;rw [mulF_fe (mulF_fit _ _) hx, mulF_fe h.fit h.fit, h.val, hX, fpow_succ oM, fpow_two oM]
theorem PowI.last (h : PowI E X 256 p a b c d) : fe p.v = Ch X E := by have := h.val; rwa [Nat.sub_self, Nat.pow_zero, Nat.div_one] at this
end
def onesB (f l : UInt8) : List UInt8 := ((List.replicate 32 255).set 0 f).set 31 l
theorem onesB_length (f l : UInt8) : (onesB f l).length = 32 := by simp [onesB]
theorem ones_step {k : Nat} (h : k < 32) : (List.replicate k (255 : UInt8) ++ List.replicate (32 - k) 0).set k 255 = List.replicate (k + 1) 255 ++ List.replicate (32 - (k + 1)) 0 := by
  rw [show 32 - k = (32 - (k + 1)) + 1 by omega, List.replicate_succ, List.set_append_right _ _ sP];simp [List.replicate_succ']
theorem ones_inv : Hw.le (onesB 235 127) = PF - 2 := by kernel_rfl
theorem ones_root : Hw.le (onesB 254 15) = (PF + 3) / 8 := by kernel_rfl
theorem ones_unit : Hw.le (onesB 251 31) = (PF - 1) / 4 := by kernel_rfl
def fRoot1 (X : Fp) : Fp := if Ch X ((PF + 3) / 8) * Ch X ((PF + 3) / 8) = X then Ch X ((PF + 3) / 8) else Ch X ((PF + 3) / 8) * Ch (fe 2) ((PF - 1) / 4)
def fRoot (X : Fp) : Fp × Bool := if fRoot1 X * fRoot1 X = X then ((if (fRoot1 X).val % 2 = 1 then -fRoot1 X else fRoot1 X), true) else (0, false)
theorem fb_zero : fb 0 = List.replicate 32 0 := by kernel_rfl
theorem fb_head (x : Fp) : (fb x).getD 0 0 = UInt8.ofNat x.val := rfl
theorem odd_byte (x : Fp) : decide ((((fb x).getD 0 0 &&& 1).toNat : Int) = 1) = decide (x.val % 2 = 1) := by
  have e : ((fb x).getD 0 0 &&& 1).toNat = x.val % 2 := by
    rw [fb_head, UInt8.toNat_and, show (1 : UInt8).toNat = 2 ^ 1 - 1 from rfl, Nat.and_two_pow_sub_one_eq_mod, UInt8.toNat_ofNat'];omega
  rw [e];congr 1;exact propext ⟨fun h => by omega, fun h => by omega⟩
theorem fb_dec (x y : Fp) : decide (fb x = fb y) = decide (x = y) := by
  rw [Bool.eq_iff_iff]; simp [fb_inj]
end Ed
end

section
namespace Ed
open Hw Go

theorem fb32 (x : Fp) : (fb x).length = 32 := Am x
def pb (P : Pt Fp) : List UInt8 := if P.x.val % 2 = 1 then (fb P.y).set 31 ((fb P.y).getD 31 0 ||| 128) else fb P.y
theorem Ca (P : Pt Fp) : (pb P).length = 32 := by
  unfold pb;split
  · rw [List.length_set, Am]
  · exact Am _
def topB (b : List UInt8) : Bool := !decide (((b.getD 31 0 &&& 128).toNat : Int) = 0)
def lowB (b : List UInt8) : List UInt8 := b.set 31 (b.getD 31 0 &&& 127)
theorem lowB_length {b : List UInt8} (h : b.length = 32) : (lowB b).length = 32 := by rw [lowB, List.length_set, h]
def xOf (Y : Fp) : Fp × Bool := fRoot ((Y * Y - 1) * finv (fD * (Y * Y) + 1))
def rdP (b : List UInt8) : Option (Pt Fp) :=
  if fb (fe (le (lowB b))) = lowB b then
    (if (xOf (fe (le (lowB b)))).2 = true ∧ ¬ (topB b = true ∧ (xOf (fe (le (lowB b)))).1 = 0) then
      some ⟨if topB b = true then - (xOf (fe (le (lowB b)))).1 else (xOf (fe (le (lowB b)))).1, fe (le (lowB b))⟩
    else none)
  else none
theorem fRoot_sq {X : Fp} (h : (fRoot X).2 = true) : (fRoot X).1 * (fRoot X).1 = X := by
  unfold fRoot at h ⊢;by_cases h1 : fRoot1 X * fRoot1 X = X
  · rw [if_pos h1]
    simp only;split
    · rw [sq_neg, h1]
    · exact h1
  · rw [if_neg h1] at h; cases h
theorem xOf_on {Y : Fp} (h : (xOf Y).2 = true) : cv.on ⟨(xOf Y).1, Y⟩ :=
  cv.on_read (finv_mul (cv.below_ne Y)) (fRoot_sq h)
theorem neg_mk (x y : Fp) : neg ⟨x, y⟩ = ⟨-x, y⟩ := rfl
theorem rdP_on {b : List UInt8} {P : Pt Fp} (h : rdP b = some P) : cv.on P := by
  unfold rdP at h;split at h
  · split at h
    · rename_i h1 h2
      simp only [Option.some.injEq] at h;subst h;have := xOf_on h2.1;split
      · have h3 := cv.on_neg this
        rw [neg_mk] at h3;exact h3
      · exact this
    · cases h
  · cases h
def pchk (x y : List UInt8) : Int := if fb (fe (le x)) = x ∧ fb (fe (le y)) = y ∧ fe (le y) * fe (le y) - fe (le x) * fe (le x) = 1 + fD * (fe (le x) * fe (le x) * (fe (le y) * fe (le y))) then 0 else 2
theorem pchk_on {P : Pt Fp} (h : cv.on P) : pchk (fb P.x) (fb P.y) = 0 := by
  have h1 := (cv.on_iff P).1 h;unfold pchk;rw [fe_fb, fe_fb];exact if_pos (And.intro (Eq.refl (fb P.x)) (And.intro (Eq.refl (fb P.y)) h1))
def bX : List UInt8 := [26, 213, 37, 143, 96, 45, 86, 201, 178, 167, 37, 149, 96, 199, 44, 105, 92, 220, 214, 253, 49, 226, 164, 192, 254, 83, 110, 205, 211, 54, 105, 33]
def bY : List UInt8 := (List.replicate 32 102).set 0 88
def bP : Pt Fp := ⟨fe (le bX), fe (le bY)⟩
theorem bP_x : fb bP.x = bX := by kernel_rfl
theorem bP_y : fb bP.y = bY := by kernel_rfl
theorem bP_on : cv.on bP := by
  show bP.y * bP.y - bP.x * bP.x = 1 + fD * bP.x * bP.x * bP.y * bP.y;kernel_rfl
theorem lin_step (a b j : Nat) (hj : j < 256) {P Q : Pt Fp} (hP : cv.on P) (hQ : cv.on Q) : cv.lin (a / 2 ^ (256 - (j + 1))) (b / 2 ^ (256 - (j + 1))) P Q =
    (if a.testBit (255 - j) then (if b.testBit (255 - j) then cv.add (cv.add (cv.lin (a / 2 ^ (256 - j)) (b / 2 ^ (256 - j)) P Q) (cv.lin (a / 2 ^ (256 - j)) (b / 2 ^ (256 - j)) P Q)) (cv.add P Q) else cv.add (cv.add (cv.lin (a / 2 ^ (256 - j)) (b / 2 ^ (256 - j)) P Q) (cv.lin (a / 2 ^ (256 - j)) (b / 2 ^ (256 - j)) P Q)) P)
     else (if b.testBit (255 - j) then cv.add (cv.add (cv.lin (a / 2 ^ (256 - j)) (b / 2 ^ (256 - j)) P Q) (cv.lin (a / 2 ^ (256 - j)) (b / 2 ^ (256 - j)) P Q)) Q else cv.add (cv.lin (a / 2 ^ (256 - j)) (b / 2 ^ (256 - j)) P Q) (cv.lin (a / 2 ^ (256 - j)) (b / 2 ^ (256 - j)) P Q))) := by
  have ha := next_div a j hj;have hb := next_div b j hj;rw [ha, hb];have e : ∀ n : Nat, n.testBit (255 - j) = decide (n / 2 ^ (255 - j) % 2 = 1) := fun n => Nat.testBit_eq_decide_div_mod_eq;rw [e a, e b];rw [← cv.lin_two hP hQ];generalize a / 2 ^ (256 - j) = A;generalize b / 2 ^ (256 - j) = B;have h1 : a / 2 ^ (255 - j) % 2 = 0 ∨ a / 2 ^ (255 - j) % 2 = 1 := by omega
  have h2 : b / 2 ^ (255 - j) % 2 = 0 ∨ b / 2 ^ (255 - j) % 2 = 1 := by omega
  rcases h1 with h1 | h1 <;> rcases h2 with h2 | h2 <;> rw [h1, h2]
  · rfl
  · exact cv.lin_right hP hQ _ _
  · exact cv.lin_left hP hQ _ _
  · exact cv.lin_both hP hQ _ _
theorem lin_tt {a b j : Nat} (hj : j < 256) {P Q : Pt Fp} (hP : cv.on P) (hQ : cv.on Q) (h1 : a.testBit (255 - j) = true) (h2 : b.testBit (255 - j) = true) : cv.lin (a / 2 ^ (256 - (j + 1))) (b / 2 ^ (256 - (j + 1))) P Q = cv.add (cv.add (cv.lin (a / 2 ^ (256 - j)) (b / 2 ^ (256 - j)) P Q) (cv.lin (a / 2 ^ (256 - j)) (b / 2 ^ (256 - j)) P Q)) (cv.add P Q) := by
  rw [lin_step a b j hj hP hQ, h1, h2]; rfl
theorem lin_tf {a b j : Nat} (hj : j < 256) {P Q : Pt Fp} (hP : cv.on P) (hQ : cv.on Q) (h1 : a.testBit (255 - j) = true) (h2 : b.testBit (255 - j) = false) : cv.lin (a / 2 ^ (256 - (j + 1))) (b / 2 ^ (256 - (j + 1))) P Q = cv.add (cv.add (cv.lin (a / 2 ^ (256 - j)) (b / 2 ^ (256 - j)) P Q) (cv.lin (a / 2 ^ (256 - j)) (b / 2 ^ (256 - j)) P Q)) P := by
  rw [lin_step a b j hj hP hQ, h1, h2]; rfl
theorem lin_ft {a b j : Nat} (hj : j < 256) {P Q : Pt Fp} (hP : cv.on P) (hQ : cv.on Q) (h1 : a.testBit (255 - j) = false) (h2 : b.testBit (255 - j) = true) : cv.lin (a / 2 ^ (256 - (j + 1))) (b / 2 ^ (256 - (j + 1))) P Q = cv.add (cv.add (cv.lin (a / 2 ^ (256 - j)) (b / 2 ^ (256 - j)) P Q) (cv.lin (a / 2 ^ (256 - j)) (b / 2 ^ (256 - j)) P Q)) Q := by
  rw [lin_step a b j hj hP hQ, h1, h2]; rfl
theorem lin_ff {a b j : Nat} (hj : j < 256) {P Q : Pt Fp} (hP : cv.on P) (hQ : cv.on Q) (h1 : a.testBit (255 - j) = false) (h2 : b.testBit (255 - j) = false) : cv.lin (a / 2 ^ (256 - (j + 1))) (b / 2 ^ (256 - (j + 1))) P Q = cv.add (cv.lin (a / 2 ^ (256 - j)) (b / 2 ^ (256 - j)) P Q) (cv.lin (a / 2 ^ (256 - j)) (b / 2 ^ (256 - j)) P Q) := by
  rw [lin_step a b j hj hP hQ, h1, h2]; rfl
theorem lin_first (a b : List UInt8) (ha : a.length = 32) (hb : b.length = 32) (P Q : Pt Fp) : (Wd.of (zero : Pt Fp)).rep (cv.lin (le a / 2 ^ (256 - 0)) (le b / 2 ^ (256 - 0)) P Q) := by
  have h1 := le32 ha;have h2 := le32 hb;rw [show 256 - 0 = 256 from rfl, Nat.div_eq_of_lt h1, Nat.div_eq_of_lt h2, cv.lin_zero];exact cv.rep_of zero
theorem lin_last (a b : Nat) (P Q : Pt Fp) : cv.lin (a / 2 ^ (256 - 256)) (b / 2 ^ (256 - 256)) P Q = cv.lin a b P Q := by rw [Nat.sub_self, Nat.pow_zero, Nat.div_one, Nat.div_one]
theorem lin_one (a : Nat) (P : Pt Fp) : cv.lin a 0 P zero = cv.mul a P := cv.add_zero _
end Ed
end

section
namespace Hw
open Go
set_option maxRecDepth 100000

theorem lt_sp {n a b c : Nat} (h : n < 2 ^ c) (hc : a + b = c) : n < 2 ^ a * 2 ^ b := by subst hc; rw [← Nat.pow_add]; exact h
theorem top_sp {n a b c : Nat} (h : n < 2 ^ c) (hc : a + b = c) : n / 2 ^ a % 2 ^ b = n / 2 ^ a := Nat.mod_eq_of_lt (Nat.div_lt_of_lt_mul (lt_sp h hc))
theorem le_2p {a c : Nat} (h : a ≤ c) : 2 ^ a ≤ 2 ^ c := Nat.pow_le_pow_right (by decide) h
theorem pos_2p (c : Nat) : 0 < 2 ^ c := Nat.pow_pos (by decide)
def words8 (n : Nat) : List UInt64 := [448, 384, 320, 256, 192, 128, 64, 0].map fun e => w64 (n / 2 ^ e)
theorem words8_length (n : Nat) : (words8 n).length = 8 := rfl
theorem words8_zero : words8 0 = List.replicate 8 0 := by
  simp only [words8, List.map_cons, List.map_nil, Nat.zero_div]; rfl
theorem wvo8 (a b c d e f g h : UInt64) : wv [a, b, c, d, e, f, g, h] = ((((((a.toNat * 2 ^ 64 + b.toNat) * 2 ^ 64 + c.toNat) * 2 ^ 64 + d.toNat) * 2 ^ 64 + e.toNat) * 2 ^ 64 + f.toNat) * 2 ^ 64 + g.toNat) * 2 ^ 64 + h.toNat := by
  simp [wv]
theorem horner (n k : Nat) : n / 2 ^ (k + 64) * 2 ^ 64 + n / 2 ^ k % 2 ^ 64 = n / 2 ^ k := by
  rw [Nat.pow_add, ← Nat.div_div_eq_div_mul, Nat.mul_comm];exact Nat.div_add_mod _ _
theorem horn2 {n k m : Nat} (h : k + 64 = m) : n / 2 ^ m * 2 ^ 64 + n / 2 ^ k % 2 ^ 64 = n / 2 ^ k := by subst h; exact horner n k
theorem wv_words8 {n : Nat} (h : n < 2 ^ 512) : wv (words8 n) = n := by
  simp only [words8, List.map_cons, List.map_nil]
  rw [wvo8]
  simp only [Bl]
  have h0 := top_sp (a := 448) (b := 64) h rfl
  rw [h0, horn2 (k := 384) (m := 448) rfl, horn2 (k := 320) (m := 384) rfl, horn2 (k := 256) (m := 320) rfl, horn2 (k := 192) (m := 256) rfl, horn2 (k := 128) (m := 192) rfl, horn2 (k := 64) (m := 128) rfl, horn2 (k := 0) (m := 64) rfl, Nat.pow_zero, Nat.div_one]
theorem words8_get (n : Nat) : ∀ j, j < 8 → (words8 n)[7 - j]? = some (w64 (n / 2 ^ (64 * j))) := fun j hj => by
  have e : ∀ j, j < 8 → ([448, 384, 320, 256, 192, 128, 64, 0] : List Nat)[7 - j]? = some (64 * j) := by decide
  rw [words8, List.getElem?_map, e j hj]; rfl
theorem pow256 (k : Nat) : 256 ^ k = 2 ^ (8 * k) := by rw [show (256 : Nat) = 2 ^ 8 by decide, ← Nat.pow_mul]
theorem words8_step (n k : Nat) (x : UInt8) (hn : n < 256 ^ k) (hk : k < 64) :
    words8 (n + 256 ^ k * x.toNat) = (words8 n).set (7 - k / 8) ((words8 n).getD (7 - k / 8) 0 ||| Ay x.toUInt64 (8 * (k % 8))) := by
  have hx := x.toNat_lt;apply List.ext_getElem?;intro i;rcases Nat.lt_or_ge i 8 with hi | hi
  · obtain ⟨j, hj, rfl⟩ : ∃ j, j < 8 ∧ i = 7 - j := ⟨7 - i, by omega, by omega⟩
    rw [words8_get _ j hj, List.getElem?_set, List.getD, words8_get _ (k / 8) oM, Option.getD_some];rw [pow256] at hn;rcases Nat.lt_trichotomy j (k / 8) with h | h | h
    · rw [if_neg oM, words8_get _ j hj, pow256]
      congr 1;apply UInt64.toNat_inj.1;rw [Bl, Bl];have e : 2 ^ (8 * k) * x.toNat = 2 ^ (64 * j) * (2 ^ 64 * (2 ^ (8 * k - 64 * j - 64) * x.toNat)) := by
        rw [← Nat.mul_assoc, ← Nat.mul_assoc, ← Nat.pow_add, ← Nat.pow_add];congr 2; omega
      rw [e, Nat.add_mul_div_left _ _ (Nat.pow_pos dE), Nat.add_mul_mod_self_left]
    · subst h
      rw [if_pos rfl, if_pos (by rw [words8_length]; omega), pow256];congr 1;apply UInt64.toNat_inj.1;rw [UInt64.toNat_or, Bt, Bl, Bl, UInt8.toNat_toUInt64];have e : 2 ^ (8 * k) * x.toNat = 2 ^ (64 * (k / 8)) * (2 ^ (8 * (k % 8)) * x.toNat) := by
        rw [← Nat.mul_assoc, ← Nat.pow_add];congr 2; omega
      have hl : n / 2 ^ (64 * (k / 8)) < 2 ^ (8 * (k % 8)) := by
        apply Nat.div_lt_of_lt_mul;rw [← Nat.pow_add];rw [show 64 * (k / 8) + 8 * (k % 8) = 8 * k by omega]; exact hn
      have hm : 8 * (k % 8) ≤ 56 := by omega
      have h8 : 2 ^ (8 * (k % 8)) ≤ 2 ^ 56 := Nat.pow_le_pow_right dE hm;have hb : x.toNat * 2 ^ (8 * (k % 8)) < 2 ^ 64 := by
        calc x.toNat * 2 ^ (8 * (k % 8)) ≤ x.toNat * 2 ^ 56 := Nat.mul_le_mul_left _ h8
          _ < 2 ^ 64 := by omega
      rw [e, Nat.add_mul_div_left _ _ (Nat.pow_pos dE), Nat.mod_eq_of_lt hb, Nat.mod_eq_of_lt (Nat.lt_of_lt_of_le hl (Nat.le_trans h8 dE))];rw [Nat.mul_comm x.toNat, Nat.or_comm, ← Nat.two_pow_add_eq_or_of_lt hl, Nat.add_comm, Nat.mod_eq_of_lt]
      calc 2 ^ (8 * (k % 8)) * x.toNat + n / 2 ^ (64 * (k / 8)) < 2 ^ (8 * (k % 8)) * (x.toNat + 1) := by rw [Nat.mul_add]; omega
        _ ≤ 2 ^ (8 * (k % 8)) * 2 ^ 8 := Nat.mul_le_mul_left _ hx
        _ = 2 ^ (8 * (k % 8) + 8) := by rw [Nat.pow_add]
        _ ≤ 2 ^ 64 := Nat.pow_le_pow_right dE oM
    · rw [if_neg oM, words8_get _ j hj, pow256]
      congr 1;have hp : 2 ^ (8 * (k + 1)) ≤ 2 ^ (64 * j) := Nat.pow_le_pow_right dE oM;have h1 : n + 2 ^ (8 * k) * x.toNat < 2 ^ (8 * (k + 1)) := by
        rw [show 8 * (k + 1) = 8 * k + 8 by omega, Nat.pow_add]
        calc n + 2 ^ (8 * k) * x.toNat < 2 ^ (8 * k) * (x.toNat + 1) := by rw [Nat.mul_add]; omega
          _ ≤ 2 ^ (8 * k) * 2 ^ 8 := Nat.mul_le_mul_left _ hx
      rw [Nat.div_eq_of_lt (Nat.lt_of_lt_of_le h1 hp), Nat.div_eq_of_lt (Nat.lt_of_lt_of_le (Nat.lt_of_le_of_lt (Nat.le_add_right _ _) h1) hp)]
  · rw [List.getElem?_eq_none (by rw [words8_length]; exact hi), List.getElem?_eq_none (by rw [List.length_set, words8_length]; exact hi)]

theorem le_take_succ (l : List UInt8) (k : Nat) (h : k < l.length) : le (l.take (k + 1)) = le (l.take k) + 256 ^ k * (l.getD k 0).toNat := by
  rw [List.take_succ_eq_append_getElem h, le_append, List.length_take, Nat.min_eq_left oM];simp [le, List.getD, h]
theorem le_take_lt (l : List UInt8) (k : Nat) : le (l.take k) < 256 ^ k := by
  refine Nat.lt_of_lt_of_le (le_lt _) (Nat.pow_le_pow_right dE ?_);rw [List.length_take]; omega
theorem take_512 (l : List UInt8) (k : Nat) (h : k ≤ 64) : le (l.take k) < 2 ^ 512 := by
  refine Nat.lt_of_lt_of_le (le_take_lt l k) ?_;rw [pow256]; exact le_2p (c := 512) (by omega)
theorem L_pos : 0 < L := by decide
theorem L_lt : L < 2 ^ 256 := by decide
theorem le_leb32 {n : Nat} (h : n < 2 ^ 256) : le (leb 32 n) = n := by
  rw [le_leb]; exact Nat.mod_eq_of_lt h
theorem lm (n : Nat) : n % L < 2 ^ 256 := Nat.lt_trans (Nat.mod_lt _ L_pos) L_lt
theorem le_byte (l : List UInt8) (k : Nat) : (l.getD k 0).toNat = le l / 256 ^ k % 256 := by
  rcases Nat.lt_or_ge k l.length with h | h
  · rw [le_drop l k (Nat.le_of_lt h)]
    have : l.drop k = l.getD k 0 :: l.drop (k + 1) := by
      rw [List.getD_eq_getElem?_getD, List.getElem?_eq_getElem h];exact List.drop_eq_getElem_cons h
    rw [this, le];have := (l.getD k 0).toNat_lt;omega
  · rw [List.getD_eq_getElem?_getD, List.getElem?_eq_none h, Nat.div_eq_of_lt (Nat.lt_of_lt_of_le (le_lt l) (Nat.pow_le_pow_right dE h))]
    rfl
theorem le_bit (l : List UInt8) (k : Nat) : (l.getD (k / 8) 0).toNat / 2 ^ (k % 8) % 2 = le l / 2 ^ k % 2 := by
  rw [le_byte, pow256, show (256 : Nat) = 2 ^ (k % 8) * 2 ^ (8 - k % 8) by rw [← Nat.pow_add, show k % 8 + (8 - k % 8) = 8 by omega], Nat.mod_mul_right_div_self, Nat.div_div_eq_div_mul, ← Nat.pow_add, show 8 * (k / 8) + k % 8 = k by omega];exact Nat.mod_mod_of_dvd _ ⟨2 ^ (8 - k % 8 - 1), by rw [← Nat.pow_succ']; congr 1; omega⟩
theorem bit_and (l : List UInt8) (k : Nat) : (decide (((shr8 (l.getD (k / 8) 0) (k % 8) &&& 1).toNat : Int) = 1)) = (le l).testBit k := by
  rw [UInt8.toNat_and, shr8_toNat, show (1 : UInt8).toNat = 2 ^ 1 - 1 by decide, Nat.and_two_pow_sub_one_eq_mod, Nat.pow_one, le_bit, Nat.testBit_eq_decide_div_mod_eq];congr 1;apply propext; omega
theorem bit_rem (l : List UInt8) (k : Nat) : (decide (((UInt8.ofNat ((shr8 (l.getD (k / 8) 0) (k % 8)).toNat % 2)).toNat : Int) = 1)) = (le l).testBit k := by
  rw [shr8_toNat, le_bit, UInt8.toNat_ofNat', Nat.testBit_eq_decide_div_mod_eq];congr 1;apply propext; omega
end Hw
end
