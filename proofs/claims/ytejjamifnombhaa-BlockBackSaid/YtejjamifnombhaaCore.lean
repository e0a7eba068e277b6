/- A small Hoare logic over the model, for any program: abstract states (known slots, own blocks), reasoning in one fixed order that is sound for every drawn order. It proves no statement by itself; it has no conditions. -/
import Derived.WalkKit
import Derived.Orders
import Derived.Deep.LoopGhost
namespace Hw
open Go Go.RowKit
set_option linter.unusedSimpArgs false
set_option linter.unusedVariables false

/-- a block of cells that the call owns: its number, its first cells, its type, how many cells it has in all -/
structure Blk where
  n : Nat
  cs : List Value
  T : TypeId
  m : Nat

/-- a block that is known whole -/
abbrev blk (n : Nat) (cs : List Value) (T : TypeId) : Blk := ⟨n, cs, T, cs.length⟩

/-- what is known: slots and own blocks -/
structure St where
  sl : List (Nat × Value)
  hp : List Blk

/-- what stays the same during one call -/
structure Cx where
  P : Program
  W0 : World
  N : Nat
  lent : List Nat
  /-- blocks that nothing writes while a region runs -/
  kb : List Blk := []
  /-- calls that are deferred -/
  ds : List Deferred := []

def look : List (Nat × Value) → Nat → Option Value
  | [], _ => none
  | (u, v) :: l, t => bif Nat.beq u t then some v else look l t

theorem look_cons_eq (d : Nat) (v : Value) (l : List (Nat × Value)) : look ((d, v) :: l) d = some v := by
  simp [look]

theorem look_cons_ne {d t : Nat} (v : Value) (l : List (Nat × Value)) (h : d ≠ t) : look ((d, v) :: l) t = look l t := by
  have : Nat.beq d t = false := by
    cases hb : Nat.beq d t
    · rfl
    · exact absurd (Nat.eq_of_beq_eq_true hb) h
  simp [look, this]

theorem look_mem {l : List (Nat × Value)} {t : Nat} {v : Value} (h : look l t = some v) : (t, v) ∈ l := by
  induction l with
  | nil => simp [look] at h
  | cons p l ih =>
    obtain ⟨u, x⟩ := p
    by_cases hu : u = t
    · subst hu
      rw [look_cons_eq] at h
      cases h
      exact List.mem_cons_self
    · rw [look_cons_ne _ _ hu] at h
      exact List.mem_cons_of_mem _ (ih h)

def evIn (sl : List (Nat × Value)) : Operand → Option Value
  | .tmp t => look sl t
  | .const v => some v
  | .global g => some (.pointer (some ⟨g, 0, none⟩))
  | .func f => some (.func (.func f) #[] #[])

abbrev St.ev (s : St) (x : Operand) : Option Value := evIn s.sl x

def putIn (sl : List (Nat × Value)) : Option Tmp → Value → List (Nat × Value)
  | some d, v => (d, v) :: sl
  | none, _ => sl

abbrev St.put (s : St) (d : Option Tmp) (v : Value) : St := ⟨putIn s.sl d v, s.hp⟩

def St.add (s : St) (b : Blk) : St := ⟨s.sl, b :: s.hp⟩

/-- below the old heap's end the blocks that are not listed are as they were -/
structure Keeps (ex : List Nat) (w w' : World) : Prop where
  os : w'.os = w.os
  tape : w'.tape = w.tape
  output : w'.output = w.output
  size : w.heap.size ≤ w'.heap.size
  block : ∀ k, k < w.heap.size → k ∉ ex → w'.heap[k]? = w.heap[k]?

theorem Keeps.refl (ex : List Nat) (w : World) : Keeps ex w w := ⟨rfl, rfl, rfl, Nat.le_refl _, fun _ _ _ => rfl⟩

theorem Keeps.trans {ex : List Nat} {a b c : World} (h : Keeps ex a b) (k : Keeps ex b c) : Keeps ex a c :=
  ⟨k.os.trans h.os, k.tape.trans h.tape, k.output.trans h.output, Nat.le_trans h.size k.size,
    fun i hi hn => (k.block i (Nat.lt_of_lt_of_le hi h.size) hn).trans (h.block i hi hn)⟩

theorem Keeps.mono {ex ex' : List Nat} {a b : World} (h : Keeps ex a b) (hs : ∀ x ∈ ex, x ∈ ex') : Keeps ex' a b :=
  ⟨h.os, h.tape, h.output, h.size, fun i hi hn => h.block i hi fun hx => hn (hs _ hx)⟩

theorem Keeps.below {w w' : World} (h : Keeps [] w w') : Below w.heap.size w w' :=
  ⟨h.os, h.tape, h.output, h.size, fun k hk => h.block k hk (by simp)⟩

theorem Keeps.of_below {w w' : World} (h : Below w.heap.size w w') : Keeps [] w w' :=
  ⟨h.os, h.tape, h.output, h.size, fun k hk _ => h.block k hk⟩

theorem Keeps.drew {ex : List Nat} {a w : World} (h : Keeps ex a w) (n : Nat) : Keeps ex a { w with drawn := n } :=
  ⟨h.os, h.tape, h.output, h.size, h.block⟩

/-- no cell of the first n is frozen -/
structure Free (fr : Nat × Nat) (n : Nat) : Prop where
  le : fr.1 ≤ fr.2
  at' : ∀ i, i < n → (decide (fr.1 ≤ i) && decide (i < fr.2)) = false
theorem free0 {n : Nat} : Free (0, 0) n := ⟨Nat.le_refl _, fun i _ => by simp⟩

structure BlkAt (w : World) (b : Blk) (full : Array Value) (fr : Nat × Nat) : Prop where
  heap : w.heap[b.n]? = some (.cells full b.T fr)
  size : full.size = b.m
  pre : b.cs <+: full.toList
  free : Free fr b.m

def BlkOk (w : World) (b : Blk) : Prop := ∃ full fr, BlkAt w b full fr

theorem BlkOk.of_heap {w w' : World} {b : Blk} (h : BlkOk w b) (e : w'.heap[b.n]? = w.heap[b.n]?) : BlkOk w' b := by
  obtain ⟨full, fr, h⟩ := h
  exact ⟨full, fr, e.trans h.heap, h.size, h.pre, h.free⟩

theorem BlkOk.lt {w : World} {b : Blk} (h : BlkOk w b) : b.n < w.heap.size := by
  obtain ⟨full, fr, h⟩ := h
  rcases Nat.lt_or_ge b.n w.heap.size with h1 | h1
  · exact h1
  · have := h.heap; rw [Array.getElem?_eq_none h1] at this; cases this

/-- what a call leaves: the blocks 'out' as told (the call's own new ones, or lent ones), all else as it was -/
structure Ret (lent : List Nat) (out : List Blk) (W W' : World) : Prop where
  keeps : Keeps lent W W'
  cells : ∀ b ∈ out, BlkOk W' b
  nodup : (out.map (·.n)).Nodup
  own : ∀ b ∈ out, W.heap.size ≤ b.n ∨ b.n ∈ lent

structure HRep (C : Cx) (hp : List Blk) (w : World) : Prop where
  cells : ∀ b ∈ hp, BlkOk w b
  nodup : (hp.map (·.n)).Nodup
  own : ∀ b ∈ hp, C.W0.heap.size ≤ b.n ∨ b.n ∈ C.lent
  keeps : Keeps C.lent C.W0 w
  kok : ∀ b ∈ C.kb, BlkOk w b
  kd : ∀ b ∈ hp, ∀ k ∈ C.kb, b.n ≠ k.n

structure SRep (ds : List Deferred) (N : Nat) (sl : List (Nat × Value)) (a : Act) : Prop where
  size : a.tmps.size = N
  defers : a.defers = ds
  slots : ∀ t v, look sl t = some v → a.tmps[t]? = some v

structure Rep (C : Cx) (s : St) (a : Act) (w : World) : Prop where
  rs : SRep C.ds C.N s.sl a
  rh : HRep C s.hp w

theorem HRep.perm {C : Cx} {hp hp' : List Blk} {w : World} (h : HRep C hp w) (p : hp.Perm hp') : HRep C hp' w :=
  ⟨fun b hb => h.cells b (p.mem_iff.2 hb), (p.map _).nodup_iff.1 h.nodup, fun b hb => h.own b (p.mem_iff.2 hb), h.keeps, h.kok, fun b hb => h.kd b (p.mem_iff.2 hb)⟩

theorem HRep.drew {C : Cx} {hp : List Blk} {w : World} (h : HRep C hp w) (n : Nat) : HRep C hp { w with drawn := n } :=
  ⟨fun b hb => (h.cells b hb).of_heap rfl, h.nodup, h.own, h.keeps.drew n, fun b hb => (h.kok b hb).of_heap rfl, h.kd⟩

theorem HRep.sub {C : Cx} {hp hp' : List Blk} {w : World} (h : HRep C hp w) (hs : ∀ b ∈ hp', b ∈ hp) (hn : (hp'.map (·.n)).Nodup) : HRep C hp' w :=
  ⟨fun b hb => h.cells b (hs b hb), hn, fun b hb => h.own b (hs b hb), h.keeps, h.kok, fun b hb => h.kd b (hs b hb)⟩

theorem SRep.eval {ds : List Deferred} {N : Nat} {sl : List (Nat × Value)} {a : Act} (h : SRep ds N sl a) {x : Operand} {v : Value} (hx : evIn sl x = some v) : a.eval x = v := by
  cases x with
  | tmp t =>
    have := h.slots t v hx
    simp [Act.eval, this]
  | const c => simpa [evIn, Act.eval] using hx
  | global g => simpa [evIn, Act.eval] using hx
  | func f => simpa [evIn, Act.eval] using hx

theorem SRep.put {ds : List Deferred} {N : Nat} {sl : List (Nat × Value)} {a : Act} (h : SRep ds N sl a) (d : Option Tmp) (v : Value) (hd : ∀ t, d = some t → t < N) : SRep ds N (putIn sl d v) (a.put d v) := by
  cases d with
  | none => exact h
  | some d =>
    have hd := hd d rfl
    refine ⟨by simp [Act.put, h.size], h.defers, fun t u ht => ?_⟩
    simp only [Act.put]
    by_cases hdt : d = t
    · subst hdt
      rw [putIn, look_cons_eq] at ht
      cases ht
      rw [Array.getElem?_setIfInBounds_self, if_pos (by rw [h.size]; exact hd)]
    · rw [putIn, look_cons_ne _ _ hdt] at ht
      rw [Array.getElem?_setIfInBounds_ne hdt]
      exact h.slots t u ht

theorem HRep.grown {C : Cx} {hp out : List Blk} {w w' : World} (hh : HRep C hp w) (hret : Ret [] out w w') : HRep C (out ++ hp) w' := by
  have hkeep : Keeps C.lent C.W0 w' := hh.keeps.trans (hret.keeps.mono (by simp))
  refine ⟨fun x hx => ?_, ?_, fun x hx => ?_, hkeep, fun k hk => (hh.kok k hk).of_heap (hret.keeps.block k.n (hh.kok k hk).lt (by simp)), fun x hx k hk => ?_⟩
  · rcases List.mem_append.1 hx with hx | hx
    · exact hret.cells x hx
    · exact (hh.cells x hx).of_heap (hret.keeps.block x.n (hh.cells x hx).lt (by simp))
  · rw [List.map_append, List.nodup_append]
    refine ⟨hret.nodup, hh.nodup, fun i hi j hj => ?_⟩
    obtain ⟨x, hx, rfl⟩ := List.mem_map.1 hi
    obtain ⟨y, hy, rfl⟩ := List.mem_map.1 hj
    have h1 := hret.own x hx
    have h2 := (hh.cells y hy).lt
    simp at h1
    omega
  · rcases List.mem_append.1 hx with hx | hx
    · have h1 := hret.own x hx
      have h2 := hh.keeps.size
      simp at h1
      exact .inl (by omega)
    · exact hh.own x hx
  · rcases List.mem_append.1 hx with hx | hx
    · have h1 := hret.own x hx
      have h2 := (hh.kok k hk).lt
      simp at h1
      omega
    · exact hh.kd x hx k hk

/-- is the operation wanted (its guard)? -/
def wantS (ops : Array Oper) (sl : List (Nat × Value)) (o : Oper) : Option Bool :=
  match o.guard with
  | none => some true
  | some (j, want) =>
    match (ops[j]?).bind (·.dst) with
    | some d =>
      match look sl d with
      | some (.bool b) => some (b == want)
      | some (.tuple _) => some false
      | _ => none
    | none => none

theorem wantS_ok {ops : Array Oper} {ds : List Deferred} {N : Nat} {sl : List (Nat × Value)} {a : Act} {o : Oper} {b : Bool} (h : SRep ds N sl a) (hw : wantS ops sl o = some b) :
    Region.wanted o (yielded ops a.tmps) = b := by
  unfold wantS at hw
  unfold Region.wanted
  cases hg : o.guard with
  | none => simp only [hg] at hw; simpa using hw
  | some g =>
    obtain ⟨j, want⟩ := g
    simp only [hg] at hw ⊢
    unfold yielded
    cases hd : (ops[j]?).bind (·.dst) with
    | none => simp [hd] at hw
    | some d =>
      simp only [hd] at hw
      cases hl : look sl d with
      | none => simp [hl] at hw
      | some v =>
        simp only [hl] at hw
        cases v <;> simp at hw
        · rename_i c
          have := h.slots d _ hl
          simp only [Option.bind_some, this]
          subst hw
          cases c <;> cases want <;> rfl
        · have := h.slots d _ hl
          simp only [Option.bind_some, this]
          subst hw
          cases want <;> rfl

/-- all operands are known -/
def Known (sl : List (Nat × Value)) (o : Oper) : Prop := ∀ x ∈ o.op.operands, (evIn sl x).isSome

/-- a valuation of operands that fits -/
def Fits (sl : List (Nat × Value)) (o : Oper) (ρ : Operand → Value) : Prop := ∀ x ∈ o.op.operands, evIn sl x = some (ρ x)

theorem SRep.fits {ds : List Deferred} {N : Nat} {sl : List (Nat × Value)} {a : Act} {o : Oper} (h : SRep ds N sl a) (hk : Known sl o) : Fits sl o a.eval := by
  intro x hx
  have := hk x hx
  cases hv : evIn sl x with
  | none => simp [hv] at this
  | some v => rw [h.eval hv]

structure PureV (P : Program) (sl : List (Nat × Value)) (o : Oper) (v : Value) : Prop where
  known : Known sl o
  run : ∀ ρ, Fits sl o ρ → ∀ w, (execOp ρ o).run P w = .ok (.value v) w

structure LoadV (C : Cx) (s : St) (o : Oper) (v : Value) : Prop where
  known : Known s.sl o
  run : ∀ ρ, Fits s.sl o ρ → ∀ w, HRep C s.hp w → (execOp ρ o).run C.P w = .ok (.value v) w

/-- it reads what stays as it is -/
structure KLoadV (C : Cx) (sl : List (Nat × Value)) (o : Oper) (v : Value) : Prop where
  known : Known sl o
  run : ∀ ρ, Fits sl o ρ → ∀ w, (∀ b ∈ C.kb, BlkOk w b) → Keeps C.lent C.W0 w → (execOp ρ o).run C.P w = .ok (.value v) w

structure NewV (C : Cx) (s : St) (o : Oper) (cs : List Value) (T : TypeId) : Prop where
  known : Known s.sl o
  run : ∀ ρ, Fits s.sl o ρ → ∀ w, (execOp ρ o).run C.P w = .ok (.value (.pointer (some ⟨w.heap.size, 0, none⟩))) { w with heap := w.heap.push (.cells cs.toArray T) }

structure ActV {ρ : Type} (C : Cx) (s : St) (o : Oper) (R : ρ → Prop) (val : ρ → Value) (hp : ρ → List Blk) : Prop where
  known : Known s.sl o
  run : ∀ a w, Fits s.sl o a.eval → HRep C s.hp w → Oper.wp C.P o a w (fun a' w' => ∃ r, R r ∧ a' = a.put o.dst (val r) ∧ HRep C (hp r) w') (fun _ _ _ => False)

/-- it leaves new blocks, and all else as it was -/
structure GrowV {ρ : Type} (C : Cx) (s : St) (o : Oper) (R : ρ → Prop) (val : ρ → Value) (nw : ρ → List Blk) : Prop where
  known : Known s.sl o
  some : ∀ l : List Blk, (l.map (·.n)).Nodup → ∃ r, R r ∧ ((nw r ++ l).map (·.n)).Nodup
  run : ∀ a w, Fits s.sl o a.eval → HRep C s.hp w → Oper.wp C.P o a w (fun a' w' => ∃ r, R r ∧ a' = a.put o.dst (val r) ∧ Ret [] (nw r) w w') (fun _ _ _ => False)

def dstOk (N : Nat) (o : Oper) : Prop := ∀ t, o.dst = some t → t < N

/-- the operations of a region, with classes (0 pure, 1 reads, 2 new, 3 grows, 4 any), from a state, in the given order -/
inductive Tr (C : Cx) (ops : Array Oper) : List (Nat × Oper) → St → (St → Prop) → Prop
  | nil {s Q} (h : Q s) : Tr C ops [] s Q
  | dup {l s Q} (h : ¬ (s.hp.map (·.n)).Nodup) : Tr C ops l s Q
  | skip {c o rest s Q} (hc : c ≠ 2) (hw : wantS ops s.sl o = some false) (hd : dstOk C.N o) (k : Tr C ops rest (s.put o.dst undef) Q) : Tr C ops ((c, o) :: rest) s Q
  | pure {c o rest s Q} (v : Value) (hc : c ≠ 2) (hw : wantS ops s.sl o = some true) (hd : dstOk C.N o) (hv : PureV C.P s.sl o v) (k : Tr C ops rest (s.put o.dst v) Q) : Tr C ops ((c, o) :: rest) s Q
  | kload {c o rest s Q} (v : Value) (hc : c ≠ 2) (hw : wantS ops s.sl o = some true) (hd : dstOk C.N o) (hv : KLoadV C s.sl o v) (k : Tr C ops rest (s.put o.dst v) Q) : Tr C ops ((c, o) :: rest) s Q
  | load {c o rest s Q} (v : Value) (hc : c ≠ 2) (hc0 : c ≠ 0) (hw : wantS ops s.sl o = some true) (hd : dstOk C.N o) (hv : LoadV C s o v) (k : Tr C ops rest (s.put o.dst v) Q) : Tr C ops ((c, o) :: rest) s Q
  | new {c o rest s Q} (cs : List Value) (T : TypeId) (hc : c = 2 ∨ c = 4) (hw : o.guard = none) (hd : dstOk C.N o) (hv : NewV C s o cs T)
      (k : ∀ n, C.W0.heap.size ≤ n → (∀ b ∈ s.hp, b.n ≠ n) → Tr C ops rest ((s.put o.dst (.pointer (some ⟨n, 0, none⟩))).add (blk n cs T)) Q) : Tr C ops ((c, o) :: rest) s Q
  | grow {ρ : Type} {c o rest s Q} (R : ρ → Prop) (val : ρ → Value) (nw : ρ → List Blk) (hc : c = 3 ∨ c = 4) (hw : wantS ops s.sl o = some true) (hd : dstOk C.N o) (hv : GrowV C s o R val nw)
      (k : ∀ r, R r → Tr C ops rest ⟨putIn s.sl o.dst (val r), nw r ++ s.hp⟩ Q) : Tr C ops ((c, o) :: rest) s Q
  | act {ρ : Type} {c o rest s Q} (R : ρ → Prop) (val : ρ → Value) (hp : ρ → List Blk) (hc : c = 4) (hw : wantS ops s.sl o = some true) (hd : dstOk C.N o) (hv : ActV C s o R val hp)
      (k : ∀ r, R r → Tr C ops rest ⟨putIn s.sl o.dst (val r), hp r⟩ Q) : Tr C ops ((c, o) :: rest) s Q

/-! ### one step -/

theorem HRep.push {C : Cx} {hp : List Blk} {w : World} (h : HRep C hp w) (cs : List Value) (T : TypeId) :
    HRep C (blk w.heap.size cs T :: hp) { w with heap := w.heap.push (.cells cs.toArray T) } := by
  have hlt : ∀ b ∈ hp, b.n < w.heap.size := fun b hb => (h.cells b hb).lt
  refine ⟨fun b hb => ?_, ?_, fun b hb => ?_, ?_, fun k hk => ?_, fun b hb k hk => ?_⟩
  · rcases List.mem_cons.1 hb with rfl | hb
    · exact ⟨cs.toArray, (0, 0), by simp, by simp, by simp, free0⟩
    · have := hlt b hb
      refine (h.cells b hb).of_heap ?_
      simp only [Array.getElem?_push]
      rw [if_neg (by omega)]
  · simp only [List.map_cons, List.nodup_cons]
    refine ⟨fun hm => ?_, h.nodup⟩
    obtain ⟨b, hb, he⟩ := List.mem_map.1 hm
    have := hlt b hb
    omega
  · rcases List.mem_cons.1 hb with rfl | hb
    · exact .inl h.keeps.size
    · exact h.own b hb
  · refine ⟨h.keeps.os, h.keeps.tape, h.keeps.output, by simp; exact Nat.le_succ_of_le h.keeps.size, fun k hk hn => ?_⟩
    have := h.keeps.size
    simp only [Array.getElem?_push]
    rw [if_neg (by omega)]
    exact h.keeps.block k hk hn
  · have := (h.kok k hk).lt
    refine (h.kok k hk).of_heap ?_
    simp only [Array.getElem?_push]
    rw [if_neg (by omega)]
  · rcases List.mem_cons.1 hb with rfl | hb
    · have := (h.kok k hk).lt
      simp only [blk]
      omega
    · exact h.kd b hb k hk

theorem Tr.step {C : Cx} {ops : Array Oper} {c : Nat} {o : Oper} {rest : List (Nat × Oper)} {s : St} {Q : St → Prop} {i : Nat} (hi : ops[i]? = some o)
    (h : Tr C ops ((c, o) :: rest) s Q) (a : Act) (w : World) (r : Rep C s a w) (K : Act → World → Prop) (hK : ∀ s' a' w', Rep C s' a' w' → Tr C ops rest s' Q → K a' w')
    (X : Exit → Act → World → Prop) : wpOp C.P ops X i K a w := by
  have act : ∀ {ρ : Type} (R : ρ → Prop) (val : ρ → Value) (hp : ρ → List Blk), wantS ops s.sl o = some true → dstOk C.N o → ActV C s o R val hp →
      (∀ r, R r → Tr C ops rest ⟨putIn s.sl o.dst (val r), hp r⟩ Q) → wpOp C.P ops X i K a w := by
    intro ρ R val hp hw hd hv k
    unfold wpOp
    simp only [hi, wantS_ok r.rs hw, if_true]
    refine .inl ?_
    have := hv.run a w (r.rs.fits hv.known) r.rh
    unfold Oper.wp at this ⊢
    generalize (execOp a.eval o).run C.P w = res at this ⊢
    have fin : ∀ a' w', (∃ r, R r ∧ a' = a.put o.dst (val r) ∧ HRep C (hp r) w') → K a' w' := by
      rintro a' w' ⟨q, hq, rfl, hh⟩
      exact hK _ _ _ ⟨r.rs.put _ _ hd, hh⟩ (k q hq)
    cases res with
    | ok n w1 =>
      cases n <;> simp only [Oper.upon] at this ⊢
      case value v => exact fin _ _ this
      case skip => exact fin _ _ this
      case defer d => exact fin _ _ this
      case enter f args =>
        refine this.mono fun e w2 he => ?_
        cases e with
        | returned v => exact fin _ _ he
        | panicked ch => exact he.elim
        | outgrown => exact he.elim (fun _ hx => hx.elim (fun _ hy => hy.elim))
      case row row args => exact this.mono fun v w2 he => fin _ _ he
    | halt x w1 => cases x <;> simp only [Oper.upon] at this
  cases h with
  | skip hc hw hd k =>
    unfold wpOp
    simp only [hi, wantS_ok r.rs hw, Bool.false_eq_true, if_false]
    exact hK (s.put o.dst _) _ _ ⟨r.rs.put _ _ hd, r.rh⟩ k
  | pure v hc hw hd hv k =>
    unfold wpOp
    simp only [hi, wantS_ok r.rs hw, if_true]
    refine .inl ?_
    unfold Oper.wp
    rw [hv.run a.eval (r.rs.fits hv.known) w]
    exact hK (s.put o.dst _) _ _ ⟨r.rs.put _ _ hd, r.rh⟩ k
  | kload v hc hw hd hv k =>
    unfold wpOp
    simp only [hi, wantS_ok r.rs hw, if_true]
    refine .inl ?_
    unfold Oper.wp
    rw [hv.run a.eval (r.rs.fits hv.known) w r.rh.kok r.rh.keeps]
    exact hK (s.put o.dst _) _ _ ⟨r.rs.put _ _ hd, r.rh⟩ k
  | load v hc hc0 hw hd hv k =>
    unfold wpOp
    simp only [hi, wantS_ok r.rs hw, if_true]
    refine .inl ?_
    unfold Oper.wp
    rw [hv.run a.eval (r.rs.fits hv.known) w r.rh]
    exact hK (s.put o.dst _) _ _ ⟨r.rs.put _ _ hd, r.rh⟩ k
  | new cs T hc hw hd hv k =>
    unfold wpOp
    have hw : wantS ops s.sl o = some true := by simp [wantS, hw]
    simp only [hi, wantS_ok r.rs hw, if_true]
    refine .inl ?_
    unfold Oper.wp
    rw [hv.run a.eval (r.rs.fits hv.known) w]
    refine hK ((s.put o.dst (.pointer (some ⟨w.heap.size, 0, none⟩))).add (blk w.heap.size cs T)) _ _ ⟨r.rs.put _ _ hd, r.rh.push cs T⟩ (k _ r.rh.keeps.size fun b hb he => ?_)
    have := (r.rh.cells b hb).lt
    omega
  | dup h => exact absurd r.rh.nodup h
  | grow R val nw hc hw hd hv k =>
    exact act R val (fun r => nw r ++ s.hp) hw hd ⟨hv.known, fun a w hf hh => Oper.wp_mono (fun _ _ ⟨r, h1, h2, h3⟩ => ⟨r, h1, h2, hh.grown h3⟩) (hv.run a w hf hh)⟩ k
  | act R val hp hc hw hd hv k => exact act R val hp hw hd hv k


/-! ### states that say the same -/

structure St.Eqv (s s' : St) : Prop where
  sl : ∀ t, look s.sl t = look s'.sl t
  hp : s.hp.Perm s'.hp

theorem St.Eqv.refl (s : St) : s.Eqv s := ⟨fun _ => rfl, .refl _⟩
theorem St.Eqv.symm {s s' : St} (h : s.Eqv s') : s'.Eqv s := ⟨fun t => (h.sl t).symm, h.hp.symm⟩
theorem St.Eqv.trans {s s' s'' : St} (h : s.Eqv s') (k : s'.Eqv s'') : s.Eqv s'' := ⟨fun t => (h.sl t).trans (k.sl t), h.hp.trans k.hp⟩

theorem evIn_eqv {sl sl' : List (Nat × Value)} (h : ∀ t, look sl t = look sl' t) (x : Operand) : evIn sl x = evIn sl' x := by
  cases x <;> simp [evIn, h]

theorem look_put {sl sl' : List (Nat × Value)} (h : ∀ t, look sl t = look sl' t) (d : Option Tmp) (v : Value) (t : Nat) : look (putIn sl d v) t = look (putIn sl' d v) t := by
  cases d with
  | none => exact h t
  | some d =>
    by_cases hd : d = t
    · subst hd; simp [putIn, look_cons_eq]
    · simp [putIn, look_cons_ne _ _ hd, h]

theorem Rep.eqv {C : Cx} {s s' : St} {a : Act} {w : World} (r : Rep C s a w) (h : s.Eqv s') : Rep C s' a w :=
  ⟨⟨r.rs.size, r.rs.defers, fun t v ht => r.rs.slots t v (by rw [h.sl]; exact ht)⟩, r.rh.perm h.hp⟩

theorem wantS_eqv {ops : Array Oper} {sl sl' : List (Nat × Value)} (h : ∀ t, look sl t = look sl' t) (o : Oper) : wantS ops sl o = wantS ops sl' o := by
  unfold wantS
  cases o.guard with
  | none => rfl
  | some g => obtain ⟨j, want⟩ := g; simp only [h]

theorem Known.eqv {sl sl' : List (Nat × Value)} {o : Oper} (hk : Known sl o) (h : ∀ t, look sl t = look sl' t) : Known sl' o := fun x hx => by rw [← evIn_eqv h]; exact hk x hx
theorem Fits.eqv {sl sl' : List (Nat × Value)} {o : Oper} {ρ : Operand → Value} (hk : Fits sl o ρ) (h : ∀ t, look sl t = look sl' t) : Fits sl' o ρ := fun x hx => by rw [← evIn_eqv h]; exact hk x hx

def clQ (Q : St → Prop) (s : St) : Prop := ∃ s0, St.Eqv s0 s ∧ Q s0

theorem clQ_cl {Q : St → Prop} {s : St} (h : clQ (clQ Q) s) : clQ Q s := by
  obtain ⟨s0, h0, s1, h1, q⟩ := h
  exact ⟨s1, h1.trans h0, q⟩

theorem Tr.eqv {C : Cx} {ops : Array Oper} {l : List (Nat × Oper)} {s : St} {Q : St → Prop} (h : Tr C ops l s Q) : ∀ s', s.Eqv s' → Tr C ops l s' (clQ Q) := by
  induction h with
  | nil h => exact fun s' e => .nil ⟨_, e, h⟩
  | dup h => exact fun s' e => .dup fun hn => h ((e.hp.map _).nodup_iff.2 hn)
  | skip hc hw hd k ih => exact fun s' e => .skip hc (by rw [← wantS_eqv e.sl]; exact hw) hd (ih _ ⟨look_put e.sl _ _, e.hp⟩)
  | pure v hc hw hd hv k ih =>
    exact fun s' e => .pure v hc (by rw [← wantS_eqv e.sl]; exact hw) hd ⟨hv.known.eqv e.sl, fun ρ hf => hv.run ρ (hf.eqv e.symm.sl)⟩ (ih _ ⟨look_put e.sl _ _, e.hp⟩)
  | kload v hc hw hd hv k ih =>
    exact fun s' e => .kload v hc (by rw [← wantS_eqv e.sl]; exact hw) hd ⟨hv.known.eqv e.sl, fun ρ hf => hv.run ρ (hf.eqv e.symm.sl)⟩ (ih _ ⟨look_put e.sl _ _, e.hp⟩)
  | load v hc hc0 hw hd hv k ih =>
    exact fun s' e => .load v hc hc0 (by rw [← wantS_eqv e.sl]; exact hw) hd ⟨hv.known.eqv e.sl, fun ρ hf w hh => hv.run ρ (hf.eqv e.symm.sl) w (hh.perm e.hp.symm)⟩ (ih _ ⟨look_put e.sl _ _, e.hp⟩)
  | new cs T hc hw hd hv k ih =>
    exact fun s' e => .new cs T hc hw hd ⟨hv.known.eqv e.sl, fun ρ hf => hv.run ρ (hf.eqv e.symm.sl)⟩ fun n hn hf =>
      ih n hn (fun b hb => hf b (e.hp.mem_iff.1 hb)) _ ⟨look_put e.sl _ _, e.hp.cons _⟩
  | grow R val nw hc hw hd hv k ih =>
    exact fun s' e => .grow R val nw hc (by rw [← wantS_eqv e.sl]; exact hw) hd
      ⟨hv.known.eqv e.sl, hv.some, fun a w hf hh => hv.run a w (hf.eqv e.symm.sl) (hh.perm e.hp.symm)⟩
      fun r hr => ih r hr _ ⟨look_put e.sl _ _, e.hp.append_left _⟩
  | act R val hp hc hw hd hv k ih =>
    exact fun s' e => .act R val hp hc (by rw [← wantS_eqv e.sl]; exact hw) hd ⟨hv.known.eqv e.sl, fun a w hf hh => hv.run a w (hf.eqv e.symm.sl) (hh.perm e.hp.symm)⟩
      fun r hr => ih r hr _ ⟨look_put e.sl _ _, .refl _⟩

/-! ### two operations change places -/

theorem look_comm {sl : List (Nat × Value)} {d e : Option Tmp} (h : ∀ t, d = some t → e ≠ some t) (v u : Value) (t : Nat) :
    look (putIn (putIn sl d v) e u) t = look (putIn (putIn sl e u) d v) t := by
  cases d with
  | none => rfl
  | some d =>
    cases e with
    | none => rfl
    | some e =>
      have hne : d ≠ e := fun he => h d rfl (by rw [he])
      by_cases h1 : e = t
      · subst h1
        simp [putIn, look_cons_eq, look_cons_ne _ _ hne]
      · by_cases h2 : d = t
        · subst h2
          simp [putIn, look_cons_eq, look_cons_ne _ _ h1]
        · simp [putIn, look_cons_ne _ _ h1, look_cons_ne _ _ h2]

theorem evIn_put {sl : List (Nat × Value)} {d : Option Tmp} {v : Value} {x : Operand} (h : ∀ t, d = some t → x ≠ .tmp t) : evIn (putIn sl d v) x = evIn sl x := by
  cases d with
  | none => rfl
  | some d =>
    cases x with
    | tmp t => exact look_cons_ne _ _ fun e => h d rfl (by rw [e])
    | _ => rfl

theorem look_put_ne {sl : List (Nat × Value)} {d : Option Tmp} {v : Value} {t : Nat} (h : d ≠ some t) : look (putIn sl d v) t = look sl t := by
  cases d with
  | none => rfl
  | some d => exact look_cons_ne _ _ fun e => h (by rw [e])

section
variable {ops : Array Oper} {x y : Oper} {d : Option Tmp} {v : Value} {sl : List (Nat × Value)}

theorem not_look {o : Oper} (h : ∀ t, d = some t → t ∉ o.looksAt ops) : (∀ z ∈ o.op.operands, ∀ t, d = some t → z ≠ .tmp t) ∧
    (∀ j want, o.guard = some (j, want) → ∀ t, (ops[j]?).bind (·.dst) = some t → d ≠ some t) := by
  refine ⟨fun z hz t ht he => h t ht ?_, fun j want hg t hb hd => h t hd ?_⟩
  · subst he
    exact List.mem_append.2 (.inl (List.mem_filterMap.2 ⟨.tmp t, by simpa using hz, rfl⟩))
  · refine List.mem_append.2 (.inr ?_)
    simp [hg, hb]

theorem wantS_put {o : Oper} (h : ∀ t, d = some t → t ∉ o.looksAt ops) : wantS ops (putIn sl d v) o = wantS ops sl o := by
  have hh := (not_look h).2
  unfold wantS
  cases hg : o.guard with
  | none => rfl
  | some g =>
    obtain ⟨j, want⟩ := g
    simp only []
    cases hb : (ops[j]?).bind (·.dst) with
    | none => rfl
    | some t => simp only []; rw [look_put_ne (hh j want hg t hb)]

theorem known_put {o : Oper} (h : ∀ t, d = some t → t ∉ o.looksAt ops) : Known (putIn sl d v) o ↔ Known sl o := by
  have hh := (not_look h).1
  exact ⟨fun k z hz => by rw [← evIn_put (v := v) (hh z hz)]; exact k z hz, fun k z hz => by rw [evIn_put (hh z hz)]; exact k z hz⟩

theorem fits_put {o : Oper} {ρ : Operand → Value} (h : ∀ t, d = some t → t ∉ o.looksAt ops) : Fits (putIn sl d v) o ρ ↔ Fits sl o ρ := by
  have hh := (not_look h).1
  exact ⟨fun k z hz => by rw [← evIn_put (v := v) (hh z hz)]; exact k z hz, fun k z hz => by rw [evIn_put (hh z hz)]; exact k z hz⟩
end

/-- classes that change places (the first stands first) -/
def comm (c e : Nat) : Bool := c == 0 || (c == 1 && Nat.ble e 3) || ((c == 2 || c == 3) && e == 2)

theorem Tr.inv_new {C : Cx} {ops : Array Oper} {y : Oper} {rest : List (Nat × Oper)} {s : St} {Q : St → Prop} (h : Tr C ops ((2, y) :: rest) s Q) (hn : (s.hp.map (·.n)).Nodup) :
    ∃ cs T, y.guard = none ∧ dstOk C.N y ∧ NewV C s y cs T ∧ ∀ n, C.W0.heap.size ≤ n → (∀ b ∈ s.hp, b.n ≠ n) → Tr C ops rest ((s.put y.dst (.pointer (some ⟨n, 0, none⟩))).add (blk n cs T)) Q := by
  cases h with
  | dup h => exact absurd hn h
  | skip hc hw hd k => exact absurd rfl hc
  | pure v hc hw hd hv k => exact absurd rfl hc
  | kload v hc hw hd hv k => exact absurd rfl hc
  | load v hc hc0 hw hd hv k => exact absurd rfl hc
  | new cs T hc hw hd hv k => exact ⟨cs, T, hw, hd, hv, k⟩
  | grow R val nw hc hw hd hv k => rcases hc with hc | hc <;> simp at hc
  | act R val hp hc hw hd hv k => simp at hc

theorem NewV.same {C : Cx} {s s' : St} {o : Oper} {cs cs' : List Value} {T T' : TypeId} (h : NewV C s o cs T) (h' : NewV C s' o cs' T') (e : ∀ z ∈ o.op.operands, evIn s.sl z = evIn s'.sl z) : cs = cs' ∧ T = T' := by
  let ρ : Operand → Value := fun z => (evIn s.sl z).getD undef
  have f : Fits s.sl o ρ := fun z hz => by
    have := h.known z hz
    cases hv : evIn s.sl z with
    | none => simp [hv] at this
    | some v => simp [ρ, hv]
  have f' : Fits s'.sl o ρ := fun z hz => by rw [← e z hz]; exact f z hz
  have r := h.run ρ f C.W0
  have r' := h'.run ρ f' C.W0
  rw [r] at r'
  injection r' with _ hw
  have hh : C.W0.heap.push (.cells cs.toArray T) = C.W0.heap.push (.cells cs'.toArray T') := congrArg World.heap hw
  have hb := congrArg (fun a => a.back?) hh
  simp at hb
  exact ⟨hb.1, hb.2⟩

theorem fresh_is (B : Nat) (hp : List Blk) : ∃ n, B ≤ n ∧ ∀ b ∈ hp, b.n ≠ n := by
  have : ∃ N, ∀ b ∈ hp, b.n < N := by
    induction hp with
    | nil => exact ⟨0, by simp⟩
    | cons x l ih =>
      obtain ⟨N, hN⟩ := ih
      refine ⟨N + x.n + 1, fun b hb => ?_⟩
      rcases List.mem_cons.1 hb with rfl | hb
      · omega
      · have := hN b hb; omega
  obtain ⟨N, hN⟩ := this
  exact ⟨B + N, by omega, fun b hb => by have := hN b hb; omega⟩

theorem nodup_new {hp : List Blk} {n : Nat} {cs : List Value} {T : TypeId} (h : (hp.map (·.n)).Nodup) (hf : ∀ b ∈ hp, b.n ≠ n) : ((blk n cs T :: hp).map (·.n)).Nodup := by
  rw [List.map_cons, List.nodup_cons]
  refine ⟨fun hm => ?_, h⟩
  obtain ⟨b, hb, he⟩ := List.mem_map.1 hm
  exact hf b hb he

theorem Tr.swap2 {C : Cx} {ops : Array Oper} {x y : Oper} {rest : List (Nat × Oper)} {s : St} {Q : St → Prop} (hap : x.apart ops y = true) (hnd : (s.hp.map (·.n)).Nodup)
    (h : Tr C ops ((2, x) :: (2, y) :: rest) s Q) : Tr C ops ((2, y) :: (2, x) :: rest) s (clQ Q) := by
  obtain ⟨h1, h2, h3⟩ := Oper.apart_spec hap
  obtain ⟨cx, Tx, gx, dx, vx, k⟩ := h.inv_new hnd
  obtain ⟨n0, hn0, hf0⟩ := fresh_is C.W0.heap.size s.hp
  obtain ⟨cy, Ty, gy, dy, vy, _⟩ := (k n0 hn0 hf0).inv_new (nodup_new hnd hf0)
  have ey : ∀ (u : Value), ∀ z ∈ y.op.operands, evIn (putIn s.sl x.dst u) z = evIn s.sl z := fun u z hz => evIn_put ((not_look (ops := ops) h1).1 z hz)
  have ex : ∀ (u : Value), ∀ z ∈ x.op.operands, evIn (putIn s.sl y.dst u) z = evIn s.sl z := fun u z hz => evIn_put ((not_look (ops := ops) h3).1 z hz)
  refine .new cy Ty (.inl rfl) gy dy ⟨fun z hz => by rw [← ey _ z hz]; exact vy.known z hz, fun ρ hf => vy.run ρ fun z hz => by
    show evIn (putIn s.sl x.dst _) z = _; rw [ey _ z hz]; exact hf z hz⟩ fun m hm hfm => ?_
  refine .new cx Tx (.inl rfl) gx dx ⟨fun z hz => by show (evIn (putIn s.sl y.dst _) z).isSome; rw [ex _ z hz]; exact vx.known z hz, fun ρ hf => vx.run ρ fun z hz => by
    have := hf z hz
    rw [← ex (.pointer (some ⟨m, 0, none⟩)) z hz]; exact this⟩ fun n hn hfn => ?_
  have hfn' : ∀ b ∈ s.hp, b.n ≠ n := fun b hb => hfn b (List.mem_cons_of_mem _ hb)
  have hmn : m ≠ n := hfn (blk m cy Ty) List.mem_cons_self
  obtain ⟨cy', Ty', _, _, vy', k'⟩ := (k n hn hfn').inv_new (nodup_new hnd hfn')
  obtain ⟨rfl, rfl⟩ := vy.same vy' fun z hz => by
    show evIn (putIn s.sl x.dst _) z = evIn (putIn s.sl x.dst _) z
    rw [ey _ z hz, ey _ z hz]
  refine (k' m hm fun b hb => ?_).eqv _ ⟨fun t => look_comm h2 _ _ t, .swap _ _ _⟩
  rcases List.mem_cons.1 hb with rfl | hb
  · exact Ne.symm hmn
  · exact hfm b hb

theorem Tr.swap3 {C : Cx} {ops : Array Oper} {x y : Oper} {rest : List (Nat × Oper)} {s : St} {Q : St → Prop} (hap : x.apart ops y = true) (hnd : (s.hp.map (·.n)).Nodup)
    (soft : ∀ v, dstOk C.N x → Tr C ops ((2, y) :: rest) (s.put x.dst v) Q → (∀ (s' : St), (∀ z ∈ x.op.operands, evIn s'.sl z = evIn s.sl z) → wantS ops s'.sl x = wantS ops s.sl x → (∀ w, HRep C s'.hp w → HRep C s.hp w) →
        Tr C ops rest (s'.put x.dst v) (clQ Q) → Tr C ops ((3, x) :: rest) s' (clQ Q)) → Tr C ops ((2, y) :: (3, x) :: rest) s (clQ Q))
    (h : Tr C ops ((3, x) :: (2, y) :: rest) s Q) : Tr C ops ((2, y) :: (3, x) :: rest) s (clQ Q) := by
  obtain ⟨h1, h2, h3⟩ := Oper.apart_spec hap
  cases h with
  | dup h => exact absurd hnd h
  | skip hc2 hw hd k => exact soft _ hd k fun s' he hww _ kk => .skip hc2 (by rw [hww]; exact hw) hd kk
  | pure v hc2 hw hd hv k =>
    exact soft v hd k fun s' he hww _ kk => .pure v hc2 (by rw [hww]; exact hw) hd
      ⟨fun z hz => by rw [he z hz]; exact hv.known z hz, fun ρ hf => hv.run ρ fun z hz => by rw [← he z hz]; exact hf z hz⟩ kk
  | kload v hc2 hw hd hv k =>
    exact soft v hd k fun s' he hww _ kk => .kload v hc2 (by rw [hww]; exact hw) hd
      ⟨fun z hz => by rw [he z hz]; exact hv.known z hz, fun ρ hf => hv.run ρ fun z hz => by rw [← he z hz]; exact hf z hz⟩ kk
  | load v hc2 hc0 hw hd hv k =>
    exact soft v hd k fun s' he hww hh kk => .load v hc2 hc0 (by rw [hww]; exact hw) hd
      ⟨fun z hz => by rw [he z hz]; exact hv.known z hz, fun ρ hf w hr => hv.run ρ (fun z hz => by rw [← he z hz]; exact hf z hz) w (hh w hr)⟩ kk
  | new cs T hc2 hw hd hv k => rcases hc2 with hc2 | hc2 <;> simp at hc2
  | act R val hp hc2 hw hd hv k => simp at hc2
  | grow R val nw hc2 hw hd hv k =>
    obtain ⟨r0, hr0, hn0⟩ := hv.some s.hp hnd
    have ey : ∀ (u : Value), ∀ z ∈ y.op.operands, evIn (putIn s.sl x.dst u) z = evIn s.sl z := fun u z hz => evIn_put ((not_look (ops := ops) h1).1 z hz)
    have ex : ∀ (u : Value), ∀ z ∈ x.op.operands, evIn (putIn s.sl y.dst u) z = evIn s.sl z := fun u z hz => evIn_put ((not_look (ops := ops) h3).1 z hz)
    obtain ⟨cy, Ty, gy, dy, vy, _⟩ := (k r0 hr0).inv_new hn0
    refine .new cy Ty (.inl rfl) gy dy ⟨fun z hz => by rw [← ey _ z hz]; exact vy.known z hz, fun ρ hf => vy.run ρ fun z hz => by
      show evIn (putIn s.sl x.dst _) z = _; rw [ey _ z hz]; exact hf z hz⟩ fun m hm hfm => ?_
    refine .grow R val nw hc2 (by show wantS ops (putIn s.sl y.dst _) x = _; rw [wantS_put h3]; exact hw) hd ⟨fun z hz => by show (evIn (putIn s.sl y.dst _) z).isSome; rw [ex _ z hz]; exact hv.known z hz, hv.some, fun a w hf hh => ?_⟩ fun r hr => ?_
    · refine hv.run a w (fun z hz => ?_) (hh.sub (fun b hb => List.mem_cons_of_mem _ hb) hnd)
      have := hf z hz
      rw [← ex (.pointer (some ⟨m, 0, none⟩)) z hz]; exact this
    · by_cases hdup : ((nw r ++ (blk m cy Ty :: s.hp)).map (·.n)).Nodup
      · have hdup' : ((nw r ++ s.hp).map (·.n)).Nodup ∧ ∀ b ∈ nw r ++ s.hp, b.n ≠ m := by
          rw [List.map_append, List.nodup_append] at hdup
          obtain ⟨d1, d2, d3⟩ := hdup
          rw [List.map_cons, List.nodup_cons] at d2
          refine ⟨?_, fun b hb => ?_⟩
          · rw [List.map_append, List.nodup_append]
            exact ⟨d1, d2.2, fun i hi j hj => d3 i hi j (by rw [List.map_cons]; exact List.mem_cons_of_mem _ hj)⟩
          · rcases List.mem_append.1 hb with hb | hb
            · exact d3 b.n (List.mem_map.2 ⟨b, hb, rfl⟩) m (by rw [List.map_cons]; exact List.mem_cons_self)
            · exact hfm b hb
        obtain ⟨cy', Ty', _, _, vy', k'⟩ := (k r hr).inv_new hdup'.1
        obtain ⟨rfl, rfl⟩ := vy.same vy' fun z hz => by
          show evIn (putIn s.sl x.dst _) z = evIn (putIn s.sl x.dst _) z
          rw [ey _ z hz, ey _ z hz]
        exact (k' m hm hdup'.2).eqv _ ⟨fun t => look_comm h2 _ _ t, (List.perm_middle (a := blk m cy Ty) (l₁ := nw r) (l₂ := s.hp)).symm⟩
      · exact .dup hdup

theorem Tr.swap {C : Cx} {ops : Array Oper} {c e : Nat} {x y : Oper} {rest : List (Nat × Oper)} {s : St} {Q : St → Prop} (hc : comm c e = true) (hap : x.apart ops y = true)
    (h : Tr C ops ((c, x) :: (e, y) :: rest) s Q) : Tr C ops ((e, y) :: (c, x) :: rest) s (clQ Q) := by
  by_cases hnd : (s.hp.map (·.n)).Nodup
  case neg => exact .dup hnd
  by_cases hne : c = 2
  · subst hne
    have he : e = 2 := by simpa [comm] using hc
    subst he
    exact Tr.swap2 hap hnd h
  by_cases hne3 : c = 3
  · subst hne3
    have he : e = 2 := by simpa [comm] using hc
    subst he
    refine Tr.swap3 hap hnd (fun v hdx k fin => ?_) h
    obtain ⟨h1, h2, h3⟩ := Oper.apart_spec hap
    obtain ⟨cs, T, hw, hd, hv, k⟩ := k.inv_new hnd
    exact .new cs T (.inl rfl) hw hd ⟨(known_put h1).1 hv.known, fun ρ hf => hv.run ρ ((fits_put h1).2 hf)⟩ fun n hn hf =>
      fin _ (fun z hz => evIn_put ((not_look (ops := ops) h3).1 z hz)) (wantS_put h3) (fun w hr => hr.sub (fun b hb => List.mem_cons_of_mem _ hb) (by have := hr.nodup; simp only [St.add, List.map_cons, List.nodup_cons] at this; exact this.2))
        ((k n hn hf).eqv _ ⟨fun t => look_comm h2 _ _ t, .refl _⟩)
  obtain ⟨h1, h2, h3⟩ := Oper.apart_spec hap
  -- the first one is soft: its value, and that it stays so
  have soft : ∃ v, dstOk C.N x ∧ Tr C ops ((e, y) :: rest) (s.put x.dst v) Q ∧ c ≠ 2 ∧
      ∀ (s' : St), (∀ z ∈ x.op.operands, evIn s'.sl z = evIn s.sl z) → wantS ops s'.sl x = wantS ops s.sl x → ((c ≠ 0) → ∀ w, HRep C s'.hp w → HRep C s.hp w) →
        Tr C ops rest (s'.put x.dst v) (clQ Q) → Tr C ops ((c, x) :: rest) s' (clQ Q) := by
    cases h with
    | dup h => exact absurd hnd h
    | skip hc2 hw hd k => exact ⟨_, hd, k, hc2, fun s' _ hww _ kk => .skip hc2 (by rw [hww]; exact hw) hd kk⟩
    | pure v hc2 hw hd hv k =>
      exact ⟨v, hd, k, hc2, fun s' he hww _ kk => .pure v hc2 (by rw [hww]; exact hw) hd
        ⟨fun z hz => by rw [he z hz]; exact hv.known z hz, fun ρ hf => hv.run ρ fun z hz => by rw [← he z hz]; exact hf z hz⟩ kk⟩
    | kload v hc2 hw hd hv k =>
      exact ⟨v, hd, k, hc2, fun s' he hww _ kk => .kload v hc2 (by rw [hww]; exact hw) hd
        ⟨fun z hz => by rw [he z hz]; exact hv.known z hz, fun ρ hf => hv.run ρ fun z hz => by rw [← he z hz]; exact hf z hz⟩ kk⟩
    | load v hc2 hc0 hw hd hv k =>
      exact ⟨v, hd, k, hc2, fun s' he hww hh kk => .load v hc2 hc0 (by rw [hww]; exact hw) hd
        ⟨fun z hz => by rw [he z hz]; exact hv.known z hz, fun ρ hf w hr => hv.run ρ (fun z hz => by rw [← he z hz]; exact hf z hz) w (hh hc0 w hr)⟩ kk⟩
    | new cs T hc2 hw hd hv k => rcases hc2 with rfl | rfl <;> first | exact absurd rfl hne | (simp [comm] at hc; done)
    | grow R val nw hc2 hw hd hv k => rcases hc2 with rfl | rfl <;> first | exact absurd rfl hne3 | (simp [comm] at hc; done)
    | act R val hp hc2 hw hd hv k => subst hc2; simp [comm] at hc
  obtain ⟨v, hdx, k, hc2, fin⟩ := soft
  have opx : ∀ (u : Value), ∀ z ∈ x.op.operands, evIn (putIn s.sl y.dst u) z = evIn s.sl z := fun u z hz => evIn_put ((not_look (ops := ops) h3).1 z hz)
  have wx : ∀ (u : Value), wantS ops (putIn s.sl y.dst u) x = wantS ops s.sl x := fun u => wantS_put h3
  have cm : ∀ u t, look (putIn (putIn s.sl x.dst v) y.dst u) t = look (putIn (putIn s.sl y.dst u) x.dst v) t := fun u t => look_comm h2 v u t
  cases k with
  | dup h => exact absurd hnd h
  | skip hc' hw hd k => exact .skip hc' (by rw [← wantS_put (v := v) h1]; exact hw) hd (fin _ (opx _) (wx _) (fun _ _ h => h) (k.eqv _ ⟨cm _, .refl _⟩))
  | pure u hc' hw hd hv k =>
    exact .pure u hc' (by rw [← wantS_put (v := v) h1]; exact hw) hd ⟨(known_put h1).1 hv.known, fun ρ hf => hv.run ρ ((fits_put h1).2 hf)⟩
      (fin _ (opx _) (wx _) (fun _ _ h => h) (k.eqv _ ⟨cm _, .refl _⟩))
  | kload u hc' hw hd hv k =>
    exact .kload u hc' (by rw [← wantS_put (v := v) h1]; exact hw) hd ⟨(known_put h1).1 hv.known, fun ρ hf => hv.run ρ ((fits_put h1).2 hf)⟩
      (fin _ (opx _) (wx _) (fun _ _ h => h) (k.eqv _ ⟨cm _, .refl _⟩))
  | load u hc' hc0 hw hd hv k =>
    exact .load u hc' hc0 (by rw [← wantS_put (v := v) h1]; exact hw) hd ⟨(known_put h1).1 hv.known, fun ρ hf w hr => hv.run ρ ((fits_put h1).2 hf) w hr⟩
      (fin _ (opx _) (wx _) (fun _ _ h => h) (k.eqv _ ⟨cm _, .refl _⟩))
  | new cs T hc' hw hd hv k =>
    exact .new cs T hc' hw hd ⟨(known_put h1).1 hv.known, fun ρ hf => hv.run ρ ((fits_put h1).2 hf)⟩ fun n hn hf =>
      fin _ (opx _) (wx _) (fun _ w hr => hr.sub (fun b hb => List.mem_cons_of_mem _ hb) (by have := hr.nodup; simp only [St.add, List.map_cons, List.nodup_cons] at this; exact this.2))
        ((k n hn hf).eqv _ ⟨cm _, .refl _⟩)
  | grow R val nw hc' hw hd hv k =>
    exact .grow R val nw hc' (by rw [← wantS_put (v := v) h1]; exact hw) hd ⟨(known_put h1).1 hv.known, hv.some, fun a w hf hr => hv.run a w ((fits_put h1).2 hf) hr⟩ fun r hr =>
      fin ⟨putIn s.sl y.dst (val r), nw r ++ s.hp⟩ (opx _) (wx _) (fun _ w hh => hh.sub (fun b hb => List.mem_append.2 (.inr hb)) hnd)
        ((k r hr).eqv _ ⟨cm _, .refl _⟩)
  | act R val hp hc' hw hd hv k =>
    subst hc'
    refine .act R val hp rfl (by rw [← wantS_put (v := v) h1]; exact hw) hd ⟨(known_put h1).1 hv.known, fun a w hf hr => hv.run a w ((fits_put h1).2 hf) hr⟩ fun r hr =>
      fin ⟨putIn s.sl y.dst (val r), hp r⟩ (opx _) (wx _) (fun hc0 => ?_) ((k r hr).eqv _ ⟨cm _, .refl _⟩)
    simp [comm] at hc
    exact absurd hc hc0


theorem Tr.tail {C : Cx} {ops : Array Oper} {p : Nat × Oper} {l l' : List (Nat × Oper)} {s : St} {Q Q' : St → Prop} (h : Tr C ops (p :: l) s Q) (f : ∀ s, Tr C ops l s Q → Tr C ops l' s Q') : Tr C ops (p :: l') s Q' := by
  cases h with
  | dup h => exact .dup h
  | skip hc hw hd k => exact .skip hc hw hd (f _ k)
  | pure v hc hw hd hv k => exact .pure v hc hw hd hv (f _ k)
  | kload v hc hw hd hv k => exact .kload v hc hw hd hv (f _ k)
  | load v hc hc0 hw hd hv k => exact .load v hc hc0 hw hd hv (f _ k)
  | new cs T hc hw hd hv k => exact .new cs T hc hw hd hv fun n h1 h2 => f _ (k n h1 h2)
  | grow R val nw hc hw hd hv k => exact .grow R val nw hc hw hd hv fun r hr => f _ (k r hr)
  | act R val hp hc hw hd hv k => exact .act R val hp hc hw hd hv fun r hr => f _ (k r hr)

theorem Tr.mono {C : Cx} {ops : Array Oper} {l : List (Nat × Oper)} {s : St} {Q Q' : St → Prop} (h : Tr C ops l s Q) (f : ∀ s, Q s → Q' s) : Tr C ops l s Q' := by
  induction l generalizing s with
  | nil => cases h with | nil h => exact .nil (f _ h) | dup h => exact .dup h
  | cons p l ih => exact h.tail fun s k => ih k

theorem Tr.front {C : Cx} {ops : Array Oper} {e : Nat} {y : Oper} {l1 l2 : List (Nat × Oper)} {s : St} {Q : St → Prop} (hc : ∀ p ∈ l1, comm p.1 e = true ∧ p.2.apart ops y = true)
    (h : Tr C ops (l1 ++ (e, y) :: l2) s Q) : Tr C ops ((e, y) :: (l1 ++ l2)) s (clQ Q) := by
  induction l1 generalizing s with
  | nil => exact h.mono fun s q => ⟨s, .refl _, q⟩
  | cons p l1 ih =>
    obtain ⟨c, x⟩ := p
    have h1 : Tr C ops ((c, x) :: (e, y) :: (l1 ++ l2)) s (clQ Q) := h.tail fun s k => ih (fun p hp => hc p (List.mem_cons_of_mem _ hp)) k
    have := hc (c, x) List.mem_cons_self
    exact (h1.swap this.1 this.2).mono fun s q => clQ_cl q

/-! ### a region in any order -/

def bindsIn (ops : Array Oper) (j : Nat) : List Nat :=
  match ops[j]? with
  | some o => (o.after.toList.filter fun e => Region.binds .any e).map (·.on)
  | none => []

/-- is operation i among those that operation j waits for, directly or through others? -/
def reach (ops : Array Oper) : Nat → Nat → Nat → Bool
  | 0, _, _ => false
  | n + 1, j, i => (bindsIn ops j).contains i || (bindsIn ops j).any fun k => reach ops n k i

def pairOk (ops : Array Oper) (p q : Nat × Nat) : Bool :=
  (comm p.1 q.1 && (match ops[p.2]?, ops[q.2]? with | some x, some y => x.apart ops y | _, _ => false)) || reach ops ops.size q.2 p.2

def pairsOk (ops : Array Oper) : List (Nat × Nat) → Bool
  | [] => true
  | p :: l => l.all (pairOk ops p) && pairsOk ops l

def topoOk (ops : Array Oper) (seen : List Nat) : List (Nat × Nat) → Bool
  | [] => true
  | p :: l => decide (p.2 < ops.size) && !seen.contains p.2 && (bindsIn ops p.2).all (fun k => seen.contains k) && topoOk ops (p.2 :: seen) l

/-- the order 'perm' (classes and numbers) may stand for every order -/
def orderOk (ops : Array Oper) (perm : List (Nat × Nat)) : Bool :=
  topoOk ops [] perm && (List.range ops.size).all (fun i => (perm.map (·.2)).contains i) && pairsOk ops perm

def items (ops : Array Oper) (l : List (Nat × Nat)) : List (Nat × Oper) := l.filterMap fun p => (ops[p.2]?).map fun o => (p.1, o)

def Shut (ops : Array Oper) (listed : Array Bool) : Prop := ∀ j, listed.getD j false = true → ∀ k ∈ bindsIn ops j, listed.getD k false = true

theorem reach_listed {ops : Array Oper} {listed : Array Bool} (hs : Shut ops listed) : ∀ n j i, (∀ k ∈ bindsIn ops j, listed.getD k false = true) → reach ops n j i = true → listed.getD i false = true
  | 0, _, _, _, h => by simp [reach] at h
  | n + 1, j, i, hj, h => by
    simp only [reach, Bool.or_eq_true] at h
    rcases h with h | h
    · exact hj i (by simpa using h)
    · obtain ⟨k, hk, hr⟩ := List.any_eq_true.1 h
      exact reach_listed hs n k i (hs k (hj k hk)) hr

theorem mem_ready' {ops : Array Oper} {listed : Array Bool} {i : Nat} (hsz : listed.size = ops.size) :
    i ∈ Region.ready .any ops listed ↔ i < ops.size ∧ listed.getD i false = false ∧ ∀ k ∈ bindsIn ops i, listed.getD k false = true := by
  unfold Region.ready
  simp only [List.mem_filter, List.mem_range]
  constructor
  · rintro ⟨hi, h⟩
    have ho : ops[i]? = some ops[i] := Array.getElem?_eq_getElem hi
    have hl : i < listed.size := by omega
    simp only [ho, Option.map_some, Option.getD_some, Bool.and_eq_true, Bool.not_eq_true', Array.all_eq_true_iff_forall_mem] at h
    refine ⟨hi, by simpa [hl] using h.1, fun k hk => ?_⟩
    unfold bindsIn at hk
    rw [ho] at hk
    obtain ⟨e, he, rfl⟩ := List.mem_map.1 hk
    rw [List.mem_filter] at he
    have := h.2 e (by simpa using he.1)
    simpa [he.2] using this
  · rintro ⟨hi, h0, h1⟩
    have ho : ops[i]? = some ops[i] := Array.getElem?_eq_getElem hi
    have hl : i < listed.size := by omega
    refine ⟨hi, ?_⟩
    simp only [ho, Option.map_some, Option.getD_some, Bool.and_eq_true, Bool.not_eq_true', Array.all_eq_true_iff_forall_mem]
    refine ⟨by simpa [hl] using h0, fun e he => ?_⟩
    by_cases hb : Region.binds .any e = true
    · have := h1 e.on (by
        unfold bindsIn
        rw [ho]
        exact List.mem_map.2 ⟨e, List.mem_filter.2 ⟨by simpa using he, hb⟩, rfl⟩)
      simp [this]
    · simp [hb]

theorem topo_mem {ops : Array Oper} : ∀ (l : List (Nat × Nat)) (seen : List Nat), topoOk ops seen l = true → ∀ p ∈ l, p.2 < ops.size ∧ p.2 ∉ seen
  | [], _, _, p, hp => by cases hp
  | q :: l, seen, h, p, hp => by
    simp only [topoOk, Bool.and_eq_true, decide_eq_true_eq, Bool.not_eq_true', List.contains_eq_mem, decide_eq_false_iff_not] at h
    rcases List.mem_cons.1 hp with rfl | hp
    · exact ⟨h.1.1.1, h.1.1.2⟩
    · have := topo_mem l _ h.2 p hp
      exact ⟨this.1, fun hm => this.2 (List.mem_cons_of_mem _ hm)⟩

theorem topo_nodup {ops : Array Oper} : ∀ (l : List (Nat × Nat)) (seen : List Nat), topoOk ops seen l = true → (l.map (·.2)).Nodup
  | [], _, _ => List.nodup_nil
  | q :: l, seen, h => by
    simp only [topoOk, Bool.and_eq_true, decide_eq_true_eq] at h
    refine List.nodup_cons.2 ⟨fun hm => ?_, topo_nodup l _ h.2⟩
    obtain ⟨p, hp, he⟩ := List.mem_map.1 hm
    exact (topo_mem l _ h.2 p hp).2 (by rw [he]; exact List.mem_cons_self)

/-- of the order's rest the first one is ready -/
theorem topo_first {ops : Array Oper} {listed : Array Bool} (hsz : listed.size = ops.size) : ∀ (l : List (Nat × Nat)) (seen : List Nat), topoOk ops seen l = true → (∀ k ∈ seen, listed.getD k false = true) →
    ∀ p l', l.filter (fun p => !listed.getD p.2 false) = p :: l' → p.2 ∈ Region.ready .any ops listed
  | [], _, _, _, p, l', h => by simp at h
  | q :: l, seen, h, hs, p, l', hf => by
    simp only [topoOk, Bool.and_eq_true, decide_eq_true_eq, List.all_eq_true, List.contains_eq_mem] at h
    cases hq : listed.getD q.2 false with
    | true =>
      rw [List.filter_cons, hq] at hf
      refine topo_first hsz l (q.2 :: seen) h.2 (fun k hk => ?_) p l' (by simpa using hf)
      rcases List.mem_cons.1 hk with rfl | hk
      · exact hq
      · exact hs k hk
    | false =>
      rw [List.filter_cons, hq] at hf
      simp only [Bool.not_false, if_true, List.cons.injEq] at hf
      rw [← hf.1]
      exact (mem_ready' hsz).2 ⟨h.1.1.1, hq, fun k hk => hs k (h.1.2 k hk)⟩

theorem pairs_split {ops : Array Oper} : ∀ (l1 : List (Nat × Nat)) (q : Nat × Nat) (l2 : List (Nat × Nat)), pairsOk ops (l1 ++ q :: l2) = true → ∀ p ∈ l1, pairOk ops p q = true
  | [], _, _, _, p, hp => by cases hp
  | r :: l1, q, l2, h, p, hp => by
    simp only [List.cons_append, pairsOk, Bool.and_eq_true, List.all_eq_true] at h
    rcases List.mem_cons.1 hp with rfl | hp
    · exact h.1 q (by simp)
    · exact pairs_split l1 q l2 h.2 p hp

theorem pairs_filter {ops : Array Oper} (f : Nat × Nat → Bool) : ∀ (l : List (Nat × Nat)), pairsOk ops l = true → pairsOk ops (l.filter f) = true
  | [], _ => rfl
  | p :: l, h => by
    simp only [pairsOk, Bool.and_eq_true, List.all_eq_true] at h
    rw [List.filter_cons]
    split
    · simp only [pairsOk, Bool.and_eq_true, List.all_eq_true]
      exact ⟨fun q hq => h.1 q (List.mem_filter.1 hq).1, pairs_filter f l h.2⟩
    · exact pairs_filter f l h.2

theorem items_append (ops : Array Oper) (l1 l2 : List (Nat × Nat)) : items ops (l1 ++ l2) = items ops l1 ++ items ops l2 := by simp [items, List.filterMap_append]

theorem getD_set (listed : Array Bool) (i j : Nat) (hi : i < listed.size) : (listed.setIfInBounds i true).getD j false = (decide (i = j) || listed.getD j false) := by
  by_cases h : i = j
  · subst h; simp [hi]
  · simp [h, Array.getElem?_setIfInBounds_ne h]

theorem filter_set {listed : Array Bool} {j : Nat} (hj : j < listed.size) (perm l1 l2 : List (Nat × Nat)) (q : Nat × Nat) (hq : q.2 = j) (hn : (perm.map (·.2)).Nodup)
    (hf : perm.filter (fun p => !listed.getD p.2 false) = l1 ++ q :: l2) : perm.filter (fun p => !(listed.setIfInBounds j true).getD p.2 false) = l1 ++ l2 := by
  have e : perm.filter (fun p => !(listed.setIfInBounds j true).getD p.2 false) = (perm.filter (fun p => !listed.getD p.2 false)).filter fun p => !decide (j = p.2) := by
    rw [List.filter_filter]
    congr 1
    funext p
    rw [getD_set _ _ _ hj]
    cases decide (j = p.2) <;> simp
  have hnf : ((l1 ++ q :: l2).map (·.2)).Nodup := by
    rw [← hf]
    exact List.Sublist.nodup (List.Sublist.map _ List.filter_sublist) hn
  rw [List.map_append, List.map_cons, List.nodup_append] at hnf
  rw [e, hf, List.filter_append, List.filter_cons]
  have h1 : l1.filter (fun p => !decide (j = p.2)) = l1 := List.filter_eq_self.2 fun p hp => by
    have := hnf.2.2 p.2 (List.mem_map.2 ⟨p, hp, rfl⟩) q.2 List.mem_cons_self
    simp; omega
  have h2 : l2.filter (fun p => !decide (j = p.2)) = l2 := List.filter_eq_self.2 fun p hp => by
    have := (List.nodup_cons.1 hnf.2.1).1
    simp only [decide_not, Bool.not_eq_true', decide_eq_false_iff_not, Bool.not_eq_eq_eq_not, Bool.not_true]
    exact fun he => this (by rw [hq, he]; exact List.mem_map.2 ⟨p, hp, rfl⟩)
  rw [h1, h2]
  simp [hq]

/-- the end of a region -/
def Fin (C : Cx) (Q : St → Prop) (e : Exit) (a : Act) (w : World) : Prop := e = .normal ∧ ∃ s', Rep C s' a w ∧ Q s'

theorem Fin_cl (C : Cx) (Q : St → Prop) : Fin C (clQ Q) = Fin C Q := by
  funext e a w
  refine propext ⟨fun h => ?_, fun h => ?_⟩
  · obtain ⟨h1, s0, h2, s1, h3, h4⟩ := h
    exact ⟨h1, s1, h2.eqv h3.symm, h4⟩
  · obtain ⟨h1, s0, h2, h3⟩ := h
    exact ⟨h1, s0, h2, s0, .refl _, h3⟩

theorem wpAny_of_tr {C : Cx} {ops : Array Oper} {perm : List (Nat × Nat)} (hok : orderOk ops perm = true) :
    ∀ (fuel : Nat) (listed : Array Bool) (s : St) (a : Act) (w : World) (Q : St → Prop), listed.size = ops.size → Shut ops listed →
      (perm.filter (fun p => !listed.getD p.2 false)).length ≤ fuel →
      Rep C s a w → Tr C ops (items ops (perm.filter (fun p => !listed.getD p.2 false))) s Q →
      wpAny C.P .any ops (Fin C Q) fuel listed a w := by
  simp only [orderOk, Bool.and_eq_true, List.all_eq_true] at hok
  obtain ⟨⟨htopo, hall⟩, hpairs⟩ := hok
  have hnd := topo_nodup perm [] htopo
  have isnil : ∀ (listed : Array Bool), listed.size = ops.size → Region.ready .any ops listed = [] → perm.filter (fun p => !listed.getD p.2 false) = [] := by
    intro listed hsz hr
    cases hf : perm.filter (fun p => !listed.getD p.2 false) with
    | nil => rfl
    | cons p l' =>
      have := topo_first hsz perm [] htopo (by simp) p l' hf
      rw [hr] at this
      cases this
  have fin : ∀ (listed : Array Bool) (s : St) (a : Act) (w : World) (Q : St → Prop), perm.filter (fun p => !listed.getD p.2 false) = [] → Rep C s a w →
      Tr C ops (items ops (perm.filter (fun p => !listed.getD p.2 false))) s Q → ∃ s', Rep C s' a w ∧ Q s' := by
    intro listed s a w Q hf r h
    rw [hf] at h
    cases h with | nil h => exact ⟨s, r, h⟩ | dup h => exact absurd r.rh.nodup h
  have mem_of : ∀ (listed : Array Bool), listed.size = ops.size → ∀ j ∈ Region.ready .any ops listed, ∃ p ∈ perm.filter (fun p => !listed.getD p.2 false), p.2 = j := by
    intro listed hsz j hj
    obtain ⟨h1, h2, _⟩ := (mem_ready' hsz).1 hj
    have := hall j (List.mem_range.2 h1)
    simp only [List.contains_eq_mem, decide_eq_true_eq] at this
    obtain ⟨p, hp, he⟩ := List.mem_map.1 this
    exact ⟨p, List.mem_filter.2 ⟨hp, by rw [he, h2]; rfl⟩, he⟩
  intro fuel
  induction fuel with
  | zero =>
    intro listed s a w Q hsz hs hlen r h
    have h0 : perm.filter (fun p => !listed.getD p.2 false) = [] := List.eq_nil_of_length_eq_zero (by omega)
    refine ⟨?_, rfl, fin listed s a w Q h0 r h⟩
    cases hr : Region.ready .any ops listed with
    | nil => rfl
    | cons j l =>
      obtain ⟨p, hp, _⟩ := mem_of listed hsz j (by rw [hr]; exact List.mem_cons_self)
      rw [h0] at hp
      cases hp
  | succ fuel ih =>
    intro listed s a w Q hsz hs hlen r h
    refine ⟨fun hr => ⟨rfl, fin listed s a w Q (isnil listed hsz hr) r h⟩, fun j hj => ?_⟩
    obtain ⟨q, hq, hqj⟩ := mem_of listed hsz j hj
    obtain ⟨hjlt, hjun, hjb⟩ := (mem_ready' hsz).1 hj
    obtain ⟨l1, l2, hf⟩ := List.append_of_mem hq
    have hoj : ops[j]? = some ops[j] := Array.getElem?_eq_getElem hjlt
    rw [hf, items_append] at h
    have hit : items ops (q :: l2) = (q.1, ops[j]) :: items ops l2 := by
      simp [items, hqj, hjlt]
    rw [hit] at h
    have hpf := pairs_filter (fun p => !listed.getD p.2 false) perm hpairs
    rw [hf] at hpf
    have h' := Tr.front (l1 := items ops l1) (l2 := items ops l2) (fun p hp => by
      obtain ⟨p0, hp0, he⟩ := List.mem_filterMap.1 hp
      have hp1 := pairs_split l1 q l2 hpf p0 hp0
      have hun : listed.getD p0.2 false = false := by
        have : p0 ∈ perm.filter (fun p => !listed.getD p.2 false) := by rw [hf]; exact List.mem_append.2 (.inl hp0)
        simpa using (List.mem_filter.1 this).2
      cases hop : ops[p0.2]? with
      | none => rw [hop] at he; cases he
      | some o =>
        rw [hop] at he
        simp only [Option.map_some, Option.some.injEq] at he
        subst he
        simp only [pairOk, Bool.or_eq_true, Bool.and_eq_true] at hp1
        rcases hp1 with hp1 | hp1
        · rw [hop, hqj, hoj] at hp1
          exact hp1
        · have := reach_listed hs ops.size q.2 p0.2 (by rw [hqj]; exact hjb) hp1
          rw [hun] at this
          cases this) h
    have hjl : j < listed.size := by omega
    refine wpOp_mono (K := fun a' w' => ∃ s', Rep C s' a' w' ∧ Tr C ops (items ops l1 ++ items ops l2) s' (clQ Q)) ?_ (Tr.step (i := j) hoj h' a w r _ (fun s' a' w' r' k => ⟨s', r', k⟩) _)
    rintro a' w' ⟨s', r', k⟩
    have hfs := filter_set hjl perm l1 l2 q hqj hnd hf
    have hlen2 := congrArg List.length hf
    rw [List.length_append, List.length_cons] at hlen2
    have := ih (listed.setIfInBounds j true) s' a' w' (clQ Q) (by simp [hsz]) (fun i hi k hk => by
        rw [getD_set _ _ _ hjl] at hi ⊢
        by_cases hij : j = i
        · subst hij; rw [hjb k hk]; simp
        · simp only [hij, decide_false, Bool.false_or] at hi
          rw [hs i hi k hk]; simp)
      (by rw [hfs, List.length_append]; omega) r' (by rw [hfs, items_append]; exact k)
    rw [Fin_cl] at this
    exact this

/-! ### code -/

/-- from every state that fits s, the code comes to an exit and a state of which Q holds -/
def Sat (C : Cx) (code : Code) (s : St) (Q : Exit → St → Prop) : Prop :=
  ∀ a w, Rep C s a w → code.wp C.P (fun e a' w' => ∃ s', Rep C s' a' w' ∧ Q e s') a w

theorem Sat.mono {C : Cx} {code : Code} {s : St} {Q Q' : Exit → St → Prop} (h : Sat C code s Q) (hq : ∀ e s, Q e s → Q' e s) : Sat C code s Q' :=
  fun a w r => wp_mono (h a w r) fun _ _ _ ⟨s', r', q⟩ => ⟨s', r', hq _ _ q⟩

theorem wpOps_of_tr {C : Cx} {ops : Array Oper} {X : Exit → Act → World → Prop} : ∀ (l : List (Nat × Oper)) (is : List Nat) (s : St) (a : Act) (w : World) (Q : St → Prop),
    is.length = l.length → (∀ k : Nat, (is[k]?).bind (fun i => ops[i]?) = (l[k]?).map Prod.snd) → Rep C s a w → Tr C ops l s Q → (∀ s' a' w', Rep C s' a' w' → Q s' → X .normal a' w') → wpOps C.P ops X is a w
  | [], is, s, a, w, Q, hl, _, r, h, hX => by
    have : is = [] := List.eq_nil_of_length_eq_zero hl
    subst this
    cases h with | nil h => exact hX s a w r h | dup h => exact absurd r.rh.nodup h
  | (c, o) :: l, [], s, a, w, Q, hl, _, r, h, hX => by cases hl
  | (c, o) :: l, i :: is, s, a, w, Q, hl, he, r, h, hX => by
    rw [wpOps_cons]
    have h0 : ops[i]? = some o := by simpa using he 0
    refine Tr.step h0 h a w r _ (fun s' a' w' r' k => ?_) _
    exact wpOps_of_tr l is s' a' w' Q (by simpa using hl) (fun k => by simpa using he (k + 1)) r' k hX

/-- a region in the text's order -/
theorem Sat.region {C : Cx} {id : Nat} {ops : List Oper} {s : St} {Q : Exit → St → Prop} (h : Tr C ops.toArray (ops.map fun o => (4, o)) s (Q .normal)) :
    Sat C (.region id ops.toArray false) s Q := by
  intro a w r
  refine wp_region (wpOps_of_tr _ _ s a w _ (by simp) (fun k => ?_) r h fun s' a' w' r' q => ⟨s', r', q⟩)
  by_cases hk : k < ops.length
  · simp [hk]
  · simp [hk]

/-- a region that draws its order -/
theorem Sat.draw {C : Cx} {id : Nat} {ops : List Oper} {s : St} {Q : Exit → St → Prop} (perm : List (Nat × Nat)) (hm : C.P.follows .mixedOrders = true) (hok : orderOk ops.toArray perm = true)
    (h : Tr C ops.toArray (items ops.toArray perm) s (Q .normal)) : Sat C (.region id ops.toArray true) s Q := by
  intro a w r
  have hlen : perm.length ≤ ops.length := by
    simp only [orderOk, Bool.and_eq_true] at hok
    have hnd := topo_nodup perm [] hok.1.1
    have hlt : ∀ x ∈ perm.map (·.2), x ∈ List.range ops.length := fun x hx => by
      obtain ⟨p, hp, rfl⟩ := List.mem_map.1 hx
      have := (topo_mem perm [] hok.1.1 p hp).1
      simpa using this
    have := hnd.length_le_of_subset hlt
    simpa using this
  have h0 : perm.filter (fun p => !(Array.replicate ops.toArray.size false).getD p.2 false) = perm := List.filter_eq_self.2 fun p _ => by
    rw [Array.getD_eq_getD_getElem?, Array.getElem?_replicate]
    split <;> rfl
  have := wpAny_of_tr (C := C) hok ops.toArray.size (Array.replicate ops.toArray.size false) s a { w with drawn := w.drawn + 1 } (Q .normal) (by simp)
    (fun j hj => by
      rw [Array.getD_eq_getD_getElem?, Array.getElem?_replicate] at hj
      split at hj <;> simp at hj) (by rw [h0]; simpa using hlen) ⟨r.rs, r.rh.drew _⟩ (by rw [h0]; exact h)
  refine wp_mono (wp_region_any hm this) fun e a' w' ⟨he, s', r', q⟩ => ?_
  subst he
  exact ⟨s', r', q⟩

/-- what must hold behind the first of two -/
def thenQ (N : St → Prop) (Q : Exit → St → Prop) : Exit → St → Prop
  | .normal, s => N s
  | e, s => Q e s

theorem Sat.seq {C : Cx} {x y : Code} {s : St} {Q : Exit → St → Prop} (h : Sat C x s (thenQ (fun s' => Sat C y s' Q) Q)) : Sat C (.seq x y) s Q := by
  intro a w r
  refine wp_seq (wp_mono (h a w r) fun e a' w' ⟨s', r', q⟩ => ?_)
  cases e with
  | normal => exact q a' w' r'
  | _ => exact ⟨s', r', q⟩

theorem Sat.skip {C : Cx} {s : St} {Q : Exit → St → Prop} (h : Q .normal s) : Sat C .skip s Q := fun _ _ r => wp_skip ⟨s, r, h⟩
theorem Sat.ret {C : Cx} {s : St} {Q : Exit → St → Prop} (h : Q .ret s) : Sat C .ret s Q := fun _ _ r => wp_ret ⟨s, r, h⟩
theorem Sat.exit {C : Cx} {id : Nat} {s : St} {Q : Exit → St → Prop} (h : Q (.exit id) s) : Sat C (.exit id) s Q := fun _ _ r => wp_exit ⟨s, r, h⟩
theorem Sat.label {C : Cx} {l : Nat} {s : St} {Q : Exit → St → Prop} (h : Q .normal s) : Sat C (.label l) s Q := fun _ _ r => wp_label ⟨s, r, h⟩
theorem Sat.goto {C : Cx} {l : Nat} {s : St} {Q : Exit → St → Prop} (h : Q (.goto l) s) : Sat C (.goto l) s Q := fun _ _ r => wp_goto ⟨s, r, h⟩

theorem Sat.cond {C : Cx} {c : Operand} {x y : Code} {b : Bool} {s : St} {Q : Exit → St → Prop} (hc : s.ev c = some (.bool b)) (ht : b = true → Sat C x s Q) (hf : b = false → Sat C y s Q) : Sat C (.cond c x y) s Q := by
  intro a w r
  exact wp_cond_split (r.rs.eval hc) (fun h => ht h a w r) (fun h => hf h a w r)

theorem Sat.cond_t {C : Cx} {c : Operand} {x y : Code} {b : Bool} {s : St} {Q : Exit → St → Prop} (hc : s.ev c = some (.bool b)) (hb : b = true) (ht : Sat C x s Q) : Sat C (.cond c x y) s Q :=
  Sat.cond hc (fun _ => ht) fun h => by rw [hb] at h; cases h

theorem Sat.cond_f {C : Cx} {c : Operand} {x y : Code} {b : Bool} {s : St} {Q : Exit → St → Prop} (hc : s.ev c = some (.bool b)) (hb : b = false) (hf : Sat C y s Q) : Sat C (.cond c x y) s Q :=
  Sat.cond hc (fun h => by rw [hb] at h; cases h) fun _ => hf

def atBlock (id : Nat) (Q : Exit → St → Prop) : Exit → St → Prop
  | .exit i, s => bif Nat.beq i id then Q .normal s else Q (.exit i) s
  | e, s => Q e s

theorem Sat.block {C : Cx} {id : Nat} {x : Code} {s : St} {Q : Exit → St → Prop} (h : Sat C x s (atBlock id Q)) : Sat C (.block id x) s Q := by
  intro a w r
  refine wp_block (wp_mono (h a w r) fun e a' w' ⟨s', r', q⟩ => ?_)
  cases e with
  | exit i =>
    simp only [atBlock] at q
    simp only [Exit.inBlock]
    by_cases hi : i = id
    · subst hi
      simp only [if_true]
      exact ⟨s', r', by simpa using q⟩
    · rw [if_neg hi]
      have : Nat.beq i id = false := by
        cases hb : Nat.beq i id
        · rfl
        · exact absurd (Nat.eq_of_beq_eq_true hb) hi
      rw [this] at q
      exact ⟨s', r', q⟩
  | _ => exact ⟨s', r', q⟩

/-- s says all that s' says -/
structure Weak (s s' : St) : Prop where
  sl : ∀ p ∈ s'.sl, look s.sl p.1 = some p.2
  hp : ∀ b ∈ s'.hp, b ∈ s.hp
  nodup : (s.hp.map (·.n)).Nodup → (s'.hp.map (·.n)).Nodup

theorem Rep.weak {C : Cx} {s s' : St} {a : Act} {w : World} (r : Rep C s a w) (h : Weak s s') : Rep C s' a w :=
  ⟨⟨r.rs.size, r.rs.defers, fun t v ht => r.rs.slots t v (h.sl _ (look_mem ht))⟩, r.rh.sub h.hp (h.nodup r.rh.nodup)⟩

theorem Sat.weak {C : Cx} {code : Code} {s s' : St} {Q : Exit → St → Prop} (hw : Weak s s') (h : Sat C code s' Q) : Sat C code s Q := fun a w r => h a w (r.weak hw)

def wkl (sl : List (Nat × Value)) : List (Nat × Value) → Prop
  | [] => True
  | (t, v) :: l => look sl t = some v ∧ wkl sl l
def whl (hp : List Blk) : List Blk → Prop
  | [] => True
  | b :: l => b ∈ hp ∧ whl hp l
theorem wk0 {sl : List (Nat × Value)} : wkl sl [] := trivial
theorem wk1 {sl l : List (Nat × Value)} {t : Nat} {v : Value} (h : look sl t = some v) (k : wkl sl l) : wkl sl ((t, v) :: l) := ⟨h, k⟩
theorem wh0 {hp : List Blk} : whl hp [] := trivial
theorem wh1 {hp l : List Blk} {b : Blk} (h : b ∈ hp) (k : whl hp l) : whl hp (b :: l) := ⟨h, k⟩

theorem wkl_mem {sl : List (Nat × Value)} : ∀ {l : List (Nat × Value)}, wkl sl l → ∀ p ∈ l, look sl p.1 = some p.2
  | [], _, p, hp => by cases hp
  | (t, v) :: l, h, p, hp => by
    rcases List.mem_cons.1 hp with rfl | hp
    · exact h.1
    · exact wkl_mem h.2 p hp
theorem whl_mem {hp : List Blk} : ∀ {l : List Blk}, whl hp l → ∀ b ∈ l, b ∈ hp
  | [], _, b, hb => by cases hb
  | x :: l, h, b, hb => by
    rcases List.mem_cons.1 hb with rfl | hb
    · exact h.1
    · exact whl_mem h.2 b hb
/-- the names of some blocks stand, in order, among those of others -/
def NSub (hp' hp : List Blk) : Prop := (hp'.map (·.n)).Sublist (hp.map (·.n))
theorem ns_nil {hp : List Blk} : NSub [] hp := List.nil_sublist _
theorem ns_keep {b' b : Blk} {l' l : List Blk} (h : b'.n = b.n) (k : NSub l' l) : NSub (b' :: l') (b :: l) := by
  unfold NSub at *; rw [List.map_cons, List.map_cons, h]; exact List.Sublist.cons_cons _ k
theorem ns_skip {b : Blk} {l' l : List Blk} (k : NSub l' l) : NSub l' (b :: l) := by
  unfold NSub at *; rw [List.map_cons]; exact List.Sublist.cons _ k
theorem weak_of {sl sl' : List (Nat × Value)} {hp hp' : List Blk} (h1 : wkl sl sl') (h2 : whl hp hp') (h3 : NSub hp' hp) : Weak ⟨sl, hp⟩ ⟨sl', hp'⟩ :=
  ⟨wkl_mem h1, whl_mem h2, fun h => List.Nodup.sublist h3 h⟩

/-- ways that meet again -/
theorem Sat.join {C : Cx} {x y : Code} {s : St} {Q : Exit → St → Prop} {ι : Type} (S : ι → St) (I : ι → Prop) (h1 : Sat C x s (thenQ (fun s' => ∃ i, I i ∧ Weak s' (S i)) Q)) (h2 : ∀ i, I i → Sat C y (S i) Q) : Sat C (.seq x y) s Q := by
  refine Sat.seq fun a w r => wp_mono (h1 a w r) fun e a' w' ⟨s', r', q⟩ => ?_
  cases e with
  | normal =>
    obtain ⟨i, hi, hw⟩ := q
    exact ⟨S i, r'.weak hw, h2 i hi⟩
  | _ => exact ⟨s', r', q⟩

theorem Sat.condP {C : Cx} {c : Operand} {x y : Code} {p : Prop} [Decidable p] {s : St} {Q : Exit → St → Prop} (hc : s.ev c = some (.bool (decide p))) (ht : p → Sat C x s Q) (hf : ¬p → Sat C y s Q) : Sat C (.cond c x y) s Q :=
  .cond hc (fun h => ht (of_decide_eq_true h)) fun h => hf (of_decide_eq_false h)
theorem Sat.condNP {C : Cx} {c : Operand} {x y : Code} {p : Prop} [Decidable p] {s : St} {Q : Exit → St → Prop} (hc : s.ev c = some (.bool (!decide p))) (ht : ¬p → Sat C x s Q) (hf : p → Sat C y s Q) : Sat C (.cond c x y) s Q :=
  .cond hc (fun h => ht (of_decide_eq_false (by simpa using h))) fun h => hf (of_decide_eq_true (by simpa using h))

/-- a loop: a family of states, a measure -/
theorem Sat.loop {C : Cx} {body : Code} {Q : Exit → St → Prop} {ι : Type} (S : ι → St) (I : ι → Prop) (μ : ι → Nat) {s : St} (i0 : ι) (h0 : I i0) (hs : Weak s (S i0))
    (round : ∀ i, I i → Sat C body (S i) (thenQ (fun s' => ∃ j, I j ∧ μ j < μ i ∧ Weak s' (S j)) Q)) : Sat C (.loop body) s Q := by
  intro a w r
  refine wp_loop_ghost (fun n a w => ∃ i, I i ∧ μ i = n ∧ Rep C (S i) a w) (μ i0) ⟨i0, h0, rfl, r.weak hs⟩ fun n a w ⟨i, hi, hn, r⟩ => ?_
  refine wp_mono (round i hi a w r) fun e a' w' ⟨s', r', q⟩ => ?_
  cases e with
  | normal =>
    obtain ⟨j, hj, hlt, hw⟩ := q
    exact ⟨μ j, by omega, j, hj, rfl, r'.weak hw⟩
  | _ => exact ⟨s', r', q⟩

theorem at_n {N : St → Prop} {Q : Exit → St → Prop} {s : St} (h : N s) : thenQ N Q .normal s := h
theorem at_x {N : St → Prop} {Q : Exit → St → Prop} {i : Nat} {s : St} (h : Q (.exit i) s) : thenQ N Q (.exit i) s := h
theorem at_r {N : St → Prop} {Q : Exit → St → Prop} {s : St} (h : Q .ret s) : thenQ N Q .ret s := h
theorem at_g {N : St → Prop} {Q : Exit → St → Prop} {l : Nat} {s : St} (h : Q (.goto l) s) : thenQ N Q (.goto l) s := h
theorem bl_n {id : Nat} {Q : Exit → St → Prop} {s : St} (h : Q .normal s) : atBlock id Q .normal s := h
theorem bl_r {id : Nat} {Q : Exit → St → Prop} {s : St} (h : Q .ret s) : atBlock id Q .ret s := h
theorem bl_g {id l : Nat} {Q : Exit → St → Prop} {s : St} (h : Q (.goto l) s) : atBlock id Q (.goto l) s := h
theorem bl_h {id : Nat} {Q : Exit → St → Prop} {s : St} (h : Q .normal s) : atBlock id Q (.exit id) s := by
  have : Nat.beq id id = true := by simp
  simp only [atBlock, this]; exact h
theorem bl_x {id i : Nat} {Q : Exit → St → Prop} {s : St} (hi : Nat.beq i id = false) (h : Q (.exit i) s) : atBlock id Q (.exit i) s := by
  simp only [atBlock, hi]; exact h

/-! ### blocks that stay as they are -/

theorem sp_n : ([] : List Blk).Perm ([] ++ []) := .refl _
theorem sp_v {x : Blk} {l A K : List Blk} (h : l.Perm (A ++ K)) : (x :: l).Perm ((x :: A) ++ K) := .cons x h
theorem sp_k {x : Blk} {l A K : List Blk} (h : l.Perm (A ++ K)) : (x :: l).Perm (A ++ (x :: K)) := (List.Perm.cons x h).trans List.perm_middle.symm
def Cx.with (C : Cx) (K : List Blk) : Cx := ⟨C.P, C.W0, C.N, C.lent, K, C.ds⟩

theorem Sat.withK {C : Cx} {code : Code} {sl : List (Nat × Value)} {hp A K : List Blk} {Q : Exit → St → Prop} (hsp : hp.Perm (A ++ K)) (hC : C.kb = []) (h : Sat (C.with K) code ⟨sl, A⟩ (fun e s' => Q e ⟨s'.sl, s'.hp ++ K⟩)) : Sat C code ⟨sl, hp⟩ Q := by
  intro a w r
  have hh := r.rh.perm hsp
  have hnd := hh.nodup
  rw [List.map_append, List.nodup_append] at hnd
  refine wp_mono (h a w ⟨⟨r.rs.size, r.rs.defers, r.rs.slots⟩, ⟨fun b hb => hh.cells b (List.mem_append.2 (.inl hb)), hnd.1, fun b hb => hh.own b (List.mem_append.2 (.inl hb)), hh.keeps, fun b hb => hh.cells b (List.mem_append.2 (.inr hb)),
    fun b hb k hk => hnd.2.2 b.n (List.mem_map.2 ⟨b, hb, rfl⟩) k.n (List.mem_map.2 ⟨k, hk, rfl⟩)⟩⟩) fun e a' w' ⟨s', r', q⟩ => ?_
  refine ⟨⟨s'.sl, s'.hp ++ K⟩, ⟨⟨r'.rs.size, r'.rs.defers, r'.rs.slots⟩, ⟨fun b hb => ?_, ?_, fun b hb => ?_, r'.rh.keeps, (by rw [hC]; intro _ h; cases h), (by rw [hC]; intro _ _ _ h; cases h)⟩⟩, q⟩
  · rcases List.mem_append.1 hb with hb | hb
    · exact r'.rh.cells b hb
    · exact r'.rh.kok b hb
  · rw [List.map_append, List.nodup_append]
    refine ⟨r'.rh.nodup, hnd.2.1, fun i hi j hj => ?_⟩
    obtain ⟨x, hx, rfl⟩ := List.mem_map.1 hi
    obtain ⟨y, hy, rfl⟩ := List.mem_map.1 hj
    exact r'.rh.kd x hx y hy
  · rcases List.mem_append.1 hb with hb | hb
    · exact r'.rh.own b hb
    · exact hh.own b (List.mem_append.2 (.inr hb))

/-! ### a whole call -/

def argSlots : Nat → List Value → List (Nat × Value)
  | _, [] => []
  | k, v :: l => (k, v) :: argSlots (k + 1) l

theorem argSlots_look : ∀ (l : List Value) (k t : Nat) (v : Value), look (argSlots k l) t = some v → k ≤ t ∧ l[t - k]? = some v
  | [], k, t, v, h => by simp [argSlots, look] at h
  | x :: l, k, t, v, h => by
    by_cases hk : k = t
    · subst hk
      rw [argSlots, look_cons_eq] at h
      simp at h
      simp [h]
    · rw [argSlots, look_cons_ne _ _ hk] at h
      have := argSlots_look l (k + 1) t v h
      refine ⟨by omega, ?_⟩
      have e : t - k = (t - (k + 1)) + 1 := by omega
      rw [e, List.getElem?_cons_succ]
      exact this.2

/-- the results of a function in a state -/
def Res (C : Cx) (fn : Func) (s : St) (v : Value) : Prop := ∀ a w, Rep C s a w → (results fn a.tmps).run C.P w = .ok v w

def endAt (C : Cx) (fn : Func) (R : Value → List Blk → Prop) (s : St) : Prop :=
  ∃ v out, Res C fn s v ∧ (∀ b ∈ out, b ∈ s.hp) ∧ ((s.hp.map (·.n)).Nodup → (out.map (·.n)).Nodup) ∧ R v out

/-- what must hold at a function's end -/
def endQ (C : Cx) (fn : Func) (R : Value → List Blk → Prop) : Exit → St → Prop
  | .normal, s | .ret, s => endAt C fn R s
  | _, _ => False

theorem en_n {C : Cx} {fn : Func} {R : Value → List Blk → Prop} {s : St} (h : endAt C fn R s) : endQ C fn R .normal s := h
theorem en_r {C : Cx} {fn : Func} {R : Value → List Blk → Prop} {s : St} (h : endAt C fn R s) : endQ C fn R .ret s := h

theorem HRep.nil (C : Cx) (hk : C.kb = [] := by rfl) : HRep C [] C.W0 := ⟨fun _ h => (by cases h), List.nodup_nil, fun _ h => (by cases h), Keeps.refl _ _, (by rw [hk]; intro _ h; cases h), fun _ h => (by cases h)⟩

theorem calls_of {P : Program} {f : FuncId} {fn : Func} {code : Code} {args : List Value} {W : World} {lent : List Nat} {hp0 : List Blk} {R : Value → List Blk → Prop}
    (hf : P.funcs[f]? = some fn) (hb : fn.body = some code) (N : Nat) (hN : fn.ntmps = N) (hlen : Nat.ble args.length N = true)
    (hh : HRep ⟨P, W, N, lent, [], []⟩ hp0 W)
    (h : Sat ⟨P, W, N, lent, [], []⟩ code ⟨argSlots 0 args, hp0⟩ (endQ ⟨P, W, N, lent, [], []⟩ fn R)) :
    Calls P f args.toArray W fun e W' => ∃ v out, e = .returned v ∧ R v out ∧ Ret lent out W W' := by
  have hlen := Nat.le_of_ble_eq_true hlen
  subst hN
  refine calls_of_wp hf hb (wp_mono (h _ _ ⟨⟨?_, rfl, fun t v ht => ?_⟩, hh⟩) fun e a' w' ⟨s', r', q⟩ => ?_)
  · simp; omega
  · have := argSlots_look args 0 t v ht
    rw [Array.getElem?_append]
    have hlt : t < args.length := by
      rcases Nat.lt_or_ge t args.length with h1 | h1
      · exact h1
      · rw [List.getElem?_eq_none (by omega)] at this; cases this.2
    simp only [List.size_toArray]
    rw [if_pos hlt]
    simpa using this.2
  · have fin : (∃ v out, Res ⟨P, W, fn.ntmps, lent, [], []⟩ fn s' v ∧ (∀ b ∈ out, b ∈ s'.hp) ∧ ((s'.hp.map (·.n)).Nodup → (out.map (·.n)).Nodup) ∧ R v out) →
        a'.defers = [] ∧ ∃ v, (results fn a'.tmps).run P w' = .ok v w' ∧ ∃ v' out, Ending.returned v = .returned v' ∧ R v' out ∧ Ret lent out W w' := by
      rintro ⟨v, out, hr, hsub, hnd, hR⟩
      exact ⟨r'.rs.defers, v, hr a' w' r', v, out, rfl, hR, r'.rh.keeps, fun b hb => r'.rh.cells b (hsub b hb), hnd r'.rh.nodup, fun b hb => r'.rh.own b (hsub b hb)⟩
    cases e with
    | normal => exact fin q
    | ret => exact fin q
    | _ => exact q.elim

end Hw
