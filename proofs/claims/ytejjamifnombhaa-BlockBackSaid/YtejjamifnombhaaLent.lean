/- Calls that are lent blocks of one's own. It proves no statement by itself; it has no conditions. -/
import Derived.Test.YtejjamifnombhaaRowL
namespace Hw
open Go Go.RowKit
set_option linter.unusedSimpArgs false
set_option linter.unusedVariables false

theorem HRep.lentRet {C : Cx} {hp L rest out : List Blk} {lent : List Nat} {w w' : World} (hh : HRep C hp w) (hsp : hp.Perm (L ++ rest)) (hl : ∀ n ∈ lent, ∃ b ∈ L, b.n = n) (hret : Ret lent out w w') : HRep C (out ++ rest) w' := by
  have h1 := hh.perm hsp
  have hnd := h1.nodup
  rw [List.map_append, List.nodup_append] at hnd
  have inL : ∀ n ∈ lent, C.W0.heap.size ≤ n ∨ n ∈ C.lent := fun n hn => by
    obtain ⟨b, hb, rfl⟩ := hl n hn
    exact h1.own b (List.mem_append.2 (.inl hb))
  have notR : ∀ b ∈ rest, b.n ∉ lent := fun b hb hn => by
    obtain ⟨x, hx, e⟩ := hl _ hn
    exact hnd.2.2 x.n (List.mem_map.2 ⟨x, hx, rfl⟩) b.n (List.mem_map.2 ⟨b, hb, rfl⟩) e
  have notK : ∀ k ∈ C.kb, k.n ∉ lent := fun k hk hn => by
    obtain ⟨x, hx, e⟩ := hl _ hn
    exact h1.kd x (List.mem_append.2 (.inl hx)) k hk e
  have hsz := hh.keeps.size
  refine ⟨fun b hb => ?_, ?_, fun b hb => ?_, ?_, fun k hk => ?_, fun b hb k hk => ?_⟩
  · rcases List.mem_append.1 hb with hb | hb
    · exact hret.cells b hb
    · have := h1.cells b (List.mem_append.2 (.inr hb))
      exact this.of_heap (hret.keeps.block b.n this.lt (notR b hb))
  · rw [List.map_append, List.nodup_append]
    refine ⟨hret.nodup, hnd.2.1, fun i hi j hj => ?_⟩
    obtain ⟨x, hx, rfl⟩ := List.mem_map.1 hi
    obtain ⟨y, hy, rfl⟩ := List.mem_map.1 hj
    rcases hret.own x hx with h | h
    · have := (h1.cells y (List.mem_append.2 (.inr hy))).lt
      omega
    · exact fun e => notR y hy (e ▸ h)
  · rcases List.mem_append.1 hb with hb | hb
    · rcases hret.own b hb with h | h
      · exact .inl (by omega)
      · exact inL _ h
    · exact h1.own b (List.mem_append.2 (.inr hb))
  · refine ⟨hret.keeps.os.trans hh.keeps.os, hret.keeps.tape.trans hh.keeps.tape, hret.keeps.output.trans hh.keeps.output, Nat.le_trans hsz hret.keeps.size, fun i hi hn => ?_⟩
    refine (hret.keeps.block i (by omega) fun h => ?_).trans (hh.keeps.block i hi hn)
    rcases inL i h with h | h
    · omega
    · exact hn h
  · have := hh.kok k hk
    exact this.of_heap (hret.keeps.block k.n this.lt (notK k hk))
  · rcases List.mem_append.1 hb with hb | hb
    · rcases hret.own b hb with h | h
      · have := (hh.kok k hk).lt
        omega
      · exact fun e => notK k hk (e ▸ h)
    · exact h1.kd b (List.mem_append.2 (.inr hb)) k hk

section
variable {C : Cx} {ops : Array Oper} {rest : List (Nat × Oper)} {sl : List (Nat × Value)} {hp : List Blk} {Q : St → Prop} {c d : Nat} {ty : TypeId} {pos : String} {af : Array Edge} {g : Option (Nat × Bool)}
variable {f : Operand} {fid : FuncId} {as : List Operand} {ats : Array TypeId} {vs : List Value}

/-- a call that is lent the blocks L -/
theorem Tr.callL {Pre : World → Prop} {R : Value → List Blk → Prop} {lent : List Nat} {L keep : List Blk} (hg : guardOk ops sl g = true) (hk : Nat.beq c 4 = true) (hd : Nat.blt d C.N = true) (hfn : evIn sl f = some (.func (.func fid) #[] #[])) (hargs : evs sl as = some vs) (hb : Body C.P fid)
    (hc : Meets C.P fid vs lent Pre R) (hsp : hp.Perm (L ++ keep)) (hl : ∀ n ∈ lent, ∃ b ∈ L, b.n = n) (hpre : ∀ w, HRep C hp w → Pre w)
    (k : ∀ v out, R v out → Tr C ops rest ⟨(d, v) :: sl, out ++ keep⟩ Q) : Tr C ops ((c, ⟨some d, .call ⟨.value f, as.toArray, ats⟩, ty, pos, af, g⟩) :: rest) ⟨sl, hp⟩ Q := by
  refine Tr.act (ρ := Value × List Blk) (fun r => R r.1 r.2) (·.1) (fun r => r.2 ++ keep) (nbeq' hk) (wantS_of_guardOk hg) (dst_some (nblt hd)) ⟨known_call hfn hargs, fun a w hf hh => ?_⟩ (fun r hr => k r.1 r.2 hr)
  unfold Oper.wp
  rw [run_call hfn hargs hf, hb]
  refine (hc w (hpre w hh)).mono fun e w' ⟨v, out, he, hR, hret⟩ => ?_
  subst he
  exact ⟨(v, out), hR, rfl, hh.lentRet hsp hl hret⟩
end

/-! ### function values with captured variables -/
section
variable {C : Cx} {ops : Array Oper} {rest : List (Nat × Oper)} {sl : List (Nat × Value)} {hp : List Blk} {Q : St → Prop} {c d : Nat} {ty : TypeId} {pos : String} {af : Array Edge} {g : Option (Nat × Bool)}
variable {f : Operand} {fid : FuncId} {as : List Operand} {ats : Array TypeId} {vs us : List Value} {fst cap : Array Value}

theorem known_callC (hfn : evIn sl f = some (.func (.func fid) fst cap)) (hargs : evs sl as = some vs) : Known sl ⟨some d, .call ⟨.value f, as.toArray, ats⟩, ty, pos, af, g⟩ := by
  intro x hx
  simp [Op.operands, Call.operands] at hx
  rcases hx with rfl | hx
  · simp [hfn]
  · exact evs_known hargs x hx

theorem run_callC {ρ : Operand → Value} {w : World} (hfn : evIn sl f = some (.func (.func fid) fst cap)) (hargs : evs sl as = some vs) (hus : fst.toList ++ vs ++ cap.toList = us)
    (hf : Fits sl ⟨some d, .call ⟨.value f, as.toArray, ats⟩, ty, pos, af, g⟩ ρ) :
    (execOp ρ ⟨some d, .call ⟨.value f, as.toArray, ats⟩, ty, pos, af, g⟩).run C.P w = (callFunc fid us.toArray).run C.P w := by
  have h1 := hf f (by simp [Op.operands, Call.operands]); rw [hfn] at h1
  simp only [Option.some.injEq] at h1
  have h2 := evs_map hargs fun x hx => hf x (by simp [Op.operands, Call.operands, hx])
  have e : fst ++ vs.toArray ++ cap = us.toArray := by rw [← hus]; simp
  simp [execOp, resolve, Deferred.ofValue, ← h1, h2, invoke]
  rw [← e, Array.append_assoc]

theorem Tr.callC {Pre : World → Prop} {R : Value → List Blk → Prop} (hg : guardOk ops sl g = true) (hk : okG c d C.N = true) (hfn : evIn sl f = some (.func (.func fid) fst cap)) (hargs : evs sl as = some vs) (hus : fst.toList ++ vs ++ cap.toList = us) (hb : Body C.P fid)
    (hc : Meets C.P fid us [] Pre R) (hl : Loose R) (hpre : ∀ w, HRep C hp w → Pre w)
    (k : ∀ v out, R v out → Tr C ops rest ⟨(d, v) :: sl, out ++ hp⟩ Q) : Tr C ops ((c, ⟨some d, .call ⟨.value f, as.toArray, ats⟩, ty, pos, af, g⟩) :: rest) ⟨sl, hp⟩ Q := by
  simp only [okG, Bool.and_eq_true, Bool.or_eq_true] at hk
  refine Tr.grow (ρ := Value × List Blk) (fun r => R r.1 r.2) (·.1) (·.2) (hk.1.imp nbeq' nbeq') (wantS_of_guardOk hg) (dst_some (nblt hk.2)) ⟨known_callC hfn hargs, fun l hn => ?_, fun a w hf hh => ?_⟩ (fun r hr => k r.1 r.2 hr)
  · obtain ⟨v, out, h1, h2⟩ := hl l hn
    exact ⟨(v, out), h1, h2⟩
  unfold Oper.wp
  rw [run_callC hfn hargs hus hf, hb]
  refine (hc w (hpre w hh)).mono fun e w' ⟨v, out, he, hR, hret⟩ => ?_
  subst he
  exact ⟨(v, out), hR, rfl, hret⟩

theorem Tr.callCL {Pre : World → Prop} {R : Value → List Blk → Prop} {lent : List Nat} {L keep : List Blk} (hg : guardOk ops sl g = true) (hk : Nat.beq c 4 = true) (hd : Nat.blt d C.N = true) (hfn : evIn sl f = some (.func (.func fid) fst cap)) (hargs : evs sl as = some vs) (hus : fst.toList ++ vs ++ cap.toList = us) (hb : Body C.P fid)
    (hc : Meets C.P fid us lent Pre R) (hsp : hp.Perm (L ++ keep)) (hl : ∀ n ∈ lent, ∃ b ∈ L, b.n = n) (hpre : ∀ w, HRep C hp w → Pre w)
    (k : ∀ v out, R v out → Tr C ops rest ⟨(d, v) :: sl, out ++ keep⟩ Q) : Tr C ops ((c, ⟨some d, .call ⟨.value f, as.toArray, ats⟩, ty, pos, af, g⟩) :: rest) ⟨sl, hp⟩ Q := by
  refine Tr.act (ρ := Value × List Blk) (fun r => R r.1 r.2) (·.1) (fun r => r.2 ++ keep) (nbeq' hk) (wantS_of_guardOk hg) (dst_some (nblt hd)) ⟨known_callC hfn hargs, fun a w hf hh => ?_⟩ (fun r hr => k r.1 r.2 hr)
  unfold Oper.wp
  rw [run_callC hfn hargs hus hf, hb]
  refine (hc w (hpre w hh)).mono fun e w' ⟨v, out, he, hR, hret⟩ => ?_
  subst he
  exact ⟨(v, out), hR, rfl, hh.lentRet hsp hl hret⟩

theorem Tr.makeFunc {fn : Fn} {as bs : List Operand} {us vs : List Value} (hg : guardOk ops sl g = true) (hk : okD c d C.N = true) (ha : evs sl as = some us) (hb : evs sl bs = some vs)
    (k : Tr C ops rest ⟨(d, .func fn us.toArray vs.toArray) :: sl, hp⟩ Q) : Tr C ops ((c, ⟨some d, .makeFunc fn as.toArray bs.toArray, ty, pos, af, g⟩) :: rest) ⟨sl, hp⟩ Q :=
  .pv hg hk ⟨fun x hx => by
    simp [Op.operands] at hx
    rcases hx with hx | hx
    · exact evs_known ha x hx
    · exact evs_known hb x hx, fun ρ hf w => by
    have h1 := evs_map ha fun x hx => hf x (by simp [Op.operands, hx])
    have h2 := evs_map hb fun x hx => hf x (by simp [Op.operands, hx])
    simp [execOp, Instr.makeFunc, h1, h2]⟩ k
end

/-- the state that a lent call begins with -/
theorem HRep.one {P : Program} {W : World} {N : Nat} {B : Blk} (h : BlkOk W B) : HRep ⟨P, W, N, [B.n], [], []⟩ [B] W :=
  ⟨fun b hb => by rw [List.mem_singleton.1 hb]; exact h, by simp, fun b hb => by rw [List.mem_singleton.1 hb]; exact .inr List.mem_cons_self, Keeps.refl _ _, fun _ h => (by cases h), fun _ _ _ h => (by cases h)⟩
theorem own_blk {C : Cx} {hp : List Blk} {w : World} {B : Blk} (h : HRep C hp w) (hb : B ∈ hp) : BlkOk w B := h.cells B hb
end Hw
