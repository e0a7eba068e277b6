/- headwaterlaw15.BlockBack returns true at every input, and all that it reads reads behind the call as before. Conditions: none beyond the given statement's own. -/
import Derived.Test.YtejjamifnombhaaBack
import Derived.Test.YtejjamifnombhaaOpen
import Derived.Test.YtejjamifnombhaaROpen
import Derived.Test.YtejjamifnombhaaRows
import Derived.WalkKit
import Derived.ProofKit
import Derived.OpenShut
import Derived.ChangeOld
import Derived.Below
namespace Go.Proofs.Ytejjamifnombhaa
open Go Go.ChangeShapes Go.WideShapes Go.ChangeAt Go.RowKit
set_option linter.unusedVariables false

theorem ownBack : ownKnob Try.prog.godebug = none := by kernel_rfl
theorem laidOutBack : laidOutB Try.prog = true := by kernel_rfl

theorem openSlBack {H : Type} {enc : TypeId × Value → H} {P : Program} {W : World} {base : Nat} {sp : Nat → Bool} {held : Bool} {k e : TypeId} (hu : P.underlying k = some (.slice e)) (he : P.underlying e = some (.int .u8)) (hc : P.cellsOf e = 1) {r : Reach} {b0 : Nat} {v : Value} {d : DataW H} {ps : List MemPlace}
    (hval : Value.okWide P W r b0 k v) (hd : DataW.Trod enc P W base sp held k v d ps) : ∃ s l, v = Hw.Sl.v s ∧ Hw.BytesAt W s l := by
  simp only [Value.okWide, hu, Cell.okWide] at hval
  obtain ⟨a1, len, cap, rfl⟩ : ∃ a1 len cap, v = .slice a1 len cap := by
    unfold Cell.ok at hval
    rw [hu] at hval
    split at hval <;> first | exact hval.elim | exact ⟨_, _, _, rfl⟩ | simp_all
  obtain ⟨fuel, hf⟩ := hd
  obtain ⟨s, l, h1, h2⟩ := Hw.open_bytesS hu he hc hf
  refine ⟨s, l, ?_, h2⟩
  simp [Value.cells] at h1
  exact h1

theorem walkBack (w : World) (x0 : Block) (ok0 : x0.ok) (ls0 : List (List UInt8)) (hls0 : Hw.RowsAt w x0.fLinks 32 ls0) (ld0 : List UInt8) (hld0 : Hw.BytesAt w x0.fData ld0) (x1 : Block) (ok1 : x1.ok) (ls1 : List (List UInt8)) (hls1 : Hw.RowsAt w x1.fLinks 32 ls1) (ld1 : List UInt8) (hld1 : Hw.BytesAt w x1.fData ld1) (s2 : Hw.Sl) (l2 : List UInt8) (hs2 : Hw.BytesAt w s2 l2) : Calls Try.prog 3 #[Hw.agg x0.cells, Hw.agg x1.cells, Hw.Sl.v s2] w fun e w' => e = .returned (.bool true) ∧ Below w.heap.size w w' :=
  by
  have fin : ∀ {us : Array Value}, Calls Try.prog 3 us w (fun e W' => ∃ v out, e = .returned v ∧ (v = .bool true ∧ out = []) ∧ Hw.Ret [] out w W') → Calls Try.prog 3 us w (fun e w' => e = .returned (.bool true) ∧ Below w.heap.size w w') :=
    fun h => h.mono fun e w' ⟨v, out, he, ⟨hv, ho⟩, hr⟩ => ⟨by rw [he, hv], Hw.Keeps.below hr.keeps⟩
  exact fin (law_back x0 x1 ⟨x0.fWriter, x0.fSeq, x0.fPrev, ls0, ld0, x0.fSig⟩ ⟨x1.fWriter, x1.fSeq, x1.fPrev, ls1, ld1, x1.fSig⟩ s2 l2 w ⟨⟨ok0, rfl, rfl, rfl, hls0, hld0, rfl⟩, ⟨ok1, rfl, rfl, rfl, hls1, hld1, rfl⟩, hs2⟩)

set_option maxRecDepth 100000 in
theorem liftedBack (os : Os) (started : os.Started) (H : Type) (enc : TypeId × Value → H) :
    ReturnsInHanded {} Try.checked os 3 .any (Rows.blockBackSpec.pre6 enc Try.prog Try.f3 Rows.blockBackRow.domain false) (Rows.blockBackSpec.post enc Try.prog Try.f3 false true false false) := by
  refine returnsInHanded_of_change (C := Try.checked) ownBack started (by kernel_rfl) Try.func3
    (ChangeSpec.witness6 (enc := enc) (C := Try.checked) false ⟨#[], #[.agg (Array.replicate 32 (.int .u8 0) ++ #[.int .u64 0] ++ Array.replicate 32 (.int .u8 0) ++ #[.slice none 0 0, .slice none 0 0] ++ Array.replicate 64 (.int .u8 0)), .agg (Array.replicate 32 (.int .u8 0) ++ #[.int .u64 0] ++ Array.replicate 32 (.int .u8 0) ++ #[.slice none 0 0, .slice none 0 0] ++ Array.replicate 64 (.int .u8 0)), .slice none 0 0], []⟩ 8 (by kernel_rfl) (by kernel_rfl) (by kernel_rfl) (by kernel_rfl)) ?_
  intro W base args ds gs before hval0 hW hcnd _
  have hval : ∀ (j : Nat) t v, Try.f3.params[j]? = some t → args[j]? = some v → Value.okWide Try.prog W .any base t v := hval0
  have hW' := hW
  obtain ⟨p, q, hA0, hV, rfl, hfz, hnd⟩ := hW
  have hA : DataW.TrodAll enc Try.prog W 0 (fun _ => true) true Try.f3.params.toList args.toList ds p := hA0
  rw [Try.params3] at hA hval
  obtain ⟨v0, vs0, d0, ds0, p0, q0, hargs, rfl, rfl, h0, r0⟩ := trodAll_cons hA
  obtain ⟨v1, vs1, d1, ds1, p1, q1, rfl, rfl, rfl, h1, r1⟩ := trodAll_cons r0
  obtain ⟨v2, vs2, d2, ds2, p2, q2, rfl, rfl, rfl, h2, r2⟩ := trodAll_cons r1
  obtain ⟨rfl, rfl, rfl⟩ := trodAll_nil r2
  obtain rfl : args = #[v0, v1, v2] := by cases args; simp_all
  obtain ⟨rfl, rfl⟩ := trodVars_none hV
  have k0 := h0
  have lt0 : ∀ x ∈ p0, x.block < W.heap.size := by obtain ⟨m, hm⟩ := k0; exact DataW.trod_lt m _ _ _ hm
  have k1 := h1
  have lt1 : ∀ x ∈ p1, x.block < W.heap.size := by obtain ⟨m, hm⟩ := k1; exact DataW.trod_lt m _ _ _ hm
  have k2 := h2
  have lt2 : ∀ x ∈ p2, x.block < W.heap.size := by obtain ⟨m, hm⟩ := k2; exact DataW.trod_lt m _ _ _ hm
  obtain ⟨x0, ok0, rfl, xx0⟩ := Block.openV (hval 0 31 v0 rfl rfl) h0
  obtain ⟨⟨ls0, hls0⟩, ⟨ld0, hld0⟩⟩ := xx0
  obtain ⟨x1, ok1, rfl, xx1⟩ := Block.openV (hval 1 31 v1 rfl rfl) h1
  obtain ⟨⟨ls1, hls1⟩, ⟨ld1, hld1⟩⟩ := xx1
  obtain ⟨s2, l2, rfl, hs2⟩ := openSlBack Try.underlying27 Try.underlying5 (by kernel_rfl) (hval 2 27 v2 rfl rfl) h2
  clear hA0 hval0
  refine (walkBack W x0 ok0 ls0 hls0 ld0 hld0 x1 ok1 ls1 hls1 ld1 hld1 s2 l2 hs2).mono fun e W' ⟨he, bel⟩ => ?_
  subst he
  exact ⟨_, rfl, _, _, _, [], _, [], hW', trodAll_mk1 (shut_bool Try.underlying4 _), (trodAll_cons_mk (Below.trod laidOutBack (by kernel_rfl) (of_decide_eq_true (by kernel_rfl)) k0 bel lt0) (trodAll_cons_mk (Below.trod laidOutBack (by kernel_rfl) (of_decide_eq_true (by kernel_rfl)) k1 bel lt1) (trodAll_cons_mk (Below.trod laidOutBack (by kernel_rfl) (of_decide_eq_true (by kernel_rfl)) k2 bel lt2) trodAll_mk0))), rfl, bel.frame _, fun h => by cases h⟩

theorem blockBack_holds : Rows.BlockBackSaid :=
  OpenClaim.holds_of_wide 3 Try.f3 rfl rfl rfl rfl rfl rfl rfl ⟨rfl, rfl, rfl, rfl, rfl⟩ rfl rfl rfl rfl rfl (by kernel_rfl) Try.func3 (by kernel_rfl)
    (of_decide_eq_true (by kernel_rfl)) (by unfold Func.isWrapper; first | (rw [if_pos (by decide +kernel)]; kernel_rfl) | (rw [if_neg (by decide +kernel)]; exact ⟨rfl, rfl⟩))
    (fun os started H enc _ => liftedBack os started H enc)

end Go.Proofs.Ytejjamifnombhaa
