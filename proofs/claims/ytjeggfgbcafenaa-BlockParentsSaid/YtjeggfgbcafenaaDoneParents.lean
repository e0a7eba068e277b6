/- headwaterlaw15.BlockParents returns true at every input, and all that it reads reads behind the call as before. Conditions: none beyond the given statement's own. -/
import Derived.Test.YtjeggfgbcafenaaParents
import Derived.Test.YtjeggfgbcafenaaOpen
import Derived.Test.YtjeggfgbcafenaaROpen
import Derived.Test.YtjeggfgbcafenaaRows
import Derived.WalkKit
import Derived.ProofKit
import Derived.OpenShut
import Derived.ChangeOld
import Derived.Below
namespace Go.Proofs.Ytjeggfgbcafenaa
open Go Go.ChangeShapes Go.WideShapes Go.ChangeAt Go.RowKit
set_option linter.unusedVariables false

theorem ownParents : ownKnob Try.prog.godebug = none := by kernel_rfl
theorem laidOutParents : laidOutB Try.prog = true := by kernel_rfl

theorem walkParents (w : World) (x0 : Block) (ok0 : x0.ok) (ls0 : List (List UInt8)) (hls0 : Hw.RowsAt w x0.fLinks 32 ls0) (ld0 : List UInt8) (hld0 : Hw.BytesAt w x0.fData ld0) (l1 : List UInt8) (hl1 : l1.length = 32) (l2 : List UInt8) (hl2 : l2.length = 32) (l3 : List UInt8) (hl3 : l3.length = 32) : Calls Try.prog 3 #[Hw.agg x0.cells, Hw.agg (Hw.bytesV l1), Hw.agg (Hw.bytesV l2), Hw.agg (Hw.bytesV l3)] w fun e w' => e = .returned (.bool true) ∧ Below w.heap.size w w' :=
  by
  have fin : ∀ {us : Array Value}, Calls Try.prog 3 us w (fun e W' => ∃ v out, e = .returned v ∧ (v = .bool true ∧ out = []) ∧ Hw.Ret [] out w W') → Calls Try.prog 3 us w (fun e w' => e = .returned (.bool true) ∧ Below w.heap.size w w') :=
    fun h => h.mono fun e w' ⟨v, out, he, ⟨hv, ho⟩, hr⟩ => ⟨by rw [he, hv], Hw.Keeps.below hr.keeps⟩
  by_cases hs : (x0.fSeq.toNat : Int) = 0
  · by_cases h0 : x0.fLinks.n = 0
    · exact fin (law_parents_nil x0 ok0 ls0 ld0 l1 l2 l3 hl1 hl2 hl3 hs h0 w ⟨hls0, hld0⟩)
    · exact fin (law_parents_z x0 ok0 ls0 ld0 l1 l2 l3 hl1 hl2 hl3 hs (by omega) w ⟨hls0, hld0⟩)
  · exact fin (law_parents_s x0 ok0 ls0 ld0 l1 l2 l3 hl1 hl2 hl3 hs w ⟨hls0, hld0⟩)

set_option maxRecDepth 100000 in
theorem liftedParents (os : Os) (started : os.Started) (H : Type) (enc : TypeId × Value → H) :
    ReturnsInHanded {} Try.checked os 3 .any (Rows.blockParentsSpec.pre6 enc Try.prog Try.f3 Rows.blockParentsRow.domain false) (Rows.blockParentsSpec.post enc Try.prog Try.f3 false true false false) := by
  refine returnsInHanded_of_change (C := Try.checked) ownParents started (by kernel_rfl) Try.func3
    (ChangeSpec.witness6 (enc := enc) (C := Try.checked) false ⟨#[], #[.agg (Array.replicate 32 (.int .u8 0) ++ #[.int .u64 0] ++ Array.replicate 32 (.int .u8 0) ++ #[.slice none 0 0, .slice none 0 0] ++ Array.replicate 64 (.int .u8 0)), .agg (Array.replicate 32 (.int .u8 0)), .agg (Array.replicate 32 (.int .u8 0)), .agg (Array.replicate 32 (.int .u8 0))], []⟩ 8 (by kernel_rfl) (by kernel_rfl) (by kernel_rfl) (by kernel_rfl)) ?_
  intro W base args ds gs before hval0 hW hcnd _
  have hval : ∀ (j : Nat) t v, Try.f3.params[j]? = some t → args[j]? = some v → Value.okWide Try.prog W .any base t v := hval0
  have hW' := hW
  obtain ⟨p, q, hA0, hV, rfl, hfz, hnd⟩ := hW
  have hA : DataW.TrodAll enc Try.prog W 0 (fun _ => true) true Try.f3.params.toList args.toList ds p := hA0
  rw [Try.params3] at hA hval
  obtain ⟨v0, vs0, d0, ds0, p0, q0, hargs, rfl, rfl, h0, r0⟩ := trodAll_cons hA
  obtain ⟨v1, vs1, d1, ds1, p1, q1, rfl, rfl, rfl, h1, r1⟩ := trodAll_cons r0
  obtain ⟨v2, vs2, d2, ds2, p2, q2, rfl, rfl, rfl, h2, r2⟩ := trodAll_cons r1
  obtain ⟨v3, vs3, d3, ds3, p3, q3, rfl, rfl, rfl, h3, r3⟩ := trodAll_cons r2
  obtain ⟨rfl, rfl, rfl⟩ := trodAll_nil r3
  obtain rfl : args = #[v0, v1, v2, v3] := by cases args; simp_all
  obtain ⟨rfl, rfl⟩ := trodVars_none hV
  have k0 := h0
  have lt0 : ∀ x ∈ p0, x.block < W.heap.size := by obtain ⟨m, hm⟩ := k0; exact DataW.trod_lt m _ _ _ hm
  have k1 := h1
  have lt1 : ∀ x ∈ p1, x.block < W.heap.size := by obtain ⟨m, hm⟩ := k1; exact DataW.trod_lt m _ _ _ hm
  have k2 := h2
  have lt2 : ∀ x ∈ p2, x.block < W.heap.size := by obtain ⟨m, hm⟩ := k2; exact DataW.trod_lt m _ _ _ hm
  have k3 := h3
  have lt3 : ∀ x ∈ p3, x.block < W.heap.size := by obtain ⟨m, hm⟩ := k3; exact DataW.trod_lt m _ _ _ hm
  obtain ⟨x0, ok0, rfl, xx0⟩ := Block.openV (hval 0 31 v0 rfl rfl) h0
  obtain ⟨⟨ls0, hls0⟩, ⟨ld0, hld0⟩⟩ := xx0
  obtain ⟨l1, rfl, hl1⟩ := Hw.open_bytes Try.underlying25 Try.underlying5 (by kernel_rfl) (by kernel_rfl) (hval 1 25 v1 rfl rfl) h1
  obtain ⟨l2, rfl, hl2⟩ := Hw.open_bytes Try.underlying25 Try.underlying5 (by kernel_rfl) (by kernel_rfl) (hval 2 25 v2 rfl rfl) h2
  obtain ⟨l3, rfl, hl3⟩ := Hw.open_bytes Try.underlying25 Try.underlying5 (by kernel_rfl) (by kernel_rfl) (hval 3 25 v3 rfl rfl) h3
  clear hA0 hval0
  refine (walkParents W x0 ok0 ls0 hls0 ld0 hld0 l1 hl1 l2 hl2 l3 hl3).mono fun e W' ⟨he, bel⟩ => ?_
  subst he
  exact ⟨_, rfl, _, _, _, [], _, [], hW', trodAll_mk1 (shut_bool Try.underlying4 _), (trodAll_cons_mk (Below.trod laidOutParents (by kernel_rfl) (of_decide_eq_true (by kernel_rfl)) k0 bel lt0) (trodAll_cons_mk (Below.trod laidOutParents (by kernel_rfl) (of_decide_eq_true (by kernel_rfl)) k1 bel lt1) (trodAll_cons_mk (Below.trod laidOutParents (by kernel_rfl) (of_decide_eq_true (by kernel_rfl)) k2 bel lt2) (trodAll_cons_mk (Below.trod laidOutParents (by kernel_rfl) (of_decide_eq_true (by kernel_rfl)) k3 bel lt3) trodAll_mk0)))), rfl, bel.frame _, fun h => by cases h⟩

theorem blockParents_holds : Rows.BlockParentsSaid :=
  OpenClaim.holds_of_wide 3 Try.f3 rfl rfl rfl rfl rfl rfl rfl ⟨rfl, rfl, rfl, rfl, rfl⟩ rfl rfl rfl rfl rfl (by kernel_rfl) Try.func3 (by kernel_rfl)
    (of_decide_eq_true (by kernel_rfl)) (by unfold Func.isWrapper; first | (rw [if_pos (by decide +kernel)]; kernel_rfl) | (rw [if_neg (by decide +kernel)]; exact ⟨rfl, rfl⟩))
    (fun os started H enc _ => liftedParents os started H enc)

end Go.Proofs.Ytjeggfgbcafenaa
