/- headwaterlaw04.ScalarCalls returns true at every input, and all that it reads reads behind the call as before. Conditions: none beyond the given statement's own. -/
import Derived.Test.YtjeggfgbcafenaaCalls
import Derived.Test.YtjeggfgbcafenaaOpen
import Derived.Test.YtjeggfgbcafenaaRows
import Derived.WalkKit
import Derived.ProofKit
import Derived.OpenShut
import Derived.ChangeOld
import Derived.Below
namespace Go.Proofs.Ytjeggfgbcafenaa
open Go Go.ChangeShapes Go.WideShapes Go.ChangeAt Go.RowKit
set_option linter.unusedVariables false

theorem ownCalls : ownKnob Try.prog.godebug = none := by kernel_rfl
theorem laidOutCalls : laidOutB Try.prog = true := by kernel_rfl

theorem walkCalls (w : World) (l0 : List UInt8) (hl0 : l0.length = 32) (l1 : List UInt8) (hl1 : l1.length = 32) (l2 : List UInt8) (hl2 : l2.length = 32) (v3 : Value) (l3 : List UInt8) (hl3 : Hw.RowArg w v3 l3) (a4 : Int) (w4 : (Lit.int .i64 a4).wf = true) : Calls Try.prog 9 #[Hw.agg (Hw.bytesV l0), Hw.agg (Hw.bytesV l1), Hw.agg (Hw.bytesV l2), v3, Hw.i64 a4] w fun e w' => e = .returned (.bool true) ∧ Below w.heap.size w w' :=
  by
  have fin : ∀ {us : Array Value}, Calls Try.prog 9 us w (fun e W' => ∃ v out, e = .returned v ∧ (v = .bool true ∧ out = []) ∧ Hw.Ret [] out w W') → Calls Try.prog 9 us w (fun e w' => e = .returned (.bool true) ∧ Below w.heap.size w w') :=
    fun h => h.mono fun e w' ⟨v, out, he, ⟨hv, ho⟩, hr⟩ => ⟨by rw [he, hv], Hw.Keeps.below hr.keeps⟩
  rcases hl3 with ⟨rfl, rfl⟩ | ⟨b, o, c, rfl, hc, hs⟩
  · exact fin (law_calls_nil l0 l1 l2 hl0 hl1 hl2 a4 w trivial)
  · by_cases hn : 100 < l3.length
    · exact fin (law_calls_long l0 l1 l2 hl0 hl1 hl2 a4 b o c l3.length hn w trivial)
    · by_cases h64 : 64 < l3.length
      · exact fin (law_calls_big l0 l1 l2 hl0 hl1 hl2 a4 b o c l3.length l3 rfl (by omega) h64 w hs)
      · exact fin (law_calls_in l0 l1 l2 hl0 hl1 hl2 a4 b o c l3.length l3 rfl (by omega) (by omega) w hs)

set_option maxRecDepth 100000 in
theorem liftedCalls (os : Os) (started : os.Started) (H : Type) (enc : TypeId × Value → H) :
    ReturnsInHanded {} Try.checked os 9 .any (Rows.scalarCallsSpec.pre6 enc Try.prog Try.f9 Rows.scalarCallsRow.domain false) (Rows.scalarCallsSpec.post enc Try.prog Try.f9 false true false false) := by
  refine returnsInHanded_of_change (C := Try.checked) ownCalls started (by kernel_rfl) Try.func9
    (ChangeSpec.witness6 (enc := enc) (C := Try.checked) false ⟨#[], #[.agg (Array.replicate 32 (.int .u8 0)), .agg (Array.replicate 32 (.int .u8 0)), .agg (Array.replicate 32 (.int .u8 0)), .slice none 0 0, .int .i64 0], []⟩ 8 (by kernel_rfl) (by kernel_rfl) (by kernel_rfl) (by kernel_rfl)) ?_
  intro W base args ds gs before hval0 hW hcnd _
  have hval : ∀ (j : Nat) t v, Try.f9.params[j]? = some t → args[j]? = some v → Value.okWide Try.prog W .any base t v := hval0
  have hW' := hW
  obtain ⟨p, q, hA0, hV, rfl, hfz, hnd⟩ := hW
  have hA : DataW.TrodAll enc Try.prog W 0 (fun _ => true) true Try.f9.params.toList args.toList ds p := hA0
  rw [Try.params9] at hA hval
  obtain ⟨v0, vs0, d0, ds0, p0, q0, hargs, rfl, rfl, h0, r0⟩ := trodAll_cons hA
  obtain ⟨v1, vs1, d1, ds1, p1, q1, rfl, rfl, rfl, h1, r1⟩ := trodAll_cons r0
  obtain ⟨v2, vs2, d2, ds2, p2, q2, rfl, rfl, rfl, h2, r2⟩ := trodAll_cons r1
  obtain ⟨v3, vs3, d3, ds3, p3, q3, rfl, rfl, rfl, h3, r3⟩ := trodAll_cons r2
  obtain ⟨v4, vs4, d4, ds4, p4, q4, rfl, rfl, rfl, h4, r4⟩ := trodAll_cons r3
  obtain ⟨rfl, rfl, rfl⟩ := trodAll_nil r4
  obtain rfl : args = #[v0, v1, v2, v3, v4] := by cases args; simp_all
  obtain ⟨rfl, rfl⟩ := trodVars_none hV
  have k0 := h0
  have lt0 : ∀ x ∈ p0, x.block < W.heap.size := by obtain ⟨m, hm⟩ := k0; exact DataW.trod_lt m _ _ _ hm
  have k1 := h1
  have lt1 : ∀ x ∈ p1, x.block < W.heap.size := by obtain ⟨m, hm⟩ := k1; exact DataW.trod_lt m _ _ _ hm
  have k2 := h2
  have lt2 : ∀ x ∈ p2, x.block < W.heap.size := by obtain ⟨m, hm⟩ := k2; exact DataW.trod_lt m _ _ _ hm
  have k3 := h3
  have lt3 : ∀ x ∈ p3, x.block < W.heap.size := by obtain ⟨m, hm⟩ := k3; exact DataW.trod_lt m _ _ _ hm
  have k4 := h4
  have lt4 : ∀ x ∈ p4, x.block < W.heap.size := by obtain ⟨m, hm⟩ := k4; exact DataW.trod_lt m _ _ _ hm
  obtain ⟨l0, rfl, hl0⟩ := Hw.open_bytes Try.underlying47 Try.underlying5 (by kernel_rfl) (by kernel_rfl) (hval 0 47 v0 rfl rfl) h0
  obtain ⟨l1, rfl, hl1⟩ := Hw.open_bytes Try.underlying47 Try.underlying5 (by kernel_rfl) (by kernel_rfl) (hval 1 47 v1 rfl rfl) h1
  obtain ⟨l2, rfl, hl2⟩ := Hw.open_bytes Try.underlying47 Try.underlying5 (by kernel_rfl) (by kernel_rfl) (hval 2 47 v2 rfl rfl) h2
  obtain ⟨l3, hl3⟩ := Hw.open_row8 Try.underlying27 Try.underlying5 (by kernel_rfl) (hval 3 27 v3 rfl rfl) h3
  obtain ⟨a4, rfl, rfl, rfl, w4⟩ := open_int Try.underlying3 (hval 4 3 v4 rfl rfl) h4
  clear hA0 hval0
  refine (walkCalls W l0 hl0 l1 hl1 l2 hl2 _ l3 hl3 a4 w4).mono fun e W' ⟨he, bel⟩ => ?_
  subst he
  exact ⟨_, rfl, _, _, _, [], _, [], hW', trodAll_mk1 (shut_bool Try.underlying4 _), (trodAll_cons_mk (Below.trod laidOutCalls (by kernel_rfl) (of_decide_eq_true (by kernel_rfl)) k0 bel lt0) (trodAll_cons_mk (Below.trod laidOutCalls (by kernel_rfl) (of_decide_eq_true (by kernel_rfl)) k1 bel lt1) (trodAll_cons_mk (Below.trod laidOutCalls (by kernel_rfl) (of_decide_eq_true (by kernel_rfl)) k2 bel lt2) (trodAll_cons_mk (Below.trod laidOutCalls (by kernel_rfl) (of_decide_eq_true (by kernel_rfl)) k3 bel lt3) (trodAll_cons_mk (Below.trod laidOutCalls (by kernel_rfl) (of_decide_eq_true (by kernel_rfl)) k4 bel lt4) trodAll_mk0))))), rfl, bel.frame _, fun h => by cases h⟩

theorem scalarCalls_holds : Rows.ScalarCallsSaid :=
  OpenClaim.holds_of_wide 9 Try.f9 rfl rfl rfl rfl rfl rfl rfl ⟨rfl, rfl, rfl, rfl, rfl⟩ rfl rfl rfl rfl rfl (by kernel_rfl) Try.func9 (by kernel_rfl)
    (of_decide_eq_true (by kernel_rfl)) (by unfold Func.isWrapper; first | (rw [if_pos (by decide +kernel)]; kernel_rfl) | (rw [if_neg (by decide +kernel)]; exact ⟨rfl, rfl⟩))
    (fun os started H enc _ => liftedCalls os started H enc)

end Go.Proofs.Ytjeggfgbcafenaa
