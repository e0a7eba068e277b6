/- headwaterlaw04.ScalarRests returns true at every input, and all that it reads reads behind the call as before. Conditions: none beyond the given statement's own. -/
import Derived.Test.YtjeggfgbcafenaaRests
import Derived.Test.YtjeggfgbcafenaaOpen
import Derived.Test.YtjeggfgbcafenaaRows
import Derived.WalkKit
import Derived.ProofKit
import Derived.OpenShut
import Derived.ChangeOld
import Derived.Below
namespace Go.Proofs.Ytjeggfgbcafenaa
open Go Go.ChangeShapes Go.WideShapes Go.ChangeAt Go.RowKit
set_option linter.unusedVariables false

theorem ownRests : ownKnob Try.prog.godebug = none := by kernel_rfl
theorem laidOutRests : laidOutB Try.prog = true := by kernel_rfl

theorem walkRests (w : World) (v0 : Value) (l0 : List UInt8) (hl0 : Hw.RowArg w v0 l0) (a1 : Int) (w1 : (Lit.int .i64 a1).wf = true) : Calls Try.prog 7 #[v0, Hw.i64 a1] w fun e w' => e = .returned (.bool true) ∧ Below w.heap.size w w' :=
  by
  have fin : ∀ {us : Array Value}, Calls Try.prog 7 us w (fun e W' => ∃ v out, e = .returned v ∧ (v = .bool true ∧ out = []) ∧ Hw.Ret [] out w W') → Calls Try.prog 7 us w (fun e w' => e = .returned (.bool true) ∧ Below w.heap.size w w') :=
    fun h => h.mono fun e w' ⟨v, out, he, ⟨hv, ho⟩, hr⟩ => ⟨by rw [he, hv], Hw.Keeps.below hr.keeps⟩
  rcases hl0 with ⟨rfl, rfl⟩ | ⟨b, o, c, rfl, hc, hs⟩
  · rcases Int.lt_trichotomy a1 0 with h | rfl | h
    · exact fin (law_rests_nil_neg a1 h w trivial)
    · exact fin (law_rests_nil_in 0 (Nat.le_refl _) w trivial)
    · exact fin (law_rests_nil_big a1 h w trivial)
  · by_cases hn : 64 < l0.length
    · exact fin (law_rests_long b o c l0.length hn a1 w trivial)
    · rcases Int.lt_or_le a1 0 with h | h
      · exact fin (law_rests_neg b o c l0.length l0 rfl (by omega) hc a1 h w hs)
      · rcases Int.lt_or_le (l0.length : Int) a1 with h2 | h2
        · exact fin (law_rests_big b o c l0.length l0 rfl (by omega) hc a1 h2 w hs)
        · obtain ⟨k, rfl⟩ := Int.eq_ofNat_of_zero_le h
          exact fin (law_rests_in b o c l0.length l0 rfl (by omega) hc k (by omega) w hs)

set_option maxRecDepth 100000 in
theorem liftedRests (os : Os) (started : os.Started) (H : Type) (enc : TypeId × Value → H) :
    ReturnsInHanded {} Try.checked os 7 .any (Rows.scalarRestsSpec.pre6 enc Try.prog Try.f7 Rows.scalarRestsRow.domain false) (Rows.scalarRestsSpec.post enc Try.prog Try.f7 false true false false) := by
  refine returnsInHanded_of_change (C := Try.checked) ownRests started (by kernel_rfl) Try.func7
    (ChangeSpec.witness6 (enc := enc) (C := Try.checked) false ⟨#[], #[.slice none 0 0, .int .i64 0], []⟩ 8 (by kernel_rfl) (by kernel_rfl) (by kernel_rfl) (by kernel_rfl)) ?_
  intro W base args ds gs before hval0 hW hcnd _
  have hval : ∀ (j : Nat) t v, Try.f7.params[j]? = some t → args[j]? = some v → Value.okWide Try.prog W .any base t v := hval0
  have hW' := hW
  obtain ⟨p, q, hA0, hV, rfl, hfz, hnd⟩ := hW
  have hA : DataW.TrodAll enc Try.prog W 0 (fun _ => true) true Try.f7.params.toList args.toList ds p := hA0
  rw [Try.params7] at hA hval
  obtain ⟨v0, vs0, d0, ds0, p0, q0, hargs, rfl, rfl, h0, r0⟩ := trodAll_cons hA
  obtain ⟨v1, vs1, d1, ds1, p1, q1, rfl, rfl, rfl, h1, r1⟩ := trodAll_cons r0
  obtain ⟨rfl, rfl, rfl⟩ := trodAll_nil r1
  obtain rfl : args = #[v0, v1] := by cases args; simp_all
  obtain ⟨rfl, rfl⟩ := trodVars_none hV
  have k0 := h0
  have lt0 : ∀ x ∈ p0, x.block < W.heap.size := by obtain ⟨m, hm⟩ := k0; exact DataW.trod_lt m _ _ _ hm
  have k1 := h1
  have lt1 : ∀ x ∈ p1, x.block < W.heap.size := by obtain ⟨m, hm⟩ := k1; exact DataW.trod_lt m _ _ _ hm
  obtain ⟨l0, hl0⟩ := Hw.open_row8 Try.underlying27 Try.underlying5 (by kernel_rfl) (hval 0 27 v0 rfl rfl) h0
  obtain ⟨a1, rfl, rfl, rfl, w1⟩ := open_int Try.underlying3 (hval 1 3 v1 rfl rfl) h1
  clear hA0 hval0
  refine (walkRests W _ l0 hl0 a1 w1).mono fun e W' ⟨he, bel⟩ => ?_
  subst he
  exact ⟨_, rfl, _, _, _, [], _, [], hW', trodAll_mk1 (shut_bool Try.underlying4 _), (trodAll_cons_mk (Below.trod laidOutRests (by kernel_rfl) (of_decide_eq_true (by kernel_rfl)) k0 bel lt0) (trodAll_cons_mk (Below.trod laidOutRests (by kernel_rfl) (of_decide_eq_true (by kernel_rfl)) k1 bel lt1) trodAll_mk0)), rfl, bel.frame _, fun h => by cases h⟩

theorem scalarRests_holds : Rows.ScalarRestsSaid :=
  OpenClaim.holds_of_wide 7 Try.f7 rfl rfl rfl rfl rfl rfl rfl ⟨rfl, rfl, rfl, rfl, rfl⟩ rfl rfl rfl rfl rfl (by kernel_rfl) Try.func7 (by kernel_rfl)
    (of_decide_eq_true (by kernel_rfl)) (by unfold Func.isWrapper; first | (rw [if_pos (by decide +kernel)]; kernel_rfl) | (rw [if_neg (by decide +kernel)]; exact ⟨rfl, rfl⟩))
    (fun os started H enc _ => liftedRests os started H enc)

end Go.Proofs.Ytjeggfgbcafenaa
