/- What ScalarBits returns. Conditions: the lengths of arrays. -/
import Derived.Test.YtjeggfgbcafenaaLaw04
namespace Go.Proofs.Ytjeggfgbcafenaa
open Go Hw
set_option linter.unusedVariables false
set_option linter.unusedSimpArgs false

set_option maxRecDepth 100000 in
set_option maxHeartbeats 1000000 in
theorem law_bits (a : List UInt8) (x y : UInt32) (ha : a.length = 32) : Meets Try.prog 8 [agg (bytesV a), u32 x, u32 y] [] (fun _ => True) (fun v out => v = .bool true ∧ out = []) := by
  intro W hW
  obtain ⟨s1, c1, h1, e1⟩ := law_small_ex 1
  have ex1 : s1 = leb 32 1 := e1
  have h256 : le a % 2 ^ 256 = le a := Nat.mod_eq_of_lt (le32 ha)
  obtain ⟨pw, hpw⟩ : ∃ pw : Nat → Nat, pw = fun k => 2 ^ k := ⟨_, rfl⟩
  have p0 : pw 0 = 1 := by rw [hpw]
  have ps : ∀ k, pw (k + 1) = pw k + pw k := fun k => by rw [hpw]; simp only []; rw [Nat.pow_succ, Nat.mul_two]
  have pm : ∀ k, le a % pw (k + 1) = le a % pw k + (if (le a).testBit k then pw k else 0) := fun k => by rw [hpw]; exact mod_bit _ k
  have p256 : le a % pw 256 = le a := by rw [hpw]; exact h256
  clear h256 hpw
  refine calls_of (hp0 := []) Try.func8 rfl 88 Try.ntmps8 rfl (HRep.nil _) ?_
  refine Sat.seq ?_
  -- region 0
  refine Sat.region ?_
  refine Tr.boxA rfl rfl ?_
  intro n3 hn3 hf3
  refine Tr.assign rfl rfl rfl ?_
  refine Tr.nil ?_
  refine at_n ?_
  refine Sat.seq ?_
  refine Sat.seq ?_
  -- region 1
  refine Sat.region ?_
  refine Tr.callV rfl rfl rfl rfl Body22 (law_lives) (fun _ _ => trivial) ?_
  refine Tr.not rfl rfl rfl ?_
  refine Tr.nil ?_
  refine at_n ?_
  refine Sat.cond_f rfl (rfl) ?_
  refine Sat.skip ?_
  refine at_n ?_
  refine Sat.seq ?_
  -- region 3
  refine Sat.region ?_
  refine Tr.build (cs := bytesV (List.replicate 32 0)) rfl rfl rfl (fun w => by kernel_rfl) ?_
  refine Tr.callV rfl rfl rfl rfl Body25 (c1) (fun _ _ => trivial) ?_
  refine Tr.alloc (cs := (bytesV (List.replicate 32 0))) rfl Zr47 rfl ?_
  intro n7 hn7 hf7
  refine Tr.alloc (cs := (bytesV (List.replicate 32 0))) rfl Zr47 rfl ?_
  intro n8 hn8 hf8
  first
    | refine Tr.storeAll rfl rfl rfl rfl (by simp [isCell]) Sz47 (by simp [leb_length, words4_length, List.length_replicate, subB_all, padB_all, ha, h1]) (by first | exact mem0 | exact mem1 | exact mem2 | exact mem3 | exact mem4 | exact mem5 | exact mem6 | exact mem7) (by simp [leb_length, words4_length, List.length_replicate, subB_all, padB_all, ha, h1]) (by first | exact upd0 | exact upd1 | exact upd2 | exact upd3 | exact upd4 | exact upd5 | exact upd6 | exact upd7) ?_
    | refine Tr.storeN _ rfl rfl rfl rfl rfl (by simp [isCell]) Sz47 (by simp [leb_length, words4_length, List.length_replicate, subB_all, padB_all, ha, h1]) (by first | exact mem0 | exact mem1 | exact mem2 | exact mem3 | exact mem4 | exact mem5 | exact mem6 | exact mem7) (by simp [leb_length, words4_length, List.length_replicate, subB_all, padB_all, ha, h1]) (by exact rfl) (by first | exact upd0 | exact upd1 | exact upd2 | exact upd3 | exact upd4 | exact upd5 | exact upd6 | exact upd7) ?_
  first
    | refine Tr.storeAll rfl rfl rfl rfl (by simp [isCell]) Sz47 (by simp [leb_length, words4_length, List.length_replicate, subB_all, padB_all, ha, h1]) (by first | exact mem0 | exact mem1 | exact mem2 | exact mem3 | exact mem4 | exact mem5 | exact mem6 | exact mem7) (by simp [leb_length, words4_length, List.length_replicate, subB_all, padB_all, ha, h1]) (by first | exact upd0 | exact upd1 | exact upd2 | exact upd3 | exact upd4 | exact upd5 | exact upd6 | exact upd7) ?_
    | refine Tr.storeN _ rfl rfl rfl rfl rfl (by simp [isCell]) Sz47 (by simp [leb_length, words4_length, List.length_replicate, subB_all, padB_all, ha, h1]) (by first | exact mem0 | exact mem1 | exact mem2 | exact mem3 | exact mem4 | exact mem5 | exact mem6 | exact mem7) (by simp [leb_length, words4_length, List.length_replicate, subB_all, padB_all, ha, h1]) (by exact rfl) (by first | exact upd0 | exact upd1 | exact upd2 | exact upd3 | exact upd4 | exact upd5 | exact upd6 | exact upd7) ?_
  refine Tr.nil ?_
  refine at_n ?_
  refine Sat.join (ι := Unit) (fun _u => ⟨[(1, u32 x), (2, u32 y), (3, ptr n3 0), (7, ptr n7 0)], [⟨n7, bytesV (leb 32 (le a % L)), 47, 32⟩, ⟨n3, bytesV a, 47, (bytesV a).length⟩]⟩) (fun _u => True) ?_ ?_
  ·
    refine Sat.seq ?_
    -- region 4
    refine Sat.region ?_
    refine Tr.assign rfl rfl rfl ?_
    refine Tr.nil ?_
    refine at_n ?_
    refine Sat.block ?_
    refine Sat.loop (ι := Nat) (fun k => ⟨[(1, u32 x), (2, u32 y), (3, ptr n3 0), (7, ptr n7 0), (8, ptr n8 0), (9, i64 (k : Int))], [⟨n8, bytesV (leb 32 (pw k % L)), 47, 32⟩, ⟨n7, bytesV (leb 32 (le a % pw k % L)), 47, 32⟩, ⟨n3, bytesV a, 47, (bytesV a).length⟩]⟩) (fun k => k ≤ 256) (fun k => 256 - k) (0) ?_ ?_ ?_
    · omega
    · exact weak_of (wk1 rfl (wk1 rfl (wk1 rfl (wk1 rfl (wk1 rfl (wk1 rfl wk0)))))) (wh1 (by rw [p0, show 1 % L = 1 by decide, ← ex1]; exact mem0) (wh1 (by rw [p0, Nat.mod_one, zero_modL, leb_zero32]; exact mem1) (wh1 (by first | exact mem0 | exact mem1 | exact mem2 | exact mem3 | exact mem4 | exact mem5 | exact mem6 | exact mem7) wh0))) (by repeat (first | exact ns_nil | refine ns_keep rfl ?_ | refine ns_skip ?_))
    ·
      rintro k hk
      refine Sat.seq ?_
      refine Sat.seq ?_
      -- region 5
      refine Sat.region ?_
      refine Tr.move rfl rfl rfl ?_
      refine Tr.lss rfl rfl rfl rfl rfl ?_
      refine Tr.nil ?_
      refine at_n ?_
      first
        | refine Sat.condP rfl (fun hc1 => ?_) (fun hc1 => ?_)
        | refine Sat.condNP rfl (fun hc1 => ?_) (fun hc1 => ?_)
        | refine Sat.cond rfl (fun hc1 => ?_) (fun hc1 => ?_)
      ·
        have hk2 : k < 256 := by omega
        refine Sat.skip ?_
        refine at_n ?_
        refine Sat.seq ?_
        refine Sat.block ?_
        refine Sat.join (ι := Unit) (fun _u => ⟨[(1, u32 x), (2, u32 y), (3, ptr n3 0), (7, ptr n7 0), (8, ptr n8 0), (9, i64 (k : Int))], [⟨n8, bytesV (leb 32 (pw k % L)), 47, 32⟩, ⟨n7, bytesV (leb 32 (le a % pw (k + 1) % L)), 47, 32⟩, ⟨n3, bytesV a, 47, (bytesV a).length⟩]⟩) (fun _u => True) ?_ ?_
        ·
          refine Sat.seq ?_
          -- region 7
          refine Sat.region ?_
          first
            | refine Tr.loadAll rfl rfl rfl Try.underlying47 rfl Sz47 (by first | exact mem0 | exact mem1 | exact mem2 | exact mem3 | exact mem4 | exact mem5 | exact mem6 | exact mem7) (by simp [leb_length, words4_length, List.length_replicate, subB_all, padB_all, ha, h1]) ?_
            | refine Tr.loadN _ rfl rfl rfl Try.underlying47 rfl Sz47 (by first | exact mem0 | exact mem1 | exact mem2 | exact mem3 | exact mem4 | exact mem5 | exact mem6 | exact mem7) (by exact rfl) (by simp [leb_length, words4_length, List.length_replicate, subB_all, padB_all, ha, h1]) ?_
          refine Tr.move rfl rfl rfl ?_
          refine Tr.callV rfl rfl rfl rfl Body26 (scalar_bit_at a ha k hk2) (fun _ _ => trivial) ?_
          refine Tr.nil ?_
          refine at_n ?_
          refine Sat.cond rfl (fun hc2 => ?_) (fun hc2 => ?_)
          ·
            have hmb := pm k
            rw [hc2, if_pos rfl] at hmb
            -- region 8
            refine Sat.region ?_
            first
              | refine Tr.loadAll rfl rfl rfl Try.underlying47 rfl Sz47 (by first | exact mem0 | exact mem1 | exact mem2 | exact mem3 | exact mem4 | exact mem5 | exact mem6 | exact mem7) (by simp [leb_length, words4_length, List.length_replicate, subB_all, padB_all, ha, h1]) ?_
              | refine Tr.loadN _ rfl rfl rfl Try.underlying47 rfl Sz47 (by first | exact mem0 | exact mem1 | exact mem2 | exact mem3 | exact mem4 | exact mem5 | exact mem6 | exact mem7) (by exact rfl) (by simp [leb_length, words4_length, List.length_replicate, subB_all, padB_all, ha, h1]) ?_
            first
              | refine Tr.loadAll rfl rfl rfl Try.underlying47 rfl Sz47 (by first | exact mem0 | exact mem1 | exact mem2 | exact mem3 | exact mem4 | exact mem5 | exact mem6 | exact mem7) (by simp [leb_length, words4_length, List.length_replicate, subB_all, padB_all, ha, h1]) ?_
              | refine Tr.loadN _ rfl rfl rfl Try.underlying47 rfl Sz47 (by first | exact mem0 | exact mem1 | exact mem2 | exact mem3 | exact mem4 | exact mem5 | exact mem6 | exact mem7) (by exact rfl) (by simp [leb_length, words4_length, List.length_replicate, subB_all, padB_all, ha, h1]) ?_
            refine Tr.callV rfl rfl rfl rfl Body28 (scalar_add _ _ (by simp [leb_length, words4_length, List.length_replicate, subB_all, padB_all, ha, h1]) (by simp [leb_length, words4_length, List.length_replicate, subB_all, padB_all, ha, h1])) (fun _ _ => trivial) ?_
            first
              | refine Tr.storeAll rfl rfl rfl rfl (by simp [isCell]) Sz47 (by simp [leb_length, words4_length, List.length_replicate, subB_all, padB_all, ha, h1]) (by first | exact mem0 | exact mem1 | exact mem2 | exact mem3 | exact mem4 | exact mem5 | exact mem6 | exact mem7) (by simp [leb_length, words4_length, List.length_replicate, subB_all, padB_all, ha, h1]) (by first | exact upd0 | exact upd1 | exact upd2 | exact upd3 | exact upd4 | exact upd5 | exact upd6 | exact upd7) ?_
              | refine Tr.storeN _ rfl rfl rfl rfl rfl (by simp [isCell]) Sz47 (by simp [leb_length, words4_length, List.length_replicate, subB_all, padB_all, ha, h1]) (by first | exact mem0 | exact mem1 | exact mem2 | exact mem3 | exact mem4 | exact mem5 | exact mem6 | exact mem7) (by simp [leb_length, words4_length, List.length_replicate, subB_all, padB_all, ha, h1]) (by exact rfl) (by first | exact upd0 | exact upd1 | exact upd2 | exact upd3 | exact upd4 | exact upd5 | exact upd6 | exact upd7) ?_
            refine Tr.nil ?_
            refine at_n ?_
            refine ⟨(), trivial, weak_of (wk1 rfl (wk1 rfl (wk1 rfl (wk1 rfl (wk1 rfl (wk1 rfl wk0)))))) (wh1 (by first | exact mem0 | exact mem1 | exact mem2 | exact mem3 | exact mem4 | exact mem5 | exact mem6 | exact mem7) (wh1 (by first | (rw [hmb, le_leb32 (lm (le a % pw k)), le_leb32 (lm (pw k)), ← Nat.add_mod (le a % pw k) (pw k) L]; exact mem1) | (rw [hmb]; exact mem1)) (wh1 (by first | exact mem0 | exact mem1 | exact mem2 | exact mem3 | exact mem4 | exact mem5 | exact mem6 | exact mem7) wh0))) (by repeat (first | exact ns_nil | refine ns_keep rfl ?_ | refine ns_skip ?_))⟩
          ·
            have hmb := pm k
            rw [hc2, if_neg (by decide), Nat.add_zero] at hmb
            refine Sat.skip ?_
            refine at_n ?_
            refine ⟨(), trivial, weak_of (wk1 rfl (wk1 rfl (wk1 rfl (wk1 rfl (wk1 rfl (wk1 rfl wk0)))))) (wh1 (by first | exact mem0 | exact mem1 | exact mem2 | exact mem3 | exact mem4 | exact mem5 | exact mem6 | exact mem7) (wh1 (by first | (rw [hmb, le_leb32 (lm (le a % pw k)), le_leb32 (lm (pw k)), ← Nat.add_mod (le a % pw k) (pw k) L]; exact mem1) | (rw [hmb]; exact mem1)) (wh1 (by first | exact mem0 | exact mem1 | exact mem2 | exact mem3 | exact mem4 | exact mem5 | exact mem6 | exact mem7) wh0))) (by repeat (first | exact ns_nil | refine ns_keep rfl ?_ | refine ns_skip ?_))⟩
        ·
          intro _u hj
          skip
          -- region 9
          refine Sat.region ?_
          first
            | refine Tr.loadAll rfl rfl rfl Try.underlying47 rfl Sz47 (by first | exact mem0 | exact mem1 | exact mem2 | exact mem3 | exact mem4 | exact mem5 | exact mem6 | exact mem7) (by simp [leb_length, words4_length, List.length_replicate, subB_all, padB_all, ha, h1]) ?_
            | refine Tr.loadN _ rfl rfl rfl Try.underlying47 rfl Sz47 (by first | exact mem0 | exact mem1 | exact mem2 | exact mem3 | exact mem4 | exact mem5 | exact mem6 | exact mem7) (by exact rfl) (by simp [leb_length, words4_length, List.length_replicate, subB_all, padB_all, ha, h1]) ?_
          first
            | refine Tr.loadAll rfl rfl rfl Try.underlying47 rfl Sz47 (by first | exact mem0 | exact mem1 | exact mem2 | exact mem3 | exact mem4 | exact mem5 | exact mem6 | exact mem7) (by simp [leb_length, words4_length, List.length_replicate, subB_all, padB_all, ha, h1]) ?_
            | refine Tr.loadN _ rfl rfl rfl Try.underlying47 rfl Sz47 (by first | exact mem0 | exact mem1 | exact mem2 | exact mem3 | exact mem4 | exact mem5 | exact mem6 | exact mem7) (by exact rfl) (by simp [leb_length, words4_length, List.length_replicate, subB_all, padB_all, ha, h1]) ?_
          refine Tr.callV rfl rfl rfl rfl Body28 (scalar_add _ _ (by simp [leb_length, words4_length, List.length_replicate, subB_all, padB_all, ha, h1]) (by simp [leb_length, words4_length, List.length_replicate, subB_all, padB_all, ha, h1])) (fun _ _ => trivial) ?_
          first
            | refine Tr.storeAll rfl rfl rfl rfl (by simp [isCell]) Sz47 (by simp [leb_length, words4_length, List.length_replicate, subB_all, padB_all, ha, h1]) (by first | exact mem0 | exact mem1 | exact mem2 | exact mem3 | exact mem4 | exact mem5 | exact mem6 | exact mem7) (by simp [leb_length, words4_length, List.length_replicate, subB_all, padB_all, ha, h1]) (by first | exact upd0 | exact upd1 | exact upd2 | exact upd3 | exact upd4 | exact upd5 | exact upd6 | exact upd7) ?_
            | refine Tr.storeN _ rfl rfl rfl rfl rfl (by simp [isCell]) Sz47 (by simp [leb_length, words4_length, List.length_replicate, subB_all, padB_all, ha, h1]) (by first | exact mem0 | exact mem1 | exact mem2 | exact mem3 | exact mem4 | exact mem5 | exact mem6 | exact mem7) (by simp [leb_length, words4_length, List.length_replicate, subB_all, padB_all, ha, h1]) (by exact rfl) (by first | exact upd0 | exact upd1 | exact upd2 | exact upd3 | exact upd4 | exact upd5 | exact upd6 | exact upd7) ?_
          refine Tr.nil ?_
          refine bl_n ?_
          refine at_n ?_
          -- region 6
          refine Sat.region ?_
          refine Tr.move rfl rfl rfl ?_
          refine Tr.add_i64 rfl rfl rfl rfl (by omega) ?_
          refine Tr.assign rfl rfl rfl ?_
          refine Tr.nil ?_
          refine at_n ?_
          exact ⟨k + 1, by omega, by omega, weak_of (wk1 rfl (wk1 rfl (wk1 rfl (wk1 rfl (wk1 rfl (wk1 rfl wk0)))))) (wh1 (by rw [ps, le_leb32 (lm (pw k)), ← Nat.add_mod (pw k) (pw k) L]; exact mem0) (wh1 (by first | exact mem0 | exact mem1 | exact mem2 | exact mem3 | exact mem4 | exact mem5 | exact mem6 | exact mem7) (wh1 (by first | exact mem0 | exact mem1 | exact mem2 | exact mem3 | exact mem4 | exact mem5 | exact mem6 | exact mem7) wh0))) (by repeat (first | exact ns_nil | refine ns_keep rfl ?_ | refine ns_skip ?_))⟩
      ·
        have ek : k = 256 := by omega
        refine Sat.exit ?_
        refine at_x ?_
        refine at_x ?_
        refine bl_h ?_
        refine at_n ?_
        refine ⟨(), trivial, weak_of (wk1 rfl (wk1 rfl (wk1 rfl (wk1 rfl wk0)))) (wh1 (by rw [ek, p256]; exact mem1) (wh1 (by first | exact mem0 | exact mem1 | exact mem2 | exact mem3 | exact mem4 | exact mem5 | exact mem6 | exact mem7) wh0)) (by repeat (first | exact ns_nil | refine ns_keep rfl ?_ | refine ns_skip ?_))⟩
  ·
    intro _u hj
    skip
    refine Sat.seq ?_
    -- region 10
    refine Sat.region ?_
    refine Tr.sliceArr rfl rfl rfl Try.underlying47 Sz5 ?_
    refine Tr.callV rfl rfl rfl rfl Body21 (scalar_rest _ 0 _ 32 a (by simp [leb_length, words4_length, List.length_replicate, subB_all, padB_all, ha, h1]) (by omega)) (fun W h => sees_own h (by first | exact mem0 | exact mem1 | exact mem2 | exact mem3 | exact mem4 | exact mem5 | exact mem6 | exact mem7)) ?_
    refine Tr.move rfl rfl rfl ?_
    refine Tr.extract rfl rfl rfl rfl ?_
    refine Tr.extract rfl rfl rfl rfl ?_
    refine Tr.alloc (cs := (bytesV (List.replicate 32 0))) rfl Zr47 rfl ?_
    intro n10 hn10 hf10
    first
      | refine Tr.storeAll rfl rfl rfl rfl (by simp [isCell]) Sz47 (by simp [leb_length, words4_length, List.length_replicate, subB_all, padB_all, ha, h1]) (by first | exact mem0 | exact mem1 | exact mem2 | exact mem3 | exact mem4 | exact mem5 | exact mem6 | exact mem7) (by simp [leb_length, words4_length, List.length_replicate, subB_all, padB_all, ha, h1]) (by first | exact upd0 | exact upd1 | exact upd2 | exact upd3 | exact upd4 | exact upd5 | exact upd6 | exact upd7) ?_
      | refine Tr.storeN _ rfl rfl rfl rfl rfl (by simp [isCell]) Sz47 (by simp [leb_length, words4_length, List.length_replicate, subB_all, padB_all, ha, h1]) (by first | exact mem0 | exact mem1 | exact mem2 | exact mem3 | exact mem4 | exact mem5 | exact mem6 | exact mem7) (by simp [leb_length, words4_length, List.length_replicate, subB_all, padB_all, ha, h1]) (by exact rfl) (by first | exact upd0 | exact upd1 | exact upd2 | exact upd3 | exact upd4 | exact upd5 | exact upd6 | exact upd7) ?_
    refine Tr.assign rfl rfl rfl ?_
    refine Tr.nil ?_
    refine at_n ?_
    refine Sat.seq ?_
    -- region 11
    refine Sat.region ?_
    refine Tr.move rfl rfl rfl ?_
    refine Tr.conv rfl rfl rfl Try.underlying59 Try.underlying24 (cv_u32_u64 _) ?_
    refine Tr.callV rfl rfl rfl rfl Body25 (law_small _) (fun _ _ => trivial) ?_
    refine Tr.move rfl rfl rfl ?_
    refine Tr.conv rfl rfl rfl Try.underlying59 Try.underlying24 (cv_u32_u64 _) ?_
    refine Tr.callV rfl rfl rfl rfl Body25 (law_small _) (fun _ _ => trivial) ?_
    refine Tr.alloc (cs := (bytesV (List.replicate 32 0))) rfl Zr47 rfl ?_
    intro n12 hn12 hf12
    refine Tr.alloc (cs := (bytesV (List.replicate 32 0))) rfl Zr47 rfl ?_
    intro n13 hn13 hf13
    first
      | refine Tr.storeAll rfl rfl rfl rfl (by simp [isCell]) Sz47 (by simp [leb_length, words4_length, List.length_replicate, subB_all, padB_all, ha, h1]) (by first | exact mem0 | exact mem1 | exact mem2 | exact mem3 | exact mem4 | exact mem5 | exact mem6 | exact mem7) (by simp [leb_length, words4_length, List.length_replicate, subB_all, padB_all, ha, h1]) (by first | exact upd0 | exact upd1 | exact upd2 | exact upd3 | exact upd4 | exact upd5 | exact upd6 | exact upd7) ?_
      | refine Tr.storeN _ rfl rfl rfl rfl rfl (by simp [isCell]) Sz47 (by simp [leb_length, words4_length, List.length_replicate, subB_all, padB_all, ha, h1]) (by first | exact mem0 | exact mem1 | exact mem2 | exact mem3 | exact mem4 | exact mem5 | exact mem6 | exact mem7) (by simp [leb_length, words4_length, List.length_replicate, subB_all, padB_all, ha, h1]) (by exact rfl) (by first | exact upd0 | exact upd1 | exact upd2 | exact upd3 | exact upd4 | exact upd5 | exact upd6 | exact upd7) ?_
    first
      | refine Tr.storeAll rfl rfl rfl rfl (by simp [isCell]) Sz47 (by simp [leb_length, words4_length, List.length_replicate, subB_all, padB_all, ha, h1]) (by first | exact mem0 | exact mem1 | exact mem2 | exact mem3 | exact mem4 | exact mem5 | exact mem6 | exact mem7) (by simp [leb_length, words4_length, List.length_replicate, subB_all, padB_all, ha, h1]) (by first | exact upd0 | exact upd1 | exact upd2 | exact upd3 | exact upd4 | exact upd5 | exact upd6 | exact upd7) ?_
      | refine Tr.storeN _ rfl rfl rfl rfl rfl (by simp [isCell]) Sz47 (by simp [leb_length, words4_length, List.length_replicate, subB_all, padB_all, ha, h1]) (by first | exact mem0 | exact mem1 | exact mem2 | exact mem3 | exact mem4 | exact mem5 | exact mem6 | exact mem7) (by simp [leb_length, words4_length, List.length_replicate, subB_all, padB_all, ha, h1]) (by exact rfl) (by first | exact upd0 | exact upd1 | exact upd2 | exact upd3 | exact upd4 | exact upd5 | exact upd6 | exact upd7) ?_
    refine Tr.nil ?_
    refine at_n ?_
    refine Sat.seq ?_
    -- region 12
    refine Sat.draw [(0, 0), (0, 1), (0, 2), (1, 3), (1, 4), (0, 5), (0, 6), (0, 7), (1, 8), (1, 9), (0, 11), (0, 12), (0, 13), (0, 14), (0, 15), (3, 10), (3, 16), (0, 17), (0, 18), (0, 19), (1, 20), (1, 21), (0, 23), (0, 24), (0, 25), (0, 26), (0, 27), (3, 22), (3, 28), (0, 29), (0, 30), (0, 31), (1, 32), (1, 33), (1, 34), (0, 36), (0, 37), (0, 38), (0, 39), (0, 40), (1, 42), (3, 35), (3, 41), (3, 43), (0, 44), (0, 45), (0, 46)] Mixed (by kernel_rfl) ?_
    refine Tr.move rfl rfl rfl ?_
    refine Tr.eqi rfl rfl rfl rfl (decide_eq_true (rfl)) ?_
    refine Tr.move rfl rfl rfl ?_
    first
      | refine Tr.loadAll rfl rfl rfl Try.underlying47 rfl Sz47 (by first | exact mem0 | exact mem1 | exact mem2 | exact mem3 | exact mem4 | exact mem5 | exact mem6 | exact mem7) (by simp [leb_length, words4_length, List.length_replicate, subB_all, padB_all, ha, h1]) ?_
      | refine Tr.loadN _ rfl rfl rfl Try.underlying47 rfl Sz47 (by first | exact mem0 | exact mem1 | exact mem2 | exact mem3 | exact mem4 | exact mem5 | exact mem6 | exact mem7) (by exact rfl) (by simp [leb_length, words4_length, List.length_replicate, subB_all, padB_all, ha, h1]) ?_
    first
      | refine Tr.loadAll rfl rfl rfl Try.underlying47 rfl Sz47 (by first | exact mem0 | exact mem1 | exact mem2 | exact mem3 | exact mem4 | exact mem5 | exact mem6 | exact mem7) (by simp [leb_length, words4_length, List.length_replicate, subB_all, padB_all, ha, h1]) ?_
      | refine Tr.loadN _ rfl rfl rfl Try.underlying47 rfl Sz47 (by first | exact mem0 | exact mem1 | exact mem2 | exact mem3 | exact mem4 | exact mem5 | exact mem6 | exact mem7) (by exact rfl) (by simp [leb_length, words4_length, List.length_replicate, subB_all, padB_all, ha, h1]) ?_
    refine Tr.eql_bytes rfl rfl rfl rfl Try.eqGuardType47 Try.underlying47 Try.underlying5 Sz5 (by simp [leb_length, words4_length, List.length_replicate, subB_all, padB_all, ha, h1]) (by simp [leb_length, words4_length, List.length_replicate, subB_all, padB_all, ha, h1]) (decide_eq_true (rfl)) ?_
    refine Tr.pick rfl rfl rfl rfl rfl rfl ?_
    refine Tr.move rfl rfl rfl ?_
    first
      | refine Tr.loadAll rfl rfl rfl Try.underlying47 rfl Sz47 (by first | exact mem0 | exact mem1 | exact mem2 | exact mem3 | exact mem4 | exact mem5 | exact mem6 | exact mem7) (by simp [leb_length, words4_length, List.length_replicate, subB_all, padB_all, ha, h1]) ?_
      | refine Tr.loadN _ rfl rfl rfl Try.underlying47 rfl Sz47 (by first | exact mem0 | exact mem1 | exact mem2 | exact mem3 | exact mem4 | exact mem5 | exact mem6 | exact mem7) (by exact rfl) (by simp [leb_length, words4_length, List.length_replicate, subB_all, padB_all, ha, h1]) ?_
    first
      | refine Tr.loadAll rfl rfl rfl Try.underlying47 rfl Sz47 (by first | exact mem0 | exact mem1 | exact mem2 | exact mem3 | exact mem4 | exact mem5 | exact mem6 | exact mem7) (by simp [leb_length, words4_length, List.length_replicate, subB_all, padB_all, ha, h1]) ?_
      | refine Tr.loadN _ rfl rfl rfl Try.underlying47 rfl Sz47 (by first | exact mem0 | exact mem1 | exact mem2 | exact mem3 | exact mem4 | exact mem5 | exact mem6 | exact mem7) (by exact rfl) (by simp [leb_length, words4_length, List.length_replicate, subB_all, padB_all, ha, h1]) ?_
    refine Tr.move rfl rfl rfl ?_
    refine Tr.conv rfl rfl rfl Try.underlying59 Try.underlying24 (cv_u32_u64 _) ?_
    refine Tr.move rfl rfl rfl ?_
    refine Tr.conv rfl rfl rfl Try.underlying59 Try.underlying24 (cv_u32_u64 _) ?_
    refine Tr.add_u64 rfl rfl rfl rfl ?_
    refine Tr.callV rfl rfl rfl rfl Body28 (scalar_add _ _ (by simp [leb_length, words4_length, List.length_replicate, subB_all, padB_all, ha, h1]) (by simp [leb_length, words4_length, List.length_replicate, subB_all, padB_all, ha, h1])) (fun _ _ => trivial) ?_
    refine Tr.callV rfl rfl rfl rfl Body25 (law_small _) (fun _ _ => trivial) ?_
    refine Tr.eql_bytes rfl rfl rfl rfl Try.eqGuardType47 Try.underlying47 Try.underlying5 Sz5 (by simp [leb_length, words4_length, List.length_replicate, subB_all, padB_all, ha, h1]) (by simp [leb_length, words4_length, List.length_replicate, subB_all, padB_all, ha, h1]) (decide_eq_true (by rw [le_leb32 (u32_lt _), le_leb32 (u32_lt _), ← u32_add, u64_modL])) ?_
    refine Tr.pick rfl rfl rfl rfl rfl rfl ?_
    refine Tr.move rfl rfl rfl ?_
    first
      | refine Tr.loadAll rfl rfl rfl Try.underlying47 rfl Sz47 (by first | exact mem0 | exact mem1 | exact mem2 | exact mem3 | exact mem4 | exact mem5 | exact mem6 | exact mem7) (by simp [leb_length, words4_length, List.length_replicate, subB_all, padB_all, ha, h1]) ?_
      | refine Tr.loadN _ rfl rfl rfl Try.underlying47 rfl Sz47 (by first | exact mem0 | exact mem1 | exact mem2 | exact mem3 | exact mem4 | exact mem5 | exact mem6 | exact mem7) (by exact rfl) (by simp [leb_length, words4_length, List.length_replicate, subB_all, padB_all, ha, h1]) ?_
    first
      | refine Tr.loadAll rfl rfl rfl Try.underlying47 rfl Sz47 (by first | exact mem0 | exact mem1 | exact mem2 | exact mem3 | exact mem4 | exact mem5 | exact mem6 | exact mem7) (by simp [leb_length, words4_length, List.length_replicate, subB_all, padB_all, ha, h1]) ?_
      | refine Tr.loadN _ rfl rfl rfl Try.underlying47 rfl Sz47 (by first | exact mem0 | exact mem1 | exact mem2 | exact mem3 | exact mem4 | exact mem5 | exact mem6 | exact mem7) (by exact rfl) (by simp [leb_length, words4_length, List.length_replicate, subB_all, padB_all, ha, h1]) ?_
    refine Tr.move rfl rfl rfl ?_
    refine Tr.conv rfl rfl rfl Try.underlying59 Try.underlying24 (cv_u32_u64 _) ?_
    refine Tr.move rfl rfl rfl ?_
    refine Tr.conv rfl rfl rfl Try.underlying59 Try.underlying24 (cv_u32_u64 _) ?_
    refine Tr.mul_u64 rfl rfl rfl rfl ?_
    refine Tr.callV rfl rfl rfl rfl Body29 (scalar_mul _ _ (by simp [leb_length, words4_length, List.length_replicate, subB_all, padB_all, ha, h1]) (by simp [leb_length, words4_length, List.length_replicate, subB_all, padB_all, ha, h1])) (fun _ _ => trivial) ?_
    refine Tr.callV rfl rfl rfl rfl Body25 (law_small _) (fun _ _ => trivial) ?_
    refine Tr.eql_bytes rfl rfl rfl rfl Try.eqGuardType47 Try.underlying47 Try.underlying5 Sz5 (by simp [leb_length, words4_length, List.length_replicate, subB_all, padB_all, ha, h1]) (by simp [leb_length, words4_length, List.length_replicate, subB_all, padB_all, ha, h1]) (decide_eq_true (by rw [le_leb32 (u32_lt _), le_leb32 (u32_lt _), ← u32_mul, u64_modL])) ?_
    refine Tr.pick rfl rfl rfl rfl rfl rfl ?_
    refine Tr.move rfl rfl rfl ?_
    first
      | refine Tr.loadAll rfl rfl rfl Try.underlying47 rfl Sz47 (by first | exact mem0 | exact mem1 | exact mem2 | exact mem3 | exact mem4 | exact mem5 | exact mem6 | exact mem7) (by simp [leb_length, words4_length, List.length_replicate, subB_all, padB_all, ha, h1]) ?_
      | refine Tr.loadN _ rfl rfl rfl Try.underlying47 rfl Sz47 (by first | exact mem0 | exact mem1 | exact mem2 | exact mem3 | exact mem4 | exact mem5 | exact mem6 | exact mem7) (by exact rfl) (by simp [leb_length, words4_length, List.length_replicate, subB_all, padB_all, ha, h1]) ?_
    first
      | refine Tr.loadAll rfl rfl rfl Try.underlying47 rfl Sz47 (by first | exact mem0 | exact mem1 | exact mem2 | exact mem3 | exact mem4 | exact mem5 | exact mem6 | exact mem7) (by simp [leb_length, words4_length, List.length_replicate, subB_all, padB_all, ha, h1]) ?_
      | refine Tr.loadN _ rfl rfl rfl Try.underlying47 rfl Sz47 (by first | exact mem0 | exact mem1 | exact mem2 | exact mem3 | exact mem4 | exact mem5 | exact mem6 | exact mem7) (by exact rfl) (by simp [leb_length, words4_length, List.length_replicate, subB_all, padB_all, ha, h1]) ?_
    first
      | refine Tr.loadAll rfl rfl rfl Try.underlying47 rfl Sz47 (by first | exact mem0 | exact mem1 | exact mem2 | exact mem3 | exact mem4 | exact mem5 | exact mem6 | exact mem7) (by simp [leb_length, words4_length, List.length_replicate, subB_all, padB_all, ha, h1]) ?_
      | refine Tr.loadN _ rfl rfl rfl Try.underlying47 rfl Sz47 (by first | exact mem0 | exact mem1 | exact mem2 | exact mem3 | exact mem4 | exact mem5 | exact mem6 | exact mem7) (by exact rfl) (by simp [leb_length, words4_length, List.length_replicate, subB_all, padB_all, ha, h1]) ?_
    refine Tr.move rfl rfl rfl ?_
    refine Tr.conv rfl rfl rfl Try.underlying59 Try.underlying24 (cv_u32_u64 _) ?_
    refine Tr.move rfl rfl rfl ?_
    refine Tr.conv rfl rfl rfl Try.underlying59 Try.underlying24 (cv_u32_u64 _) ?_
    refine Tr.mul_u64 rfl rfl rfl rfl ?_
    first
      | refine Tr.loadAll rfl rfl rfl Try.underlying47 rfl Sz47 (by first | exact mem0 | exact mem1 | exact mem2 | exact mem3 | exact mem4 | exact mem5 | exact mem6 | exact mem7) (by simp [leb_length, words4_length, List.length_replicate, subB_all, padB_all, ha, h1]) ?_
      | refine Tr.loadN _ rfl rfl rfl Try.underlying47 rfl Sz47 (by first | exact mem0 | exact mem1 | exact mem2 | exact mem3 | exact mem4 | exact mem5 | exact mem6 | exact mem7) (by exact rfl) (by simp [leb_length, words4_length, List.length_replicate, subB_all, padB_all, ha, h1]) ?_
    refine Tr.callV rfl rfl rfl rfl Body27 (scalar_muladd _ _ _ (by simp [leb_length, words4_length, List.length_replicate, subB_all, padB_all, ha, h1]) (by simp [leb_length, words4_length, List.length_replicate, subB_all, padB_all, ha, h1]) (by simp [leb_length, words4_length, List.length_replicate, subB_all, padB_all, ha, h1])) (fun _ _ => trivial) ?_
    refine Tr.callV rfl rfl rfl rfl Body25 (law_small _) (fun _ _ => trivial) ?_
    refine Tr.callV rfl rfl rfl rfl Body28 (scalar_add _ _ (by simp [leb_length, words4_length, List.length_replicate, subB_all, padB_all, ha, h1]) (by simp [leb_length, words4_length, List.length_replicate, subB_all, padB_all, ha, h1])) (fun _ _ => trivial) ?_
    refine Tr.eql_bytes rfl rfl rfl rfl Try.eqGuardType47 Try.underlying47 Try.underlying5 Sz5 (by simp [leb_length, words4_length, List.length_replicate, subB_all, padB_all, ha, h1]) (by simp [leb_length, words4_length, List.length_replicate, subB_all, padB_all, ha, h1]) (decide_eq_true (by rw [le_leb32 (u32_lt _), le_leb32 (u32_lt _), le_leb32 (u64_256 _), u32_mul])) ?_
    refine Tr.pick rfl rfl rfl rfl rfl rfl ?_
    refine Tr.assign rfl rfl rfl ?_
    refine Tr.nil ?_
    refine at_n ?_
    refine Sat.ret ?_
    refine en_r ?_
    refine ⟨_, [], res_tmp rfl rfl, (by simp), (by simp), ?_, rfl⟩
    rfl

end Go.Proofs.Ytjeggfgbcafenaa
