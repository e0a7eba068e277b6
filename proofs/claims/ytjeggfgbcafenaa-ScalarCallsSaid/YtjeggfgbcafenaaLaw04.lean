/- Contracts of the law package of the scalars: small, lives. Conditions: none. -/
import Derived.Test.YtjeggfgbcafenaaRef
import Derived.Test.YtjeggfgbcafenaaSlice
namespace Go.Proofs.Ytjeggfgbcafenaa
open Go Hw
set_option linter.unusedVariables false
set_option linter.unusedSimpArgs false

set_option maxRecDepth 100000 in
set_option maxHeartbeats 1000000 in
theorem law_small (x : UInt64) : Meets Try.prog 25 [u64 x] [] (fun _ => True) (fun v out => v = agg (bytesV (leb 32 x.toNat)) ∧ out = []) := by
  intro W hW
  refine calls_of (hp0 := []) Try.func25 rfl 18 Try.ntmps25 rfl (HRep.nil _) ?_
  refine Sat.seq ?_
  -- region 0
  refine Sat.region ?_
  refine Tr.alloc (cs := (bytesV (List.replicate 32 0))) rfl Zr47 rfl ?_
  intro n2 hn2 hf2
  refine Tr.nil ?_
  refine at_n ?_
  refine Sat.seq ?_
  -- region 1
  refine Sat.region ?_
  refine Tr.alloc (cs := (bytesV (List.replicate 32 0))) rfl Zr47 rfl ?_
  intro n3 hn3 hf3
  refine Tr.nil ?_
  refine at_n ?_
  refine Sat.seq ?_
  refine Sat.seq ?_
  -- region 2
  refine Sat.region ?_
  refine Tr.assign rfl rfl rfl ?_
  refine Tr.nil ?_
  refine at_n ?_
  refine Sat.block ?_
  refine Sat.loop (ι := Nat) (fun k => ⟨[(0, u64 x), (2, ptr n2 0), (3, ptr n3 0), (4, i64 (k : Int))], [⟨n3, bytesV (padB 32 x.toNat k), 47, 32⟩, ⟨n2, bytesV (List.replicate 32 0), 47, 32⟩]⟩) (fun k => k ≤ 8) (fun k => 8 - k) (0) ?_ ?_ ?_
  · omega
  · exact weak_of (wk1 rfl (wk1 rfl (wk1 rfl (wk1 rfl wk0)))) (wh1 (by rw [padB_zero]; exact mem0) (wh1 (by first | exact mem0 | exact mem1 | exact mem2 | exact mem3 | exact mem4 | exact mem5 | exact mem6 | exact mem7) wh0)) (by repeat (first | exact ns_nil | refine ns_keep rfl ?_ | refine ns_skip ?_))
  ·
    rintro k hk
    have hpl := padB_length 32 x.toNat k (by omega)
    refine Sat.seq ?_
    refine Sat.seq ?_
    -- region 3
    refine Sat.region ?_
    refine Tr.move rfl rfl rfl ?_
    refine Tr.lss rfl rfl rfl rfl rfl ?_
    refine Tr.nil ?_
    refine at_n ?_
    first
      | refine Sat.condP rfl (fun hc0 => ?_) (fun hc0 => ?_)
      | refine Sat.condNP rfl (fun hc0 => ?_) (fun hc0 => ?_)
      | refine Sat.cond rfl (fun hc0 => ?_) (fun hc0 => ?_)
    ·
      refine Sat.skip ?_
      refine at_n ?_
      refine Sat.seq ?_
      refine Sat.block ?_
      -- region 5
      refine Sat.region ?_
      refine Tr.move rfl rfl rfl ?_
      refine Tr.move rfl rfl rfl ?_
      refine Tr.move rfl rfl rfl ?_
      refine Tr.mul_i64 rfl rfl rfl rfl (by omega) ?_
      refine Tr.conv rfl rfl rfl Try.underlying3 Try.underlying80 (cv_i64_u64 _) ?_
      refine Tr.shr_u64 rfl rfl rfl rfl (8 * k) (by rw [wordOf_id _ (by omega)]; omega) (by omega) ?_
      refine Tr.conv rfl rfl rfl Try.underlying24 Try.underlying5 (cv_u64_u8 _) ?_
      first
        | refine Tr.idxArr1 rfl rfl rfl rfl Try.underlying47 Sz5 _ rfl (by omega) ?_
        | refine Tr.idxArrO rfl rfl rfl rfl Try.underlying47 Sz5 _ rfl (by omega) ?_
        | refine Tr.idxArr1 rfl rfl rfl rfl Try.underlying47 Sz5 _ (toNat_back (by omega)) (by omega) ?_
        | refine Tr.idxArrO rfl rfl rfl rfl Try.underlying47 Sz5 _ (toNat_back (by omega)) (by omega) ?_
      refine Tr.store1 rfl rfl rfl rfl rfl Sz5 (by first | exact mem0 | exact mem1 | exact mem2 | exact mem3 | exact mem4 | exact mem5 | exact mem6 | exact mem7) (by first | (simp [leb_length, words4_length, List.length_replicate, subB_all, padB_all]; done) | (simp [leb_length, words4_length, List.length_replicate, subB_all, padB_all]; omega)) (by first | exact set_words _ _ _ | exact set_bytes _ _ _ | exact set_ints _ _ _ | rfl) (by first | exact upd0 | exact upd1 | exact upd2 | exact upd3 | exact upd4 | exact upd5 | exact upd6 | exact upd7) ?_
      refine Tr.nil ?_
      refine bl_n ?_
      refine at_n ?_
      -- region 4
      refine Sat.region ?_
      refine Tr.move rfl rfl rfl ?_
      refine Tr.add_i64 rfl rfl rfl rfl (by omega) ?_
      refine Tr.assign rfl rfl rfl ?_
      refine Tr.nil ?_
      refine at_n ?_
      exact ⟨k + 1, by omega, by omega, weak_of (wk1 rfl (wk1 rfl (wk1 rfl (wk1 rfl wk0)))) (wh1 (by rw [← zero_set x k (by omega)]; exact mem0) (wh1 (by first | exact mem0 | exact mem1 | exact mem2 | exact mem3 | exact mem4 | exact mem5 | exact mem6 | exact mem7) wh0)) (by repeat (first | exact ns_nil | refine ns_keep rfl ?_ | refine ns_skip ?_))⟩
    ·
      obtain rfl : k = 8 := by omega
      rw [pad_small] at *
      refine Sat.exit ?_
      refine at_x ?_
      refine at_x ?_
      refine bl_h ?_
      refine at_n ?_
      refine Sat.seq ?_
      -- region 6
      refine Sat.region ?_
      first
        | refine Tr.loadAll rfl rfl rfl Try.underlying47 rfl Sz47 (by first | exact mem0 | exact mem1 | exact mem2 | exact mem3 | exact mem4 | exact mem5 | exact mem6 | exact mem7) (by simp [leb_length, words4_length, List.length_replicate, subB_all, padB_all]) ?_
        | refine Tr.loadN _ rfl rfl rfl Try.underlying47 rfl Sz47 (by first | exact mem0 | exact mem1 | exact mem2 | exact mem3 | exact mem4 | exact mem5 | exact mem6 | exact mem7) (by exact rfl) (by simp [leb_length, words4_length, List.length_replicate, subB_all, padB_all]) ?_
      first
        | refine Tr.storeAll rfl rfl rfl rfl (by simp [isCell]) Sz47 (by simp [leb_length, words4_length, List.length_replicate, subB_all, padB_all]) (by first | exact mem0 | exact mem1 | exact mem2 | exact mem3 | exact mem4 | exact mem5 | exact mem6 | exact mem7) (by simp [leb_length, words4_length, List.length_replicate, subB_all, padB_all]) (by first | exact upd0 | exact upd1 | exact upd2 | exact upd3 | exact upd4 | exact upd5 | exact upd6 | exact upd7) ?_
        | refine Tr.storeN _ rfl rfl rfl rfl rfl (by simp [isCell]) Sz47 (by simp [leb_length, words4_length, List.length_replicate, subB_all, padB_all]) (by first | exact mem0 | exact mem1 | exact mem2 | exact mem3 | exact mem4 | exact mem5 | exact mem6 | exact mem7) (by simp [leb_length, words4_length, List.length_replicate, subB_all, padB_all]) (by exact rfl) (by first | exact upd0 | exact upd1 | exact upd2 | exact upd3 | exact upd4 | exact upd5 | exact upd6 | exact upd7) ?_
      refine Tr.nil ?_
      refine at_n ?_
      refine Sat.ret ?_
      refine en_r ?_
      refine ⟨_, [], res_cell rfl rfl Try.underlying47 rfl Sz47 (by first | exact mem0 | exact mem1 | exact mem2 | exact mem3 | exact mem4 | exact mem5 | exact mem6 | exact mem7) (by simp [leb_length, words4_length, List.length_replicate, subB_all, padB_all]), (by simp), (by simp), ?_, rfl⟩
      rfl


theorem law_small_ex (x : UInt64) : ∃ s : List UInt8, Meets Try.prog 25 [u64 x] [] (fun _ => True) (fun v out => v = agg (bytesV s) ∧ out = []) ∧ s.length = 32 ∧ s = leb 32 x.toNat :=
  ⟨_, law_small x, leb_length 32 _, rfl⟩
theorem scalar_L_ex : ∃ s : List UInt8, Meets Try.prog 20 [] [] (fun _ => True) (fun v out => v = agg (bytesV s) ∧ out = []) ∧ s.length = 32 ∧ s = leb 32 L :=
  ⟨_, scalar_L, leb_length 32 _, rfl⟩
theorem scalar_rest_nil_ex : ∃ s : List UInt8, Meets Try.prog 21 [.slice none 0 0] [] (fun _ => True) (fun v out => v = .tuple #[agg (bytesV s), i64 0] ∧ out = []) ∧ s.length = 32 ∧ s = leb 32 0 :=
  ⟨_, scalar_rest_nil, leb_length 32 _, rfl⟩


set_option maxRecDepth 100000 in
set_option maxHeartbeats 1000000 in
theorem law_lives  : Meets Try.prog 22 [] [] (fun _ => True) (fun v out => v = .bool true ∧ out = []) := by
  intro W hW
  obtain ⟨l, cl, hl, el⟩ := scalar_L_ex
  obtain ⟨s1, c1, h1, e1⟩ := law_small_ex 1
  obtain ⟨s2, c2, h2, e2⟩ := law_small_ex 2
  have ll : le l = L := by rw [el]; exact le_leb32 L_lt
  have l1 : le s1 = 1 := by rw [e1]; decide
  have l2 : le s2 = 2 := by rw [e2]; decide
  refine calls_of (hp0 := []) Try.func22 rfl 38 Try.ntmps22 rfl (HRep.nil _) ?_
  refine Sat.seq ?_
  -- region 0
  refine Sat.region ?_
  refine Tr.assign rfl rfl rfl ?_
  refine Tr.nil ?_
  refine at_n ?_
  refine Sat.seq ?_
  -- region 1
  refine Sat.region ?_
  refine Tr.callV rfl rfl rfl rfl Body20 (cl) (fun _ _ => trivial) ?_
  refine Tr.alloc (cs := (bytesV (List.replicate 32 0))) rfl Zr47 rfl ?_
  intro n1 hn1 hf1
  first
    | refine Tr.storeAll rfl rfl rfl rfl (by simp [isCell]) Sz47 (by simp [leb_length, words4_length, List.length_replicate, subB_all, padB_all, hl, h1, h2]) (by first | exact mem0 | exact mem1 | exact mem2 | exact mem3 | exact mem4 | exact mem5 | exact mem6 | exact mem7) (by simp [leb_length, words4_length, List.length_replicate, subB_all, padB_all, hl, h1, h2]) (by first | exact upd0 | exact upd1 | exact upd2 | exact upd3 | exact upd4 | exact upd5 | exact upd6 | exact upd7) ?_
    | refine Tr.storeN _ rfl rfl rfl rfl rfl (by simp [isCell]) Sz47 (by simp [leb_length, words4_length, List.length_replicate, subB_all, padB_all, hl, h1, h2]) (by first | exact mem0 | exact mem1 | exact mem2 | exact mem3 | exact mem4 | exact mem5 | exact mem6 | exact mem7) (by simp [leb_length, words4_length, List.length_replicate, subB_all, padB_all, hl, h1, h2]) (by exact rfl) (by first | exact upd0 | exact upd1 | exact upd2 | exact upd3 | exact upd4 | exact upd5 | exact upd6 | exact upd7) ?_
  refine Tr.nil ?_
  refine at_n ?_
  refine Sat.seq ?_
  -- region 2
  refine Sat.region ?_
  refine Tr.sliceArr rfl rfl rfl Try.underlying47 Sz5 ?_
  refine Tr.callV rfl rfl rfl rfl Body21 (scalar_rest _ 0 _ 32 l (by simp [leb_length, words4_length, List.length_replicate, subB_all, padB_all, hl, h1, h2]) (by omega)) (fun W h => sees_own h (by first | exact mem0 | exact mem1 | exact mem2 | exact mem3 | exact mem4 | exact mem5 | exact mem6 | exact mem7)) ?_
  refine Tr.move rfl rfl rfl ?_
  refine Tr.extract rfl rfl rfl rfl ?_
  refine Tr.extract rfl rfl rfl rfl ?_
  refine Tr.alloc (cs := (bytesV (List.replicate 32 0))) rfl Zr47 rfl ?_
  intro n2 hn2 hf2
  first
    | refine Tr.storeAll rfl rfl rfl rfl (by simp [isCell]) Sz47 (by simp [leb_length, words4_length, List.length_replicate, subB_all, padB_all, hl, h1, h2]) (by first | exact mem0 | exact mem1 | exact mem2 | exact mem3 | exact mem4 | exact mem5 | exact mem6 | exact mem7) (by simp [leb_length, words4_length, List.length_replicate, subB_all, padB_all, hl, h1, h2]) (by first | exact upd0 | exact upd1 | exact upd2 | exact upd3 | exact upd4 | exact upd5 | exact upd6 | exact upd7) ?_
    | refine Tr.storeN _ rfl rfl rfl rfl rfl (by simp [isCell]) Sz47 (by simp [leb_length, words4_length, List.length_replicate, subB_all, padB_all, hl, h1, h2]) (by first | exact mem0 | exact mem1 | exact mem2 | exact mem3 | exact mem4 | exact mem5 | exact mem6 | exact mem7) (by simp [leb_length, words4_length, List.length_replicate, subB_all, padB_all, hl, h1, h2]) (by exact rfl) (by first | exact upd0 | exact upd1 | exact upd2 | exact upd3 | exact upd4 | exact upd5 | exact upd6 | exact upd7) ?_
  refine Tr.assign rfl rfl rfl ?_
  refine Tr.nil ?_
  refine at_n ?_
  refine Sat.seq ?_
  -- region 3
  refine Sat.region ?_
  refine Tr.callV rfl rfl rfl rfl Body25 (c1) (fun _ _ => trivial) ?_
  refine Tr.callV rfl rfl rfl rfl Body24 (scalar_neg _ (by simp [leb_length, words4_length, List.length_replicate, subB_all, padB_all, hl, h1, h2])) (fun _ _ => trivial) ?_
  refine Tr.alloc (cs := (bytesV (List.replicate 32 0))) rfl Zr47 rfl ?_
  intro n4 hn4 hf4
  first
    | refine Tr.storeAll rfl rfl rfl rfl (by simp [isCell]) Sz47 (by simp [leb_length, words4_length, List.length_replicate, subB_all, padB_all, hl, h1, h2]) (by first | exact mem0 | exact mem1 | exact mem2 | exact mem3 | exact mem4 | exact mem5 | exact mem6 | exact mem7) (by simp [leb_length, words4_length, List.length_replicate, subB_all, padB_all, hl, h1, h2]) (by first | exact upd0 | exact upd1 | exact upd2 | exact upd3 | exact upd4 | exact upd5 | exact upd6 | exact upd7) ?_
    | refine Tr.storeN _ rfl rfl rfl rfl rfl (by simp [isCell]) Sz47 (by simp [leb_length, words4_length, List.length_replicate, subB_all, padB_all, hl, h1, h2]) (by first | exact mem0 | exact mem1 | exact mem2 | exact mem3 | exact mem4 | exact mem5 | exact mem6 | exact mem7) (by simp [leb_length, words4_length, List.length_replicate, subB_all, padB_all, hl, h1, h2]) (by exact rfl) (by first | exact upd0 | exact upd1 | exact upd2 | exact upd3 | exact upd4 | exact upd5 | exact upd6 | exact upd7) ?_
  refine Tr.nil ?_
  refine at_n ?_
  refine Sat.seq ?_
  -- region 4
  refine Sat.region ?_
  refine Tr.mkSlice (z := u8 0) (by' := 1) 65 rfl rfl rfl rfl Try.underlying27 Sz5 Zr5 (by unfold By; kernel_rfl) rfl (by omega) (by omega) (by omega) ?_
  intro n16
  refine Tr.callV rfl rfl rfl rfl Body21 (scalar_rest_big _ 0 _ 65 (by decide)) (fun _ _ => trivial) ?_
  refine Tr.move rfl rfl rfl ?_
  refine Tr.extract rfl rfl rfl rfl ?_
  refine Tr.extract rfl rfl rfl rfl ?_
  refine Tr.alloc (cs := (bytesV (List.replicate 32 0))) rfl Zr47 rfl ?_
  intro n5 hn5 hf5
  first
    | refine Tr.storeAll rfl rfl rfl rfl (by simp [isCell]) Sz47 (by simp [leb_length, words4_length, List.length_replicate, subB_all, padB_all, hl, h1, h2]) (by first | exact mem0 | exact mem1 | exact mem2 | exact mem3 | exact mem4 | exact mem5 | exact mem6 | exact mem7) (by simp [leb_length, words4_length, List.length_replicate, subB_all, padB_all, hl, h1, h2]) (by first | exact upd0 | exact upd1 | exact upd2 | exact upd3 | exact upd4 | exact upd5 | exact upd6 | exact upd7) ?_
    | refine Tr.storeN _ rfl rfl rfl rfl rfl (by simp [isCell]) Sz47 (by simp [leb_length, words4_length, List.length_replicate, subB_all, padB_all, hl, h1, h2]) (by first | exact mem0 | exact mem1 | exact mem2 | exact mem3 | exact mem4 | exact mem5 | exact mem6 | exact mem7) (by simp [leb_length, words4_length, List.length_replicate, subB_all, padB_all, hl, h1, h2]) (by exact rfl) (by first | exact upd0 | exact upd1 | exact upd2 | exact upd3 | exact upd4 | exact upd5 | exact upd6 | exact upd7) ?_
  refine Tr.assign rfl rfl rfl ?_
  refine Tr.nil ?_
  refine at_n ?_
  refine Sat.seq ?_
  -- region 5
  refine Sat.draw [(0, 0), (0, 1), (0, 2), (1, 3), (0, 4), (0, 5), (0, 6), (0, 7), (1, 8), (3, 9), (3, 10), (3, 11), (0, 12), (0, 13), (0, 14), (0, 15), (0, 16), (0, 17), (0, 18)] Mixed (by kernel_rfl) ?_
  refine Tr.move rfl rfl rfl ?_
  refine Tr.eqi rfl rfl rfl rfl (decide_eq_true (rfl)) ?_
  refine Tr.move rfl rfl rfl ?_
  first
    | refine Tr.loadAll rfl rfl rfl Try.underlying47 rfl Sz47 (by first | exact mem0 | exact mem1 | exact mem2 | exact mem3 | exact mem4 | exact mem5 | exact mem6 | exact mem7) (by simp [leb_length, words4_length, List.length_replicate, subB_all, padB_all, hl, h1, h2]) ?_
    | refine Tr.loadN _ rfl rfl rfl Try.underlying47 rfl Sz47 (by first | exact mem0 | exact mem1 | exact mem2 | exact mem3 | exact mem4 | exact mem5 | exact mem6 | exact mem7) (by exact rfl) (by simp [leb_length, words4_length, List.length_replicate, subB_all, padB_all, hl, h1, h2]) ?_
  refine Tr.build (cs := bytesV (List.replicate 32 0)) rfl rfl rfl (fun w => by kernel_rfl) ?_
  refine Tr.eql_bytes rfl rfl rfl rfl Try.eqGuardType47 Try.underlying47 Try.underlying5 Sz5 (by simp [leb_length, words4_length, List.length_replicate, subB_all, padB_all, hl, h1, h2]) (by simp [leb_length, words4_length, List.length_replicate, subB_all, padB_all, hl, h1, h2]) (decide_eq_true (by rw [ll, Nat.mod_self]; decide)) ?_
  refine Tr.pick rfl rfl rfl rfl rfl rfl ?_
  refine Tr.move rfl rfl rfl ?_
  first
    | refine Tr.loadAll rfl rfl rfl Try.underlying47 rfl Sz47 (by first | exact mem0 | exact mem1 | exact mem2 | exact mem3 | exact mem4 | exact mem5 | exact mem6 | exact mem7) (by simp [leb_length, words4_length, List.length_replicate, subB_all, padB_all, hl, h1, h2]) ?_
    | refine Tr.loadN _ rfl rfl rfl Try.underlying47 rfl Sz47 (by first | exact mem0 | exact mem1 | exact mem2 | exact mem3 | exact mem4 | exact mem5 | exact mem6 | exact mem7) (by exact rfl) (by simp [leb_length, words4_length, List.length_replicate, subB_all, padB_all, hl, h1, h2]) ?_
  refine Tr.callV rfl rfl rfl rfl Body25 (c2) (fun _ _ => trivial) ?_
  refine Tr.callV rfl rfl rfl rfl Body28 (scalar_add _ _ (by simp [leb_length, words4_length, List.length_replicate, subB_all, padB_all, hl, h1, h2]) (by simp [leb_length, words4_length, List.length_replicate, subB_all, padB_all, hl, h1, h2])) (fun _ _ => trivial) ?_
  refine Tr.callV rfl rfl rfl rfl Body25 (c1) (fun _ _ => trivial) ?_
  refine Tr.eql_bytes rfl rfl rfl rfl Try.eqGuardType47 Try.underlying47 Try.underlying5 Sz5 (by simp [leb_length, words4_length, List.length_replicate, subB_all, padB_all, hl, h1, h2]) (by simp [leb_length, words4_length, List.length_replicate, subB_all, padB_all, hl, h1, h2]) (decide_eq_true (by rw [le_leb32 (lm _), l1, l2, e1]; decide)) ?_
  refine Tr.pick rfl rfl rfl rfl rfl rfl ?_
  refine Tr.move rfl rfl rfl ?_
  refine Tr.move rfl rfl rfl ?_
  refine Tr.eqi rfl rfl rfl rfl (decide_eq_true (rfl)) ?_
  refine Tr.pick rfl rfl rfl rfl rfl rfl ?_
  refine Tr.assign rfl rfl rfl ?_
  refine Tr.nil ?_
  refine at_n ?_
  refine Sat.ret ?_
  refine en_r ?_
  refine ⟨_, [], res_tmp rfl rfl, (by simp), (by simp), ?_, rfl⟩
  rfl

end Go.Proofs.Ytjeggfgbcafenaa
