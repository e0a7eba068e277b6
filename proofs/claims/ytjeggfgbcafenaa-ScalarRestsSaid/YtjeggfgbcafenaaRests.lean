/- What ScalarRests returns. Conditions: the lengths of the row. -/
import Derived.Test.YtjeggfgbcafenaaLaw04
import Derived.Test.YtjeggfgbcafenaaAppend2
namespace Go.Proofs.Ytjeggfgbcafenaa
open Go Hw
set_option linter.unusedVariables false
set_option linter.unusedSimpArgs false


theorem cnt_zero (c m : Nat) (hm : m < 2 ^ 256) (h : c = 0 ↔ ∀ j, j < 256 → m.testBit j = false) : (decide ((c : Int) = 0) == decide (leb 32 m = List.replicate 32 0)) = true := by
  have h1 : (c = 0) ↔ m = 0 := by
    rw [h]
    constructor
    · intro hj
      apply Nat.eq_of_testBit_eq
      intro i
      rw [Nat.zero_testBit]
      rcases Nat.lt_or_ge i 256 with hi | hi
      · exact hj i hi
      · exact Nat.testBit_lt_two_pow (Nat.lt_of_lt_of_le hm (Nat.pow_le_pow_right (by decide) hi))
    · rintro rfl j _
      exact Nat.zero_testBit j
  have h2 : leb 32 m = List.replicate 32 0 ↔ m = 0 := by
    constructor
    · intro e
      have := congrArg le e
      rwa [le_leb32 hm, le_zeros] at this
    · rintro rfl
      exact leb_zero32
  rw [beq_iff_eq, decide_eq_decide, h2, ← h1]
  omega
theorem sees_take {w : World} {b o k : Nat} {xs : List UInt8} (h : Sees w b o (bytesV xs)) : Sees w b o (bytesV (xs.take k)) := fun j v hj => h j v (by
  simp only [bytesV, List.map_take, List.getElem?_take] at hj ⊢
  split at hj
  · exact hj
  · cases hj)
theorem sees_drop {w : World} {b o k n c : Nat} {xs : List UInt8} (hn : xs.length = n) (hnc : n ≤ c) (h : Sees w b o (bytesV xs)) : Sees w b (if c = k then o else o + k) (bytesV (xs.drop k)) := fun j v hj => by
  simp only [bytesV, List.map_drop, List.getElem?_drop] at hj
  by_cases e : c = k
  · rw [List.getElem?_eq_none (by simp; omega)] at hj; cases hj
  · rw [if_neg e, Nat.add_assoc]
    exact h _ v hj
theorem bytesV_zeros (xs : List UInt8) (m : Nat) : [] ++ bytesV xs ++ List.replicate m (u8 0) = bytesV (xs ++ List.replicate m 0) := by simp [bytesV]
theorem le_more (xs : List UInt8) (m : Nat) : le (xs ++ List.replicate m 0) = le xs := by rw [le_append, le_zeros, Nat.mul_zero, Nat.add_zero]
theorem cnt_step {m i c : Nat} (h : c = 0 ↔ ∀ j, j < i → m.testBit j = false) : (m.testBit i = true → ((c + 1 = 0) ↔ ∀ j, j < i + 1 → m.testBit j = false)) ∧ (m.testBit i = false → (c = 0 ↔ ∀ j, j < i + 1 → m.testBit j = false)) := by
  refine ⟨fun hb => ⟨fun e => by omega, fun hj => by have := hj i (by omega); rw [hb] at this; cases this⟩, fun hb => h.trans ⟨fun hj j hji => ?_, fun hj j hji => hj j (by omega)⟩⟩
  rcases Nat.lt_or_ge j i with h1 | h1
  · exact hj j h1
  · obtain rfl : j = i := by omega
    exact hb


set_option maxRecDepth 100000 in
set_option maxHeartbeats 4000000 in
theorem law_rests_in (b o c n : Nat) (xs : List UInt8) (hx : xs.length = n) (hn : n ≤ 64) (hnc : n ≤ c) (k : Nat) (hk : k ≤ n) : Meets Try.prog 7 [.slice (some ⟨b, o, none⟩) n c, i64 (k : Int)] [] (fun W => Sees W b o (bytesV xs)) (fun v out => v = .bool true ∧ out = []) := by
  intro W hW
  obtain ⟨s256, c256, h256, e256⟩ := law_small_ex 256
  have l256 : le s256 = 256 := by rw [e256]; decide
  obtain ⟨pw, hpw⟩ : ∃ pw : Nat → Nat, pw = fun k => 256 ^ k := ⟨_, rfl⟩
  have p0 : pw 0 = 1 := by rw [hpw]
  have ps : ∀ k, pw (k + 1) = pw k * 256 := fun k => by rw [hpw]; exact Nat.pow_succ 256 k
  have hsum : le xs = le (xs.take k) + pw k * le (xs.drop k) := by rw [hpw]; exact le_take_drop xs k (by omega)
  clear hpw
  refine calls_of (hp0 := []) Try.func7 rfl 113 Try.ntmps7 rfl (HRep.nil _) ?_
  refine Sat.seq ?_
  -- region 0
  refine Sat.region ?_
  refine Tr.assign rfl rfl rfl ?_
  refine Tr.nil ?_
  refine at_n ?_
  refine Sat.seq ?_
  refine Sat.seq ?_
  -- region 1
  refine Sat.region ?_
  refine Tr.callV rfl rfl rfl rfl Body22 (law_lives) (fun _ _ => trivial) ?_
  refine Tr.not rfl rfl rfl ?_
  refine Tr.nil ?_
  refine at_n ?_
  refine Sat.cond_f rfl (rfl) ?_
  refine Sat.skip ?_
  refine at_n ?_
  refine Sat.seq ?_
  refine Sat.seq ?_
  -- region 3
  refine Sat.region ?_
  refine Tr.move rfl rfl rfl ?_
  refine Tr.lenSl rfl rfl rfl Try.underlying27 ?_
  refine Tr.gtr rfl rfl rfl rfl (decide_eq_false (by omega)) ?_
  refine Tr.nil ?_
  refine at_n ?_
  refine Sat.cond_f rfl (rfl) ?_
  refine Sat.skip ?_
  refine at_n ?_
  refine Sat.join (ι := Unit) (fun _u => ⟨[(0, .slice (some ⟨b, o, none⟩) n c), (1, i64 (k : Int))], []⟩) (fun _u => True) ?_ ?_
  ·
    refine Sat.seq ?_
    -- region 5
    refine Sat.region ?_
    refine Tr.move rfl rfl rfl ?_
    refine Tr.lss rfl rfl rfl rfl (decide_eq_false (by omega)) ?_
    refine Tr.move rfl rfl rfl ?_
    refine Tr.move rfl rfl rfl ?_
    refine Tr.move rfl rfl rfl ?_
    refine Tr.lenSl rfl rfl rfl Try.underlying27 ?_
    refine Tr.gtr rfl rfl rfl rfl (decide_eq_false (by omega)) ?_
    refine Tr.pick rfl rfl rfl rfl rfl rfl ?_
    refine Tr.nil ?_
    refine at_n ?_
    refine Sat.cond_f rfl (rfl) ?_
    refine Sat.skip ?_
    refine at_n ?_
    refine ⟨(), trivial, weak_of (wk1 rfl (wk1 rfl wk0)) wh0 (by repeat (first | exact ns_nil | refine ns_keep rfl ?_ | refine ns_skip ?_))⟩
  ·
    intro _u hj
    skip
    refine Sat.seq ?_
    -- region 7
    refine Sat.region ?_
    refine Tr.move rfl rfl rfl ?_
    refine Tr.callV rfl rfl rfl rfl Body21 (scalar_rest b o c n xs hx hn) (fun W2 h => sees_ext h (by simp) hW) ?_
    refine Tr.move rfl rfl rfl ?_
    refine Tr.extract rfl rfl rfl rfl ?_
    refine Tr.extract rfl rfl rfl rfl ?_
    refine Tr.alloc (cs := (bytesV (List.replicate 32 0))) rfl Zr47 rfl ?_
    intro n5 hn5 hf5
    first
      | refine Tr.storeAll rfl rfl rfl rfl (by simp [isCell]) Sz47 (by simp [leb_length, words4_length, List.length_replicate, subB_all, padB_all, hx, h256]) (by first | exact mem0 | exact mem1 | exact mem2 | exact mem3 | exact mem4 | exact mem5 | exact mem6 | exact mem7) (by simp [leb_length, words4_length, List.length_replicate, subB_all, padB_all, hx, h256]) (by first | exact upd0 | exact upd1 | exact upd2 | exact upd3 | exact upd4 | exact upd5 | exact upd6 | exact upd7) ?_
      | refine Tr.storeN _ rfl rfl rfl rfl rfl (by simp [isCell]) Sz47 (by simp [leb_length, words4_length, List.length_replicate, subB_all, padB_all, hx, h256]) (by first | exact mem0 | exact mem1 | exact mem2 | exact mem3 | exact mem4 | exact mem5 | exact mem6 | exact mem7) (by simp [leb_length, words4_length, List.length_replicate, subB_all, padB_all, hx, h256]) (by exact rfl) (by first | exact upd0 | exact upd1 | exact upd2 | exact upd3 | exact upd4 | exact upd5 | exact upd6 | exact upd7) ?_
    refine Tr.assign rfl rfl rfl ?_
    refine Tr.nil ?_
    refine at_n ?_
    refine Sat.seq ?_
    -- region 8
    refine Sat.region ?_
    refine Tr.move rfl rfl rfl ?_
    refine Tr.move rfl rfl rfl ?_
    refine Tr.sliceHi k rfl rfl rfl rfl rfl (by omega) Try.underlying27 Sz5 ?_
    refine Tr.callV rfl rfl rfl rfl Body21 (scalar_rest b o c k (xs.take k) (by simp; omega) (by omega)) (fun W2 h => sees_take (sees_ext h (by simp) hW)) ?_
    refine Tr.move rfl rfl rfl ?_
    refine Tr.extract rfl rfl rfl rfl ?_
    refine Tr.extract rfl rfl rfl rfl ?_
    refine Tr.alloc (cs := (bytesV (List.replicate 32 0))) rfl Zr47 rfl ?_
    intro n7 hn7 hf7
    first
      | refine Tr.storeAll rfl rfl rfl rfl (by simp [isCell]) Sz47 (by simp [leb_length, words4_length, List.length_replicate, subB_all, padB_all, hx, h256]) (by first | exact mem0 | exact mem1 | exact mem2 | exact mem3 | exact mem4 | exact mem5 | exact mem6 | exact mem7) (by simp [leb_length, words4_length, List.length_replicate, subB_all, padB_all, hx, h256]) (by first | exact upd0 | exact upd1 | exact upd2 | exact upd3 | exact upd4 | exact upd5 | exact upd6 | exact upd7) ?_
      | refine Tr.storeN _ rfl rfl rfl rfl rfl (by simp [isCell]) Sz47 (by simp [leb_length, words4_length, List.length_replicate, subB_all, padB_all, hx, h256]) (by first | exact mem0 | exact mem1 | exact mem2 | exact mem3 | exact mem4 | exact mem5 | exact mem6 | exact mem7) (by simp [leb_length, words4_length, List.length_replicate, subB_all, padB_all, hx, h256]) (by exact rfl) (by first | exact upd0 | exact upd1 | exact upd2 | exact upd3 | exact upd4 | exact upd5 | exact upd6 | exact upd7) ?_
    refine Tr.assign rfl rfl rfl ?_
    refine Tr.nil ?_
    refine at_n ?_
    refine Sat.seq ?_
    -- region 9
    refine Sat.region ?_
    refine Tr.move rfl rfl rfl ?_
    refine Tr.move rfl rfl rfl ?_
    refine Tr.sliceLo k rfl rfl rfl rfl rfl (by omega) (by omega) Try.underlying27 Sz5 ?_
    refine Tr.callV rfl rfl rfl rfl Body21 (scalar_rest b _ _ (n - k) (xs.drop k) (by simp; omega) (by omega)) (fun W2 h => sees_drop hx hnc (sees_ext h (by simp) hW)) ?_
    refine Tr.move rfl rfl rfl ?_
    refine Tr.extract rfl rfl rfl rfl ?_
    refine Tr.extract rfl rfl rfl rfl ?_
    refine Tr.alloc (cs := (bytesV (List.replicate 32 0))) rfl Zr47 rfl ?_
    intro n9 hn9 hf9
    first
      | refine Tr.storeAll rfl rfl rfl rfl (by simp [isCell]) Sz47 (by simp [leb_length, words4_length, List.length_replicate, subB_all, padB_all, hx, h256]) (by first | exact mem0 | exact mem1 | exact mem2 | exact mem3 | exact mem4 | exact mem5 | exact mem6 | exact mem7) (by simp [leb_length, words4_length, List.length_replicate, subB_all, padB_all, hx, h256]) (by first | exact upd0 | exact upd1 | exact upd2 | exact upd3 | exact upd4 | exact upd5 | exact upd6 | exact upd7) ?_
      | refine Tr.storeN _ rfl rfl rfl rfl rfl (by simp [isCell]) Sz47 (by simp [leb_length, words4_length, List.length_replicate, subB_all, padB_all, hx, h256]) (by first | exact mem0 | exact mem1 | exact mem2 | exact mem3 | exact mem4 | exact mem5 | exact mem6 | exact mem7) (by simp [leb_length, words4_length, List.length_replicate, subB_all, padB_all, hx, h256]) (by exact rfl) (by first | exact upd0 | exact upd1 | exact upd2 | exact upd3 | exact upd4 | exact upd5 | exact upd6 | exact upd7) ?_
    refine Tr.assign rfl rfl rfl ?_
    refine Tr.nil ?_
    refine at_n ?_
    refine Sat.join (ι := Unit) (fun _u => ⟨[(0, .slice (some ⟨b, o, none⟩) n c), (1, i64 (k : Int)), (5, ptr n5 0), (6, i64 0), (7, ptr n7 0), (8, i64 0), (9, ptr n9 0), (10, i64 0)], [⟨n9, bytesV (leb 32 (pw (k) * le (xs.drop k) % L)), 47, 32⟩, ⟨n7, bytesV (leb 32 (le (xs.take k) % L)), 47, 32⟩, ⟨n5, bytesV (leb 32 (le xs % L)), 47, 32⟩]⟩) (fun _u => True) ?_ ?_
    ·
      refine Sat.seq ?_
      -- region 10
      refine Sat.region ?_
      refine Tr.assign rfl rfl rfl ?_
      refine Tr.nil ?_
      refine at_n ?_
      refine Sat.block ?_
      refine Sat.loop (ι := Nat) (fun i => ⟨[(0, .slice (some ⟨b, o, none⟩) n c), (1, i64 (k : Int)), (5, ptr n5 0), (6, i64 0), (7, ptr n7 0), (8, i64 0), (9, ptr n9 0), (10, i64 0), (11, i64 (i : Int))], [⟨n9, bytesV (leb 32 (pw (i) * le (xs.drop k) % L)), 47, 32⟩, ⟨n7, bytesV (leb 32 (le (xs.take k) % L)), 47, 32⟩, ⟨n5, bytesV (leb 32 (le xs % L)), 47, 32⟩]⟩) (fun i => i ≤ k) (fun i => k - i) (0) ?_ ?_ ?_
      · omega
      · exact weak_of (wk1 rfl (wk1 rfl (wk1 rfl (wk1 rfl (wk1 rfl (wk1 rfl (wk1 rfl (wk1 rfl (wk1 rfl wk0))))))))) (wh1 (by rw [p0, Nat.one_mul]; exact mem0) (wh1 (by first | exact mem0 | exact mem1 | exact mem2 | exact mem3 | exact mem4 | exact mem5 | exact mem6 | exact mem7) (wh1 (by first | exact mem0 | exact mem1 | exact mem2 | exact mem3 | exact mem4 | exact mem5 | exact mem6 | exact mem7) wh0))) (by repeat (first | exact ns_nil | refine ns_keep rfl ?_ | refine ns_skip ?_))
      ·
        rintro i hi
        refine Sat.seq ?_
        refine Sat.seq ?_
        -- region 11
        refine Sat.region ?_
        refine Tr.move rfl rfl rfl ?_
        refine Tr.move rfl rfl rfl ?_
        refine Tr.lss rfl rfl rfl rfl rfl ?_
        refine Tr.nil ?_
        refine at_n ?_
        first
          | refine Sat.condP rfl (fun hc3 => ?_) (fun hc3 => ?_)
          | refine Sat.condNP rfl (fun hc3 => ?_) (fun hc3 => ?_)
          | refine Sat.cond rfl (fun hc3 => ?_) (fun hc3 => ?_)
        ·
          have hk1 : i < k := by omega
          refine Sat.skip ?_
          refine at_n ?_
          refine Sat.seq ?_
          refine Sat.block ?_
          -- region 13
          refine Sat.draw [(1, 0), (3, 1), (3, 2), (4, 3)] Mixed (by kernel_rfl) ?_
          first
            | refine Tr.loadAll rfl rfl rfl Try.underlying47 rfl Sz47 (by first | exact mem0 | exact mem1 | exact mem2 | exact mem3 | exact mem4 | exact mem5 | exact mem6 | exact mem7) (by simp [leb_length, words4_length, List.length_replicate, subB_all, padB_all, hx, h256]) ?_
            | refine Tr.loadN _ rfl rfl rfl Try.underlying47 rfl Sz47 (by first | exact mem0 | exact mem1 | exact mem2 | exact mem3 | exact mem4 | exact mem5 | exact mem6 | exact mem7) (by exact rfl) (by simp [leb_length, words4_length, List.length_replicate, subB_all, padB_all, hx, h256]) ?_
          refine Tr.callV rfl rfl rfl rfl Body25 (c256) (fun _ _ => trivial) ?_
          refine Tr.callV rfl rfl rfl rfl Body29 (scalar_mul _ _ (by simp [leb_length, words4_length, List.length_replicate, subB_all, padB_all, hx, h256]) (by simp [leb_length, words4_length, List.length_replicate, subB_all, padB_all, hx, h256])) (fun _ _ => trivial) ?_
          first
            | refine Tr.storeAll rfl rfl rfl rfl (by simp [isCell]) Sz47 (by simp [leb_length, words4_length, List.length_replicate, subB_all, padB_all, hx, h256]) (by first | exact mem0 | exact mem1 | exact mem2 | exact mem3 | exact mem4 | exact mem5 | exact mem6 | exact mem7) (by simp [leb_length, words4_length, List.length_replicate, subB_all, padB_all, hx, h256]) (by first | exact upd0 | exact upd1 | exact upd2 | exact upd3 | exact upd4 | exact upd5 | exact upd6 | exact upd7) ?_
            | refine Tr.storeN _ rfl rfl rfl rfl rfl (by simp [isCell]) Sz47 (by simp [leb_length, words4_length, List.length_replicate, subB_all, padB_all, hx, h256]) (by first | exact mem0 | exact mem1 | exact mem2 | exact mem3 | exact mem4 | exact mem5 | exact mem6 | exact mem7) (by simp [leb_length, words4_length, List.length_replicate, subB_all, padB_all, hx, h256]) (by exact rfl) (by first | exact upd0 | exact upd1 | exact upd2 | exact upd3 | exact upd4 | exact upd5 | exact upd6 | exact upd7) ?_
          refine Tr.nil ?_
          refine bl_n ?_
          refine at_n ?_
          -- region 12
          refine Sat.region ?_
          refine Tr.move rfl rfl rfl ?_
          refine Tr.add_i64 rfl rfl rfl rfl (by omega) ?_
          refine Tr.assign rfl rfl rfl ?_
          refine Tr.nil ?_
          refine at_n ?_
          exact ⟨i + 1, by omega, by omega, weak_of (wk1 rfl (wk1 rfl (wk1 rfl (wk1 rfl (wk1 rfl (wk1 rfl (wk1 rfl (wk1 rfl (wk1 rfl wk0))))))))) (wh1 (by rw [ps, le_leb32 (lm (pw i * le (xs.drop k))), l256, Nat.mod_mul_mod, Nat.mul_right_comm]; exact mem0) (wh1 (by first | exact mem0 | exact mem1 | exact mem2 | exact mem3 | exact mem4 | exact mem5 | exact mem6 | exact mem7) (wh1 (by first | exact mem0 | exact mem1 | exact mem2 | exact mem3 | exact mem4 | exact mem5 | exact mem6 | exact mem7) wh0))) (by repeat (first | exact ns_nil | refine ns_keep rfl ?_ | refine ns_skip ?_))⟩
        ·
          obtain rfl : i = k := by omega
          refine Sat.exit ?_
          refine at_x ?_
          refine at_x ?_
          refine bl_h ?_
          refine at_n ?_
          refine ⟨(), trivial, weak_of (wk1 rfl (wk1 rfl (wk1 rfl (wk1 rfl (wk1 rfl (wk1 rfl (wk1 rfl (wk1 rfl wk0)))))))) (wh1 (by first | exact mem0 | exact mem1 | exact mem2 | exact mem3 | exact mem4 | exact mem5 | exact mem6 | exact mem7) (wh1 (by first | exact mem0 | exact mem1 | exact mem2 | exact mem3 | exact mem4 | exact mem5 | exact mem6 | exact mem7) (wh1 (by first | exact mem0 | exact mem1 | exact mem2 | exact mem3 | exact mem4 | exact mem5 | exact mem6 | exact mem7) wh0))) (by repeat (first | exact ns_nil | refine ns_keep rfl ?_ | refine ns_skip ?_))⟩
    ·
      intro _u hj
      skip
      refine Sat.seq ?_
      -- region 14
      refine Sat.region ?_
      refine Tr.emptySlice rfl rfl Try.underlying27 Sz5 ?_
      intro q0
      refine Tr.move rfl rfl rfl ?_
      refine Tr.appendRow (z := u8 0) (by' := 1) (bytesV xs) rfl rfl rfl rfl rfl Try.underlying27 Try.underlying27 Sz5 Zr5 (by unfold By; kernel_rfl) rfl (fun w h => sees_ext h (by simp) hW) (by simp [bytesV, isCell, u8]) rem_here rfl rfl (by omega) (by omega) (by omega) (by simp [bytesV]; omega) ?_
      intro q1 c1 hq1
      refine Tr.move rfl rfl rfl ?_
      refine Tr.lenSl rfl rfl rfl Try.underlying27 ?_
      refine Tr.sub_i64 rfl rfl rfl rfl (by omega) ?_
      refine Tr.appendMade (z := u8 0) (by' := 1) (m := 64 - n) rfl rfl rfl rfl rfl (by omega) Try.underlying27 Try.underlying3 Sz5 Zr5 (by unfold By; kernel_rfl) rfl rfl rem_here (by omega) (by simp [bytesV]; omega) (by omega) (by omega) (by omega) ?_
      intro q2 c2 hq2
      refine Tr.callV rfl rfl rfl rfl Body21 (scalar_rest q2 0 c2 (0 + n + (64 - n)) (xs ++ List.replicate (64 - n) 0) (by simp; omega) (by omega)) (fun W2 h => by have h9 := sees_own h mem0; rwa [bytesV_zeros] at h9) ?_
      refine Tr.move rfl rfl rfl ?_
      refine Tr.extract rfl rfl rfl rfl ?_
      refine Tr.extract rfl rfl rfl rfl ?_
      refine Tr.alloc (cs := (bytesV (List.replicate 32 0))) rfl Zr47 rfl ?_
      intro n12 hn12 hf12
      first
        | refine Tr.storeAll rfl rfl rfl rfl (by simp [isCell]) Sz47 (by simp [leb_length, words4_length, List.length_replicate, subB_all, padB_all, hx, h256]) (by first | exact mem0 | exact mem1 | exact mem2 | exact mem3 | exact mem4 | exact mem5 | exact mem6 | exact mem7) (by simp [leb_length, words4_length, List.length_replicate, subB_all, padB_all, hx, h256]) (by first | exact upd0 | exact upd1 | exact upd2 | exact upd3 | exact upd4 | exact upd5 | exact upd6 | exact upd7) ?_
        | refine Tr.storeN _ rfl rfl rfl rfl rfl (by simp [isCell]) Sz47 (by simp [leb_length, words4_length, List.length_replicate, subB_all, padB_all, hx, h256]) (by first | exact mem0 | exact mem1 | exact mem2 | exact mem3 | exact mem4 | exact mem5 | exact mem6 | exact mem7) (by simp [leb_length, words4_length, List.length_replicate, subB_all, padB_all, hx, h256]) (by exact rfl) (by first | exact upd0 | exact upd1 | exact upd2 | exact upd3 | exact upd4 | exact upd5 | exact upd6 | exact upd7) ?_
      refine Tr.assign rfl rfl rfl ?_
      refine Tr.nil ?_
      refine at_n ?_
      refine Sat.seq ?_
      -- region 15
      refine Sat.region ?_
      refine Tr.assign rfl rfl rfl ?_
      refine Tr.nil ?_
      refine at_n ?_
      refine Sat.join (ι := Nat) (fun cc => ⟨[(0, .slice (some ⟨b, o, none⟩) n c), (1, i64 (k : Int)), (5, ptr n5 0), (6, i64 0), (7, ptr n7 0), (8, i64 0), (9, ptr n9 0), (10, i64 0), (12, ptr n12 0), (13, i64 0), (14, i64 (cc : Int))], [⟨n12, bytesV (leb 32 (le xs % L)), 47, 32⟩, ⟨n9, bytesV (leb 32 (pw (k) * le (xs.drop k) % L)), 47, 32⟩, ⟨n7, bytesV (leb 32 (le (xs.take k) % L)), 47, 32⟩, ⟨n5, bytesV (leb 32 (le xs % L)), 47, 32⟩]⟩) (fun cc => (cc = 0 ↔ ∀ j, j < 256 → ((le xs % L)).testBit j = false)) ?_ ?_
      ·
        refine Sat.seq ?_
        -- region 16
        refine Sat.region ?_
        refine Tr.assign rfl rfl rfl ?_
        refine Tr.nil ?_
        refine at_n ?_
        refine Sat.block ?_
        refine Sat.loop (ι := Nat × Nat) (fun p => ⟨[(0, .slice (some ⟨b, o, none⟩) n c), (1, i64 (k : Int)), (5, ptr n5 0), (6, i64 0), (7, ptr n7 0), (8, i64 0), (9, ptr n9 0), (10, i64 0), (12, ptr n12 0), (13, i64 0), (14, i64 (p.2 : Int)), (15, i64 (p.1 : Int))], [⟨n12, bytesV (leb 32 (le xs % L)), 47, 32⟩, ⟨n9, bytesV (leb 32 (pw (k) * le (xs.drop k) % L)), 47, 32⟩, ⟨n7, bytesV (leb 32 (le (xs.take k) % L)), 47, 32⟩, ⟨n5, bytesV (leb 32 (le xs % L)), 47, 32⟩]⟩) (fun p => p.1 ≤ 256 ∧ p.2 ≤ p.1 ∧ (p.2 = 0 ↔ ∀ j, j < p.1 → ((le xs % L)).testBit j = false)) (fun p => 256 - p.1) ((0, 0)) ?_ ?_ ?_
        · exact ⟨by omega, by omega, by simp⟩
        · exact weak_of (wk1 rfl (wk1 rfl (wk1 rfl (wk1 rfl (wk1 rfl (wk1 rfl (wk1 rfl (wk1 rfl (wk1 rfl (wk1 rfl (wk1 rfl (wk1 rfl wk0)))))))))))) (wh1 (by rw [← le_more xs (64 - n)]; exact mem0) (wh1 (by first | exact mem0 | exact mem1 | exact mem2 | exact mem3 | exact mem4 | exact mem5 | exact mem6 | exact mem7) (wh1 (by first | exact mem0 | exact mem1 | exact mem2 | exact mem3 | exact mem4 | exact mem5 | exact mem6 | exact mem7) (wh1 (by first | exact mem0 | exact mem1 | exact mem2 | exact mem3 | exact mem4 | exact mem5 | exact mem6 | exact mem7) wh0)))) (by repeat (first | exact ns_nil | refine ns_keep rfl ?_ | refine ns_skip ?_))
        ·
          rintro p ⟨hp1, hp2, hp3⟩
          refine Sat.seq ?_
          refine Sat.seq ?_
          -- region 17
          refine Sat.region ?_
          refine Tr.move rfl rfl rfl ?_
          refine Tr.lss rfl rfl rfl rfl rfl ?_
          refine Tr.nil ?_
          refine at_n ?_
          first
            | refine Sat.condP rfl (fun hc4 => ?_) (fun hc4 => ?_)
            | refine Sat.condNP rfl (fun hc4 => ?_) (fun hc4 => ?_)
            | refine Sat.cond rfl (fun hc4 => ?_) (fun hc4 => ?_)
          ·
            have hk2 : p.1 < 256 := by omega
            refine Sat.skip ?_
            refine at_n ?_
            refine Sat.join (ι := Nat) (fun c9 => ⟨[(0, .slice (some ⟨b, o, none⟩) n c), (1, i64 (k : Int)), (5, ptr n5 0), (6, i64 0), (7, ptr n7 0), (8, i64 0), (9, ptr n9 0), (10, i64 0), (12, ptr n12 0), (13, i64 0), (14, i64 (c9 : Int)), (15, i64 (p.1 : Int))], [⟨n12, bytesV (leb 32 (le xs % L)), 47, 32⟩, ⟨n9, bytesV (leb 32 (pw (k) * le (xs.drop k) % L)), 47, 32⟩, ⟨n7, bytesV (leb 32 (le (xs.take k) % L)), 47, 32⟩, ⟨n5, bytesV (leb 32 (le xs % L)), 47, 32⟩]⟩) (fun c9 => c9 ≤ p.1 + 1 ∧ (c9 = 0 ↔ ∀ j, j < p.1 + 1 → ((le xs % L)).testBit j = false)) ?_ ?_
            ·
              refine Sat.block ?_
              refine Sat.seq ?_
              -- region 19
              refine Sat.region ?_
              first
                | refine Tr.loadAll rfl rfl rfl Try.underlying47 rfl Sz47 (by first | exact mem0 | exact mem1 | exact mem2 | exact mem3 | exact mem4 | exact mem5 | exact mem6 | exact mem7) (by simp [leb_length, words4_length, List.length_replicate, subB_all, padB_all, hx, h256]) ?_
                | refine Tr.loadN _ rfl rfl rfl Try.underlying47 rfl Sz47 (by first | exact mem0 | exact mem1 | exact mem2 | exact mem3 | exact mem4 | exact mem5 | exact mem6 | exact mem7) (by exact rfl) (by simp [leb_length, words4_length, List.length_replicate, subB_all, padB_all, hx, h256]) ?_
              refine Tr.move rfl rfl rfl ?_
              refine Tr.callV rfl rfl rfl rfl Body26 (scalar_bit_at (leb 32 (le xs % L)) (by simp [leb_length, words4_length, List.length_replicate, subB_all, padB_all, hx, h256]) p.1 hk2) (fun _ _ => trivial) ?_
              refine Tr.nil ?_
              refine at_n ?_
              refine Sat.cond rfl (fun hc5 => ?_) (fun hc5 => ?_)
              ·
                rw [le_leb32 (lm (le xs))] at hc5
                have hs9 := (cnt_step hp3).1 hc5
                -- region 20
                refine Sat.region ?_
                refine Tr.move rfl rfl rfl ?_
                refine Tr.add_i64 rfl rfl rfl rfl (by omega) ?_
                refine Tr.assign rfl rfl rfl ?_
                refine Tr.nil ?_
                refine bl_n ?_
                refine at_n ?_
                first
                  | exact ⟨p.2 + 1, ⟨by omega, hs9⟩, weak_of (wk1 rfl (wk1 rfl (wk1 rfl (wk1 rfl (wk1 rfl (wk1 rfl (wk1 rfl (wk1 rfl (wk1 rfl (wk1 rfl (wk1 rfl (wk1 rfl wk0)))))))))))) (wh1 (by first | exact mem0 | exact mem1 | exact mem2 | exact mem3 | exact mem4 | exact mem5 | exact mem6 | exact mem7) (wh1 (by first | exact mem0 | exact mem1 | exact mem2 | exact mem3 | exact mem4 | exact mem5 | exact mem6 | exact mem7) (wh1 (by first | exact mem0 | exact mem1 | exact mem2 | exact mem3 | exact mem4 | exact mem5 | exact mem6 | exact mem7) (wh1 (by first | exact mem0 | exact mem1 | exact mem2 | exact mem3 | exact mem4 | exact mem5 | exact mem6 | exact mem7) wh0)))) (by repeat (first | exact ns_nil | refine ns_keep rfl ?_ | refine ns_skip ?_))⟩
                  | exact ⟨p.2, ⟨by omega, hs9⟩, weak_of (wk1 rfl (wk1 rfl (wk1 rfl (wk1 rfl (wk1 rfl (wk1 rfl (wk1 rfl (wk1 rfl (wk1 rfl (wk1 rfl (wk1 rfl (wk1 rfl wk0)))))))))))) (wh1 (by first | exact mem0 | exact mem1 | exact mem2 | exact mem3 | exact mem4 | exact mem5 | exact mem6 | exact mem7) (wh1 (by first | exact mem0 | exact mem1 | exact mem2 | exact mem3 | exact mem4 | exact mem5 | exact mem6 | exact mem7) (wh1 (by first | exact mem0 | exact mem1 | exact mem2 | exact mem3 | exact mem4 | exact mem5 | exact mem6 | exact mem7) (wh1 (by first | exact mem0 | exact mem1 | exact mem2 | exact mem3 | exact mem4 | exact mem5 | exact mem6 | exact mem7) wh0)))) (by repeat (first | exact ns_nil | refine ns_keep rfl ?_ | refine ns_skip ?_))⟩
              ·
                rw [le_leb32 (lm (le xs))] at hc5
                have hs9 := (cnt_step hp3).2 hc5
                refine Sat.skip ?_
                refine bl_n ?_
                refine at_n ?_
                first
                  | exact ⟨p.2 + 1, ⟨by omega, hs9⟩, weak_of (wk1 rfl (wk1 rfl (wk1 rfl (wk1 rfl (wk1 rfl (wk1 rfl (wk1 rfl (wk1 rfl (wk1 rfl (wk1 rfl (wk1 rfl (wk1 rfl wk0)))))))))))) (wh1 (by first | exact mem0 | exact mem1 | exact mem2 | exact mem3 | exact mem4 | exact mem5 | exact mem6 | exact mem7) (wh1 (by first | exact mem0 | exact mem1 | exact mem2 | exact mem3 | exact mem4 | exact mem5 | exact mem6 | exact mem7) (wh1 (by first | exact mem0 | exact mem1 | exact mem2 | exact mem3 | exact mem4 | exact mem5 | exact mem6 | exact mem7) (wh1 (by first | exact mem0 | exact mem1 | exact mem2 | exact mem3 | exact mem4 | exact mem5 | exact mem6 | exact mem7) wh0)))) (by repeat (first | exact ns_nil | refine ns_keep rfl ?_ | refine ns_skip ?_))⟩
                  | exact ⟨p.2, ⟨by omega, hs9⟩, weak_of (wk1 rfl (wk1 rfl (wk1 rfl (wk1 rfl (wk1 rfl (wk1 rfl (wk1 rfl (wk1 rfl (wk1 rfl (wk1 rfl (wk1 rfl (wk1 rfl wk0)))))))))))) (wh1 (by first | exact mem0 | exact mem1 | exact mem2 | exact mem3 | exact mem4 | exact mem5 | exact mem6 | exact mem7) (wh1 (by first | exact mem0 | exact mem1 | exact mem2 | exact mem3 | exact mem4 | exact mem5 | exact mem6 | exact mem7) (wh1 (by first | exact mem0 | exact mem1 | exact mem2 | exact mem3 | exact mem4 | exact mem5 | exact mem6 | exact mem7) (wh1 (by first | exact mem0 | exact mem1 | exact mem2 | exact mem3 | exact mem4 | exact mem5 | exact mem6 | exact mem7) wh0)))) (by repeat (first | exact ns_nil | refine ns_keep rfl ?_ | refine ns_skip ?_))⟩
            ·
              intro c9 hj
              obtain ⟨hc9, hi9⟩ := hj
              -- region 18
              refine Sat.region ?_
              refine Tr.move rfl rfl rfl ?_
              refine Tr.add_i64 rfl rfl rfl rfl (by omega) ?_
              refine Tr.assign rfl rfl rfl ?_
              refine Tr.nil ?_
              refine at_n ?_
              exact ⟨(p.1 + 1, c9), ⟨by omega, by omega, hi9⟩, by simp only []; omega, weak_of (wk1 rfl (wk1 rfl (wk1 rfl (wk1 rfl (wk1 rfl (wk1 rfl (wk1 rfl (wk1 rfl (wk1 rfl (wk1 rfl (wk1 rfl (wk1 rfl wk0)))))))))))) (wh1 (by first | exact mem0 | exact mem1 | exact mem2 | exact mem3 | exact mem4 | exact mem5 | exact mem6 | exact mem7) (wh1 (by first | exact mem0 | exact mem1 | exact mem2 | exact mem3 | exact mem4 | exact mem5 | exact mem6 | exact mem7) (wh1 (by first | exact mem0 | exact mem1 | exact mem2 | exact mem3 | exact mem4 | exact mem5 | exact mem6 | exact mem7) (wh1 (by first | exact mem0 | exact mem1 | exact mem2 | exact mem3 | exact mem4 | exact mem5 | exact mem6 | exact mem7) wh0)))) (by repeat (first | exact ns_nil | refine ns_keep rfl ?_ | refine ns_skip ?_))⟩
          ·
            have e256b : p.1 = 256 := by omega
            rw [e256b] at hp3
            refine Sat.exit ?_
            refine at_x ?_
            refine at_x ?_
            refine bl_h ?_
            refine at_n ?_
            refine ⟨p.2, hp3, weak_of (wk1 rfl (wk1 rfl (wk1 rfl (wk1 rfl (wk1 rfl (wk1 rfl (wk1 rfl (wk1 rfl (wk1 rfl (wk1 rfl (wk1 rfl wk0))))))))))) (wh1 (by first | exact mem0 | exact mem1 | exact mem2 | exact mem3 | exact mem4 | exact mem5 | exact mem6 | exact mem7) (wh1 (by first | exact mem0 | exact mem1 | exact mem2 | exact mem3 | exact mem4 | exact mem5 | exact mem6 | exact mem7) (wh1 (by first | exact mem0 | exact mem1 | exact mem2 | exact mem3 | exact mem4 | exact mem5 | exact mem6 | exact mem7) (wh1 (by first | exact mem0 | exact mem1 | exact mem2 | exact mem3 | exact mem4 | exact mem5 | exact mem6 | exact mem7) wh0)))) (by repeat (first | exact ns_nil | refine ns_keep rfl ?_ | refine ns_skip ?_))⟩
      ·
        intro cc hj
        have hcnt := hj
        refine Sat.seq ?_
        -- region 21
        refine Sat.draw [(0, 0), (0, 1), (0, 2), (0, 3), (0, 4), (0, 5), (0, 6), (0, 7), (0, 8), (0, 9), (0, 10), (0, 11), (0, 12), (0, 13), (0, 14), (1, 15), (1, 16), (1, 17), (3, 18), (0, 19), (0, 20), (0, 21), (1, 22), (1, 23), (0, 24), (0, 25), (0, 26), (0, 27), (0, 28), (1, 29), (0, 30), (0, 31), (0, 32), (0, 33), (0, 34)] Mixed (by kernel_rfl) ?_
        refine Tr.move rfl rfl rfl ?_
        refine Tr.eqi rfl rfl rfl rfl (decide_eq_true (rfl)) ?_
        refine Tr.move rfl rfl rfl ?_
        refine Tr.move rfl rfl rfl ?_
        refine Tr.eqi rfl rfl rfl rfl (decide_eq_true (rfl)) ?_
        refine Tr.pick rfl rfl rfl rfl rfl rfl ?_
        refine Tr.move rfl rfl rfl ?_
        refine Tr.move rfl rfl rfl ?_
        refine Tr.eqi rfl rfl rfl rfl (decide_eq_true (rfl)) ?_
        refine Tr.pick rfl rfl rfl rfl rfl rfl ?_
        refine Tr.move rfl rfl rfl ?_
        refine Tr.move rfl rfl rfl ?_
        refine Tr.eqi rfl rfl rfl rfl (decide_eq_true (rfl)) ?_
        refine Tr.pick rfl rfl rfl rfl rfl rfl ?_
        refine Tr.move rfl rfl rfl ?_
        first
          | refine Tr.loadAll rfl rfl rfl Try.underlying47 rfl Sz47 (by first | exact mem0 | exact mem1 | exact mem2 | exact mem3 | exact mem4 | exact mem5 | exact mem6 | exact mem7) (by simp [leb_length, words4_length, List.length_replicate, subB_all, padB_all, hx, h256]) ?_
          | refine Tr.loadN _ rfl rfl rfl Try.underlying47 rfl Sz47 (by first | exact mem0 | exact mem1 | exact mem2 | exact mem3 | exact mem4 | exact mem5 | exact mem6 | exact mem7) (by exact rfl) (by simp [leb_length, words4_length, List.length_replicate, subB_all, padB_all, hx, h256]) ?_
        first
          | refine Tr.loadAll rfl rfl rfl Try.underlying47 rfl Sz47 (by first | exact mem0 | exact mem1 | exact mem2 | exact mem3 | exact mem4 | exact mem5 | exact mem6 | exact mem7) (by simp [leb_length, words4_length, List.length_replicate, subB_all, padB_all, hx, h256]) ?_
          | refine Tr.loadN _ rfl rfl rfl Try.underlying47 rfl Sz47 (by first | exact mem0 | exact mem1 | exact mem2 | exact mem3 | exact mem4 | exact mem5 | exact mem6 | exact mem7) (by exact rfl) (by simp [leb_length, words4_length, List.length_replicate, subB_all, padB_all, hx, h256]) ?_
        first
          | refine Tr.loadAll rfl rfl rfl Try.underlying47 rfl Sz47 (by first | exact mem0 | exact mem1 | exact mem2 | exact mem3 | exact mem4 | exact mem5 | exact mem6 | exact mem7) (by simp [leb_length, words4_length, List.length_replicate, subB_all, padB_all, hx, h256]) ?_
          | refine Tr.loadN _ rfl rfl rfl Try.underlying47 rfl Sz47 (by first | exact mem0 | exact mem1 | exact mem2 | exact mem3 | exact mem4 | exact mem5 | exact mem6 | exact mem7) (by exact rfl) (by simp [leb_length, words4_length, List.length_replicate, subB_all, padB_all, hx, h256]) ?_
        refine Tr.callV rfl rfl rfl rfl Body28 (scalar_add _ _ (by simp [leb_length, words4_length, List.length_replicate, subB_all, padB_all, hx, h256]) (by simp [leb_length, words4_length, List.length_replicate, subB_all, padB_all, hx, h256])) (fun _ _ => trivial) ?_
        refine Tr.eql_bytes rfl rfl rfl rfl Try.eqGuardType47 Try.underlying47 Try.underlying5 Sz5 (by simp [leb_length, words4_length, List.length_replicate, subB_all, padB_all, hx, h256]) (by simp [leb_length, words4_length, List.length_replicate, subB_all, padB_all, hx, h256]) (decide_eq_true (by rw [le_leb32 (lm _), le_leb32 (lm _), ← Nat.add_mod, hsum])) ?_
        refine Tr.pick rfl rfl rfl rfl rfl rfl ?_
        refine Tr.move rfl rfl rfl ?_
        first
          | refine Tr.loadAll rfl rfl rfl Try.underlying47 rfl Sz47 (by first | exact mem0 | exact mem1 | exact mem2 | exact mem3 | exact mem4 | exact mem5 | exact mem6 | exact mem7) (by simp [leb_length, words4_length, List.length_replicate, subB_all, padB_all, hx, h256]) ?_
          | refine Tr.loadN _ rfl rfl rfl Try.underlying47 rfl Sz47 (by first | exact mem0 | exact mem1 | exact mem2 | exact mem3 | exact mem4 | exact mem5 | exact mem6 | exact mem7) (by exact rfl) (by simp [leb_length, words4_length, List.length_replicate, subB_all, padB_all, hx, h256]) ?_
        first
          | refine Tr.loadAll rfl rfl rfl Try.underlying47 rfl Sz47 (by first | exact mem0 | exact mem1 | exact mem2 | exact mem3 | exact mem4 | exact mem5 | exact mem6 | exact mem7) (by simp [leb_length, words4_length, List.length_replicate, subB_all, padB_all, hx, h256]) ?_
          | refine Tr.loadN _ rfl rfl rfl Try.underlying47 rfl Sz47 (by first | exact mem0 | exact mem1 | exact mem2 | exact mem3 | exact mem4 | exact mem5 | exact mem6 | exact mem7) (by exact rfl) (by simp [leb_length, words4_length, List.length_replicate, subB_all, padB_all, hx, h256]) ?_
        refine Tr.eql_bytes rfl rfl rfl rfl Try.eqGuardType47 Try.underlying47 Try.underlying5 Sz5 (by simp [leb_length, words4_length, List.length_replicate, subB_all, padB_all, hx, h256]) (by simp [leb_length, words4_length, List.length_replicate, subB_all, padB_all, hx, h256]) (decide_eq_true (rfl)) ?_
        refine Tr.pick rfl rfl rfl rfl rfl rfl ?_
        refine Tr.move rfl rfl rfl ?_
        refine Tr.move rfl rfl rfl ?_
        refine Tr.eqi rfl rfl rfl rfl rfl ?_
        first
          | refine Tr.loadAll rfl rfl rfl Try.underlying47 rfl Sz47 (by first | exact mem0 | exact mem1 | exact mem2 | exact mem3 | exact mem4 | exact mem5 | exact mem6 | exact mem7) (by simp [leb_length, words4_length, List.length_replicate, subB_all, padB_all, hx, h256]) ?_
          | refine Tr.loadN _ rfl rfl rfl Try.underlying47 rfl Sz47 (by first | exact mem0 | exact mem1 | exact mem2 | exact mem3 | exact mem4 | exact mem5 | exact mem6 | exact mem7) (by exact rfl) (by simp [leb_length, words4_length, List.length_replicate, subB_all, padB_all, hx, h256]) ?_
        refine Tr.build (cs := bytesV (List.replicate 32 0)) rfl rfl rfl (fun w => by kernel_rfl) ?_
        refine Tr.eql_bytes rfl rfl rfl rfl Try.eqGuardType47 Try.underlying47 Try.underlying5 Sz5 (by simp [leb_length, words4_length, List.length_replicate, subB_all, padB_all, hx, h256]) (by simp [leb_length, words4_length, List.length_replicate, subB_all, padB_all, hx, h256]) rfl ?_
        refine Tr.eqb (r := true) rfl rfl rfl rfl Try.underlying4 (cnt_zero _ (le xs % L) (lm _) hcnt) ?_
        refine Tr.pick rfl rfl rfl rfl rfl rfl ?_
        refine Tr.assign rfl rfl rfl ?_
        refine Tr.nil ?_
        refine at_n ?_
        refine Sat.ret ?_
        refine en_r ?_
        refine ⟨_, [], res_tmp rfl rfl, (by simp), (by simp), ?_, rfl⟩
        rfl

set_option maxRecDepth 100000 in
set_option maxHeartbeats 4000000 in
theorem law_rests_neg (b o c n : Nat) (xs : List UInt8) (hx : xs.length = n) (hn : n ≤ 64) (hnc : n ≤ c) (t : Int) (ht : t < 0) : Meets Try.prog 7 [.slice (some ⟨b, o, none⟩) n c, i64 t] [] (fun W => Sees W b o (bytesV xs)) (fun v out => v = .bool true ∧ out = []) := by
  intro W hW
  obtain ⟨s256, c256, h256, e256⟩ := law_small_ex 256
  have l256 : le s256 = 256 := by rw [e256]; decide
  obtain ⟨k, hk, hkk⟩ : ∃ k : Nat, k ≤ n ∧ ((n : Int) / 2 = (k : Int)) := ⟨n / 2, by omega, by omega⟩
  obtain ⟨pw, hpw⟩ : ∃ pw : Nat → Nat, pw = fun k => 256 ^ k := ⟨_, rfl⟩
  have p0 : pw 0 = 1 := by rw [hpw]
  have ps : ∀ k, pw (k + 1) = pw k * 256 := fun k => by rw [hpw]; exact Nat.pow_succ 256 k
  have hsum : le xs = le (xs.take k) + pw k * le (xs.drop k) := by rw [hpw]; exact le_take_drop xs k (by omega)
  clear hpw
  refine calls_of (hp0 := []) Try.func7 rfl 113 Try.ntmps7 rfl (HRep.nil _) ?_
  refine Sat.seq ?_
  -- region 0
  refine Sat.region ?_
  refine Tr.assign rfl rfl rfl ?_
  refine Tr.nil ?_
  refine at_n ?_
  refine Sat.seq ?_
  refine Sat.seq ?_
  -- region 1
  refine Sat.region ?_
  refine Tr.callV rfl rfl rfl rfl Body22 (law_lives) (fun _ _ => trivial) ?_
  refine Tr.not rfl rfl rfl ?_
  refine Tr.nil ?_
  refine at_n ?_
  refine Sat.cond_f rfl (rfl) ?_
  refine Sat.skip ?_
  refine at_n ?_
  refine Sat.seq ?_
  refine Sat.seq ?_
  -- region 3
  refine Sat.region ?_
  refine Tr.move rfl rfl rfl ?_
  refine Tr.lenSl rfl rfl rfl Try.underlying27 ?_
  refine Tr.gtr rfl rfl rfl rfl (decide_eq_false (by omega)) ?_
  refine Tr.nil ?_
  refine at_n ?_
  refine Sat.cond_f rfl (rfl) ?_
  refine Sat.skip ?_
  refine at_n ?_
  refine Sat.join (ι := Unit) (fun _u => ⟨[(0, .slice (some ⟨b, o, none⟩) n c), (1, i64 (k : Int))], []⟩) (fun _u => True) ?_ ?_
  ·
    refine Sat.seq ?_
    -- region 5
    refine Sat.region ?_
    refine Tr.move rfl rfl rfl ?_
    refine Tr.lss rfl rfl rfl rfl (decide_eq_true (ht)) ?_
    refine Tr.move rfl rfl rfl ?_
    refine Tr.skp rfl rfl ?_
    refine Tr.skp rfl rfl ?_
    refine Tr.skp rfl rfl ?_
    refine Tr.skp rfl rfl ?_
    refine Tr.pick rfl rfl rfl rfl rfl rfl ?_
    refine Tr.nil ?_
    refine at_n ?_
    refine Sat.cond_t rfl (rfl) ?_
    -- region 6
    refine Sat.region ?_
    refine Tr.move rfl rfl rfl ?_
    refine Tr.lenSl rfl rfl rfl Try.underlying27 ?_
    refine Tr.quo_i64 rfl rfl rfl rfl (by omega) ?_
    refine Tr.assign rfl rfl rfl ?_
    refine Tr.nil ?_
    refine at_n ?_
    refine ⟨(), trivial, weak_of (wk1 rfl (wk1 (by rw [← hkk]; rfl) wk0)) wh0 (by repeat (first | exact ns_nil | refine ns_keep rfl ?_ | refine ns_skip ?_))⟩
  ·
    intro _u hj
    skip
    refine Sat.seq ?_
    -- region 7
    refine Sat.region ?_
    refine Tr.move rfl rfl rfl ?_
    refine Tr.callV rfl rfl rfl rfl Body21 (scalar_rest b o c n xs hx hn) (fun W2 h => sees_ext h (by simp) hW) ?_
    refine Tr.move rfl rfl rfl ?_
    refine Tr.extract rfl rfl rfl rfl ?_
    refine Tr.extract rfl rfl rfl rfl ?_
    refine Tr.alloc (cs := (bytesV (List.replicate 32 0))) rfl Zr47 rfl ?_
    intro n5 hn5 hf5
    first
      | refine Tr.storeAll rfl rfl rfl rfl (by simp [isCell]) Sz47 (by simp [leb_length, words4_length, List.length_replicate, subB_all, padB_all, hx, h256]) (by first | exact mem0 | exact mem1 | exact mem2 | exact mem3 | exact mem4 | exact mem5 | exact mem6 | exact mem7) (by simp [leb_length, words4_length, List.length_replicate, subB_all, padB_all, hx, h256]) (by first | exact upd0 | exact upd1 | exact upd2 | exact upd3 | exact upd4 | exact upd5 | exact upd6 | exact upd7) ?_
      | refine Tr.storeN _ rfl rfl rfl rfl rfl (by simp [isCell]) Sz47 (by simp [leb_length, words4_length, List.length_replicate, subB_all, padB_all, hx, h256]) (by first | exact mem0 | exact mem1 | exact mem2 | exact mem3 | exact mem4 | exact mem5 | exact mem6 | exact mem7) (by simp [leb_length, words4_length, List.length_replicate, subB_all, padB_all, hx, h256]) (by exact rfl) (by first | exact upd0 | exact upd1 | exact upd2 | exact upd3 | exact upd4 | exact upd5 | exact upd6 | exact upd7) ?_
    refine Tr.assign rfl rfl rfl ?_
    refine Tr.nil ?_
    refine at_n ?_
    refine Sat.seq ?_
    -- region 8
    refine Sat.region ?_
    refine Tr.move rfl rfl rfl ?_
    refine Tr.move rfl rfl rfl ?_
    refine Tr.sliceHi k rfl rfl rfl rfl rfl (by omega) Try.underlying27 Sz5 ?_
    refine Tr.callV rfl rfl rfl rfl Body21 (scalar_rest b o c k (xs.take k) (by simp; omega) (by omega)) (fun W2 h => sees_take (sees_ext h (by simp) hW)) ?_
    refine Tr.move rfl rfl rfl ?_
    refine Tr.extract rfl rfl rfl rfl ?_
    refine Tr.extract rfl rfl rfl rfl ?_
    refine Tr.alloc (cs := (bytesV (List.replicate 32 0))) rfl Zr47 rfl ?_
    intro n7 hn7 hf7
    first
      | refine Tr.storeAll rfl rfl rfl rfl (by simp [isCell]) Sz47 (by simp [leb_length, words4_length, List.length_replicate, subB_all, padB_all, hx, h256]) (by first | exact mem0 | exact mem1 | exact mem2 | exact mem3 | exact mem4 | exact mem5 | exact mem6 | exact mem7) (by simp [leb_length, words4_length, List.length_replicate, subB_all, padB_all, hx, h256]) (by first | exact upd0 | exact upd1 | exact upd2 | exact upd3 | exact upd4 | exact upd5 | exact upd6 | exact upd7) ?_
      | refine Tr.storeN _ rfl rfl rfl rfl rfl (by simp [isCell]) Sz47 (by simp [leb_length, words4_length, List.length_replicate, subB_all, padB_all, hx, h256]) (by first | exact mem0 | exact mem1 | exact mem2 | exact mem3 | exact mem4 | exact mem5 | exact mem6 | exact mem7) (by simp [leb_length, words4_length, List.length_replicate, subB_all, padB_all, hx, h256]) (by exact rfl) (by first | exact upd0 | exact upd1 | exact upd2 | exact upd3 | exact upd4 | exact upd5 | exact upd6 | exact upd7) ?_
    refine Tr.assign rfl rfl rfl ?_
    refine Tr.nil ?_
    refine at_n ?_
    refine Sat.seq ?_
    -- region 9
    refine Sat.region ?_
    refine Tr.move rfl rfl rfl ?_
    refine Tr.move rfl rfl rfl ?_
    refine Tr.sliceLo k rfl rfl rfl rfl rfl (by omega) (by omega) Try.underlying27 Sz5 ?_
    refine Tr.callV rfl rfl rfl rfl Body21 (scalar_rest b _ _ (n - k) (xs.drop k) (by simp; omega) (by omega)) (fun W2 h => sees_drop hx hnc (sees_ext h (by simp) hW)) ?_
    refine Tr.move rfl rfl rfl ?_
    refine Tr.extract rfl rfl rfl rfl ?_
    refine Tr.extract rfl rfl rfl rfl ?_
    refine Tr.alloc (cs := (bytesV (List.replicate 32 0))) rfl Zr47 rfl ?_
    intro n9 hn9 hf9
    first
      | refine Tr.storeAll rfl rfl rfl rfl (by simp [isCell]) Sz47 (by simp [leb_length, words4_length, List.length_replicate, subB_all, padB_all, hx, h256]) (by first | exact mem0 | exact mem1 | exact mem2 | exact mem3 | exact mem4 | exact mem5 | exact mem6 | exact mem7) (by simp [leb_length, words4_length, List.length_replicate, subB_all, padB_all, hx, h256]) (by first | exact upd0 | exact upd1 | exact upd2 | exact upd3 | exact upd4 | exact upd5 | exact upd6 | exact upd7) ?_
      | refine Tr.storeN _ rfl rfl rfl rfl rfl (by simp [isCell]) Sz47 (by simp [leb_length, words4_length, List.length_replicate, subB_all, padB_all, hx, h256]) (by first | exact mem0 | exact mem1 | exact mem2 | exact mem3 | exact mem4 | exact mem5 | exact mem6 | exact mem7) (by simp [leb_length, words4_length, List.length_replicate, subB_all, padB_all, hx, h256]) (by exact rfl) (by first | exact upd0 | exact upd1 | exact upd2 | exact upd3 | exact upd4 | exact upd5 | exact upd6 | exact upd7) ?_
    refine Tr.assign rfl rfl rfl ?_
    refine Tr.nil ?_
    refine at_n ?_
    refine Sat.join (ι := Unit) (fun _u => ⟨[(0, .slice (some ⟨b, o, none⟩) n c), (1, i64 (k : Int)), (5, ptr n5 0), (6, i64 0), (7, ptr n7 0), (8, i64 0), (9, ptr n9 0), (10, i64 0)], [⟨n9, bytesV (leb 32 (pw (k) * le (xs.drop k) % L)), 47, 32⟩, ⟨n7, bytesV (leb 32 (le (xs.take k) % L)), 47, 32⟩, ⟨n5, bytesV (leb 32 (le xs % L)), 47, 32⟩]⟩) (fun _u => True) ?_ ?_
    ·
      refine Sat.seq ?_
      -- region 10
      refine Sat.region ?_
      refine Tr.assign rfl rfl rfl ?_
      refine Tr.nil ?_
      refine at_n ?_
      refine Sat.block ?_
      refine Sat.loop (ι := Nat) (fun i => ⟨[(0, .slice (some ⟨b, o, none⟩) n c), (1, i64 (k : Int)), (5, ptr n5 0), (6, i64 0), (7, ptr n7 0), (8, i64 0), (9, ptr n9 0), (10, i64 0), (11, i64 (i : Int))], [⟨n9, bytesV (leb 32 (pw (i) * le (xs.drop k) % L)), 47, 32⟩, ⟨n7, bytesV (leb 32 (le (xs.take k) % L)), 47, 32⟩, ⟨n5, bytesV (leb 32 (le xs % L)), 47, 32⟩]⟩) (fun i => i ≤ k) (fun i => k - i) (0) ?_ ?_ ?_
      · omega
      · exact weak_of (wk1 rfl (wk1 rfl (wk1 rfl (wk1 rfl (wk1 rfl (wk1 rfl (wk1 rfl (wk1 rfl (wk1 rfl wk0))))))))) (wh1 (by rw [p0, Nat.one_mul]; exact mem0) (wh1 (by first | exact mem0 | exact mem1 | exact mem2 | exact mem3 | exact mem4 | exact mem5 | exact mem6 | exact mem7) (wh1 (by first | exact mem0 | exact mem1 | exact mem2 | exact mem3 | exact mem4 | exact mem5 | exact mem6 | exact mem7) wh0))) (by repeat (first | exact ns_nil | refine ns_keep rfl ?_ | refine ns_skip ?_))
      ·
        rintro i hi
        refine Sat.seq ?_
        refine Sat.seq ?_
        -- region 11
        refine Sat.region ?_
        refine Tr.move rfl rfl rfl ?_
        refine Tr.move rfl rfl rfl ?_
        refine Tr.lss rfl rfl rfl rfl rfl ?_
        refine Tr.nil ?_
        refine at_n ?_
        first
          | refine Sat.condP rfl (fun hc3 => ?_) (fun hc3 => ?_)
          | refine Sat.condNP rfl (fun hc3 => ?_) (fun hc3 => ?_)
          | refine Sat.cond rfl (fun hc3 => ?_) (fun hc3 => ?_)
        ·
          have hk1 : i < k := by omega
          refine Sat.skip ?_
          refine at_n ?_
          refine Sat.seq ?_
          refine Sat.block ?_
          -- region 13
          refine Sat.draw [(1, 0), (3, 1), (3, 2), (4, 3)] Mixed (by kernel_rfl) ?_
          first
            | refine Tr.loadAll rfl rfl rfl Try.underlying47 rfl Sz47 (by first | exact mem0 | exact mem1 | exact mem2 | exact mem3 | exact mem4 | exact mem5 | exact mem6 | exact mem7) (by simp [leb_length, words4_length, List.length_replicate, subB_all, padB_all, hx, h256]) ?_
            | refine Tr.loadN _ rfl rfl rfl Try.underlying47 rfl Sz47 (by first | exact mem0 | exact mem1 | exact mem2 | exact mem3 | exact mem4 | exact mem5 | exact mem6 | exact mem7) (by exact rfl) (by simp [leb_length, words4_length, List.length_replicate, subB_all, padB_all, hx, h256]) ?_
          refine Tr.callV rfl rfl rfl rfl Body25 (c256) (fun _ _ => trivial) ?_
          refine Tr.callV rfl rfl rfl rfl Body29 (scalar_mul _ _ (by simp [leb_length, words4_length, List.length_replicate, subB_all, padB_all, hx, h256]) (by simp [leb_length, words4_length, List.length_replicate, subB_all, padB_all, hx, h256])) (fun _ _ => trivial) ?_
          first
            | refine Tr.storeAll rfl rfl rfl rfl (by simp [isCell]) Sz47 (by simp [leb_length, words4_length, List.length_replicate, subB_all, padB_all, hx, h256]) (by first | exact mem0 | exact mem1 | exact mem2 | exact mem3 | exact mem4 | exact mem5 | exact mem6 | exact mem7) (by simp [leb_length, words4_length, List.length_replicate, subB_all, padB_all, hx, h256]) (by first | exact upd0 | exact upd1 | exact upd2 | exact upd3 | exact upd4 | exact upd5 | exact upd6 | exact upd7) ?_
            | refine Tr.storeN _ rfl rfl rfl rfl rfl (by simp [isCell]) Sz47 (by simp [leb_length, words4_length, List.length_replicate, subB_all, padB_all, hx, h256]) (by first | exact mem0 | exact mem1 | exact mem2 | exact mem3 | exact mem4 | exact mem5 | exact mem6 | exact mem7) (by simp [leb_length, words4_length, List.length_replicate, subB_all, padB_all, hx, h256]) (by exact rfl) (by first | exact upd0 | exact upd1 | exact upd2 | exact upd3 | exact upd4 | exact upd5 | exact upd6 | exact upd7) ?_
          refine Tr.nil ?_
          refine bl_n ?_
          refine at_n ?_
          -- region 12
          refine Sat.region ?_
          refine Tr.move rfl rfl rfl ?_
          refine Tr.add_i64 rfl rfl rfl rfl (by omega) ?_
          refine Tr.assign rfl rfl rfl ?_
          refine Tr.nil ?_
          refine at_n ?_
          exact ⟨i + 1, by omega, by omega, weak_of (wk1 rfl (wk1 rfl (wk1 rfl (wk1 rfl (wk1 rfl (wk1 rfl (wk1 rfl (wk1 rfl (wk1 rfl wk0))))))))) (wh1 (by rw [ps, le_leb32 (lm (pw i * le (xs.drop k))), l256, Nat.mod_mul_mod, Nat.mul_right_comm]; exact mem0) (wh1 (by first | exact mem0 | exact mem1 | exact mem2 | exact mem3 | exact mem4 | exact mem5 | exact mem6 | exact mem7) (wh1 (by first | exact mem0 | exact mem1 | exact mem2 | exact mem3 | exact mem4 | exact mem5 | exact mem6 | exact mem7) wh0))) (by repeat (first | exact ns_nil | refine ns_keep rfl ?_ | refine ns_skip ?_))⟩
        ·
          obtain rfl : i = k := by omega
          refine Sat.exit ?_
          refine at_x ?_
          refine at_x ?_
          refine bl_h ?_
          refine at_n ?_
          refine ⟨(), trivial, weak_of (wk1 rfl (wk1 rfl (wk1 rfl (wk1 rfl (wk1 rfl (wk1 rfl (wk1 rfl (wk1 rfl wk0)))))))) (wh1 (by first | exact mem0 | exact mem1 | exact mem2 | exact mem3 | exact mem4 | exact mem5 | exact mem6 | exact mem7) (wh1 (by first | exact mem0 | exact mem1 | exact mem2 | exact mem3 | exact mem4 | exact mem5 | exact mem6 | exact mem7) (wh1 (by first | exact mem0 | exact mem1 | exact mem2 | exact mem3 | exact mem4 | exact mem5 | exact mem6 | exact mem7) wh0))) (by repeat (first | exact ns_nil | refine ns_keep rfl ?_ | refine ns_skip ?_))⟩
    ·
      intro _u hj
      skip
      refine Sat.seq ?_
      -- region 14
      refine Sat.region ?_
      refine Tr.emptySlice rfl rfl Try.underlying27 Sz5 ?_
      intro q0
      refine Tr.move rfl rfl rfl ?_
      refine Tr.appendRow (z := u8 0) (by' := 1) (bytesV xs) rfl rfl rfl rfl rfl Try.underlying27 Try.underlying27 Sz5 Zr5 (by unfold By; kernel_rfl) rfl (fun w h => sees_ext h (by simp) hW) (by simp [bytesV, isCell, u8]) rem_here rfl rfl (by omega) (by omega) (by omega) (by simp [bytesV]; omega) ?_
      intro q1 c1 hq1
      refine Tr.move rfl rfl rfl ?_
      refine Tr.lenSl rfl rfl rfl Try.underlying27 ?_
      refine Tr.sub_i64 rfl rfl rfl rfl (by omega) ?_
      refine Tr.appendMade (z := u8 0) (by' := 1) (m := 64 - n) rfl rfl rfl rfl rfl (by omega) Try.underlying27 Try.underlying3 Sz5 Zr5 (by unfold By; kernel_rfl) rfl rfl rem_here (by omega) (by simp [bytesV]; omega) (by omega) (by omega) (by omega) ?_
      intro q2 c2 hq2
      refine Tr.callV rfl rfl rfl rfl Body21 (scalar_rest q2 0 c2 (0 + n + (64 - n)) (xs ++ List.replicate (64 - n) 0) (by simp; omega) (by omega)) (fun W2 h => by have h9 := sees_own h mem0; rwa [bytesV_zeros] at h9) ?_
      refine Tr.move rfl rfl rfl ?_
      refine Tr.extract rfl rfl rfl rfl ?_
      refine Tr.extract rfl rfl rfl rfl ?_
      refine Tr.alloc (cs := (bytesV (List.replicate 32 0))) rfl Zr47 rfl ?_
      intro n12 hn12 hf12
      first
        | refine Tr.storeAll rfl rfl rfl rfl (by simp [isCell]) Sz47 (by simp [leb_length, words4_length, List.length_replicate, subB_all, padB_all, hx, h256]) (by first | exact mem0 | exact mem1 | exact mem2 | exact mem3 | exact mem4 | exact mem5 | exact mem6 | exact mem7) (by simp [leb_length, words4_length, List.length_replicate, subB_all, padB_all, hx, h256]) (by first | exact upd0 | exact upd1 | exact upd2 | exact upd3 | exact upd4 | exact upd5 | exact upd6 | exact upd7) ?_
        | refine Tr.storeN _ rfl rfl rfl rfl rfl (by simp [isCell]) Sz47 (by simp [leb_length, words4_length, List.length_replicate, subB_all, padB_all, hx, h256]) (by first | exact mem0 | exact mem1 | exact mem2 | exact mem3 | exact mem4 | exact mem5 | exact mem6 | exact mem7) (by simp [leb_length, words4_length, List.length_replicate, subB_all, padB_all, hx, h256]) (by exact rfl) (by first | exact upd0 | exact upd1 | exact upd2 | exact upd3 | exact upd4 | exact upd5 | exact upd6 | exact upd7) ?_
      refine Tr.assign rfl rfl rfl ?_
      refine Tr.nil ?_
      refine at_n ?_
      refine Sat.seq ?_
      -- region 15
      refine Sat.region ?_
      refine Tr.assign rfl rfl rfl ?_
      refine Tr.nil ?_
      refine at_n ?_
      refine Sat.join (ι := Nat) (fun cc => ⟨[(0, .slice (some ⟨b, o, none⟩) n c), (1, i64 (k : Int)), (5, ptr n5 0), (6, i64 0), (7, ptr n7 0), (8, i64 0), (9, ptr n9 0), (10, i64 0), (12, ptr n12 0), (13, i64 0), (14, i64 (cc : Int))], [⟨n12, bytesV (leb 32 (le xs % L)), 47, 32⟩, ⟨n9, bytesV (leb 32 (pw (k) * le (xs.drop k) % L)), 47, 32⟩, ⟨n7, bytesV (leb 32 (le (xs.take k) % L)), 47, 32⟩, ⟨n5, bytesV (leb 32 (le xs % L)), 47, 32⟩]⟩) (fun cc => (cc = 0 ↔ ∀ j, j < 256 → ((le xs % L)).testBit j = false)) ?_ ?_
      ·
        refine Sat.seq ?_
        -- region 16
        refine Sat.region ?_
        refine Tr.assign rfl rfl rfl ?_
        refine Tr.nil ?_
        refine at_n ?_
        refine Sat.block ?_
        refine Sat.loop (ι := Nat × Nat) (fun p => ⟨[(0, .slice (some ⟨b, o, none⟩) n c), (1, i64 (k : Int)), (5, ptr n5 0), (6, i64 0), (7, ptr n7 0), (8, i64 0), (9, ptr n9 0), (10, i64 0), (12, ptr n12 0), (13, i64 0), (14, i64 (p.2 : Int)), (15, i64 (p.1 : Int))], [⟨n12, bytesV (leb 32 (le xs % L)), 47, 32⟩, ⟨n9, bytesV (leb 32 (pw (k) * le (xs.drop k) % L)), 47, 32⟩, ⟨n7, bytesV (leb 32 (le (xs.take k) % L)), 47, 32⟩, ⟨n5, bytesV (leb 32 (le xs % L)), 47, 32⟩]⟩) (fun p => p.1 ≤ 256 ∧ p.2 ≤ p.1 ∧ (p.2 = 0 ↔ ∀ j, j < p.1 → ((le xs % L)).testBit j = false)) (fun p => 256 - p.1) ((0, 0)) ?_ ?_ ?_
        · exact ⟨by omega, by omega, by simp⟩
        · exact weak_of (wk1 rfl (wk1 rfl (wk1 rfl (wk1 rfl (wk1 rfl (wk1 rfl (wk1 rfl (wk1 rfl (wk1 rfl (wk1 rfl (wk1 rfl (wk1 rfl wk0)))))))))))) (wh1 (by rw [← le_more xs (64 - n)]; exact mem0) (wh1 (by first | exact mem0 | exact mem1 | exact mem2 | exact mem3 | exact mem4 | exact mem5 | exact mem6 | exact mem7) (wh1 (by first | exact mem0 | exact mem1 | exact mem2 | exact mem3 | exact mem4 | exact mem5 | exact mem6 | exact mem7) (wh1 (by first | exact mem0 | exact mem1 | exact mem2 | exact mem3 | exact mem4 | exact mem5 | exact mem6 | exact mem7) wh0)))) (by repeat (first | exact ns_nil | refine ns_keep rfl ?_ | refine ns_skip ?_))
        ·
          rintro p ⟨hp1, hp2, hp3⟩
          refine Sat.seq ?_
          refine Sat.seq ?_
          -- region 17
          refine Sat.region ?_
          refine Tr.move rfl rfl rfl ?_
          refine Tr.lss rfl rfl rfl rfl rfl ?_
          refine Tr.nil ?_
          refine at_n ?_
          first
            | refine Sat.condP rfl (fun hc4 => ?_) (fun hc4 => ?_)
            | refine Sat.condNP rfl (fun hc4 => ?_) (fun hc4 => ?_)
            | refine Sat.cond rfl (fun hc4 => ?_) (fun hc4 => ?_)
          ·
            have hk2 : p.1 < 256 := by omega
            refine Sat.skip ?_
            refine at_n ?_
            refine Sat.join (ι := Nat) (fun c9 => ⟨[(0, .slice (some ⟨b, o, none⟩) n c), (1, i64 (k : Int)), (5, ptr n5 0), (6, i64 0), (7, ptr n7 0), (8, i64 0), (9, ptr n9 0), (10, i64 0), (12, ptr n12 0), (13, i64 0), (14, i64 (c9 : Int)), (15, i64 (p.1 : Int))], [⟨n12, bytesV (leb 32 (le xs % L)), 47, 32⟩, ⟨n9, bytesV (leb 32 (pw (k) * le (xs.drop k) % L)), 47, 32⟩, ⟨n7, bytesV (leb 32 (le (xs.take k) % L)), 47, 32⟩, ⟨n5, bytesV (leb 32 (le xs % L)), 47, 32⟩]⟩) (fun c9 => c9 ≤ p.1 + 1 ∧ (c9 = 0 ↔ ∀ j, j < p.1 + 1 → ((le xs % L)).testBit j = false)) ?_ ?_
            ·
              refine Sat.block ?_
              refine Sat.seq ?_
              -- region 19
              refine Sat.region ?_
              first
                | refine Tr.loadAll rfl rfl rfl Try.underlying47 rfl Sz47 (by first | exact mem0 | exact mem1 | exact mem2 | exact mem3 | exact mem4 | exact mem5 | exact mem6 | exact mem7) (by simp [leb_length, words4_length, List.length_replicate, subB_all, padB_all, hx, h256]) ?_
                | refine Tr.loadN _ rfl rfl rfl Try.underlying47 rfl Sz47 (by first | exact mem0 | exact mem1 | exact mem2 | exact mem3 | exact mem4 | exact mem5 | exact mem6 | exact mem7) (by exact rfl) (by simp [leb_length, words4_length, List.length_replicate, subB_all, padB_all, hx, h256]) ?_
              refine Tr.move rfl rfl rfl ?_
              refine Tr.callV rfl rfl rfl rfl Body26 (scalar_bit_at (leb 32 (le xs % L)) (by simp [leb_length, words4_length, List.length_replicate, subB_all, padB_all, hx, h256]) p.1 hk2) (fun _ _ => trivial) ?_
              refine Tr.nil ?_
              refine at_n ?_
              refine Sat.cond rfl (fun hc5 => ?_) (fun hc5 => ?_)
              ·
                rw [le_leb32 (lm (le xs))] at hc5
                have hs9 := (cnt_step hp3).1 hc5
                -- region 20
                refine Sat.region ?_
                refine Tr.move rfl rfl rfl ?_
                refine Tr.add_i64 rfl rfl rfl rfl (by omega) ?_
                refine Tr.assign rfl rfl rfl ?_
                refine Tr.nil ?_
                refine bl_n ?_
                refine at_n ?_
                first
                  | exact ⟨p.2 + 1, ⟨by omega, hs9⟩, weak_of (wk1 rfl (wk1 rfl (wk1 rfl (wk1 rfl (wk1 rfl (wk1 rfl (wk1 rfl (wk1 rfl (wk1 rfl (wk1 rfl (wk1 rfl (wk1 rfl wk0)))))))))))) (wh1 (by first | exact mem0 | exact mem1 | exact mem2 | exact mem3 | exact mem4 | exact mem5 | exact mem6 | exact mem7) (wh1 (by first | exact mem0 | exact mem1 | exact mem2 | exact mem3 | exact mem4 | exact mem5 | exact mem6 | exact mem7) (wh1 (by first | exact mem0 | exact mem1 | exact mem2 | exact mem3 | exact mem4 | exact mem5 | exact mem6 | exact mem7) (wh1 (by first | exact mem0 | exact mem1 | exact mem2 | exact mem3 | exact mem4 | exact mem5 | exact mem6 | exact mem7) wh0)))) (by repeat (first | exact ns_nil | refine ns_keep rfl ?_ | refine ns_skip ?_))⟩
                  | exact ⟨p.2, ⟨by omega, hs9⟩, weak_of (wk1 rfl (wk1 rfl (wk1 rfl (wk1 rfl (wk1 rfl (wk1 rfl (wk1 rfl (wk1 rfl (wk1 rfl (wk1 rfl (wk1 rfl (wk1 rfl wk0)))))))))))) (wh1 (by first | exact mem0 | exact mem1 | exact mem2 | exact mem3 | exact mem4 | exact mem5 | exact mem6 | exact mem7) (wh1 (by first | exact mem0 | exact mem1 | exact mem2 | exact mem3 | exact mem4 | exact mem5 | exact mem6 | exact mem7) (wh1 (by first | exact mem0 | exact mem1 | exact mem2 | exact mem3 | exact mem4 | exact mem5 | exact mem6 | exact mem7) (wh1 (by first | exact mem0 | exact mem1 | exact mem2 | exact mem3 | exact mem4 | exact mem5 | exact mem6 | exact mem7) wh0)))) (by repeat (first | exact ns_nil | refine ns_keep rfl ?_ | refine ns_skip ?_))⟩
              ·
                rw [le_leb32 (lm (le xs))] at hc5
                have hs9 := (cnt_step hp3).2 hc5
                refine Sat.skip ?_
                refine bl_n ?_
                refine at_n ?_
                first
                  | exact ⟨p.2 + 1, ⟨by omega, hs9⟩, weak_of (wk1 rfl (wk1 rfl (wk1 rfl (wk1 rfl (wk1 rfl (wk1 rfl (wk1 rfl (wk1 rfl (wk1 rfl (wk1 rfl (wk1 rfl (wk1 rfl wk0)))))))))))) (wh1 (by first | exact mem0 | exact mem1 | exact mem2 | exact mem3 | exact mem4 | exact mem5 | exact mem6 | exact mem7) (wh1 (by first | exact mem0 | exact mem1 | exact mem2 | exact mem3 | exact mem4 | exact mem5 | exact mem6 | exact mem7) (wh1 (by first | exact mem0 | exact mem1 | exact mem2 | exact mem3 | exact mem4 | exact mem5 | exact mem6 | exact mem7) (wh1 (by first | exact mem0 | exact mem1 | exact mem2 | exact mem3 | exact mem4 | exact mem5 | exact mem6 | exact mem7) wh0)))) (by repeat (first | exact ns_nil | refine ns_keep rfl ?_ | refine ns_skip ?_))⟩
                  | exact ⟨p.2, ⟨by omega, hs9⟩, weak_of (wk1 rfl (wk1 rfl (wk1 rfl (wk1 rfl (wk1 rfl (wk1 rfl (wk1 rfl (wk1 rfl (wk1 rfl (wk1 rfl (wk1 rfl (wk1 rfl wk0)))))))))))) (wh1 (by first | exact mem0 | exact mem1 | exact mem2 | exact mem3 | exact mem4 | exact mem5 | exact mem6 | exact mem7) (wh1 (by first | exact mem0 | exact mem1 | exact mem2 | exact mem3 | exact mem4 | exact mem5 | exact mem6 | exact mem7) (wh1 (by first | exact mem0 | exact mem1 | exact mem2 | exact mem3 | exact mem4 | exact mem5 | exact mem6 | exact mem7) (wh1 (by first | exact mem0 | exact mem1 | exact mem2 | exact mem3 | exact mem4 | exact mem5 | exact mem6 | exact mem7) wh0)))) (by repeat (first | exact ns_nil | refine ns_keep rfl ?_ | refine ns_skip ?_))⟩
            ·
              intro c9 hj
              obtain ⟨hc9, hi9⟩ := hj
              -- region 18
              refine Sat.region ?_
              refine Tr.move rfl rfl rfl ?_
              refine Tr.add_i64 rfl rfl rfl rfl (by omega) ?_
              refine Tr.assign rfl rfl rfl ?_
              refine Tr.nil ?_
              refine at_n ?_
              exact ⟨(p.1 + 1, c9), ⟨by omega, by omega, hi9⟩, by simp only []; omega, weak_of (wk1 rfl (wk1 rfl (wk1 rfl (wk1 rfl (wk1 rfl (wk1 rfl (wk1 rfl (wk1 rfl (wk1 rfl (wk1 rfl (wk1 rfl (wk1 rfl wk0)))))))))))) (wh1 (by first | exact mem0 | exact mem1 | exact mem2 | exact mem3 | exact mem4 | exact mem5 | exact mem6 | exact mem7) (wh1 (by first | exact mem0 | exact mem1 | exact mem2 | exact mem3 | exact mem4 | exact mem5 | exact mem6 | exact mem7) (wh1 (by first | exact mem0 | exact mem1 | exact mem2 | exact mem3 | exact mem4 | exact mem5 | exact mem6 | exact mem7) (wh1 (by first | exact mem0 | exact mem1 | exact mem2 | exact mem3 | exact mem4 | exact mem5 | exact mem6 | exact mem7) wh0)))) (by repeat (first | exact ns_nil | refine ns_keep rfl ?_ | refine ns_skip ?_))⟩
          ·
            have e256b : p.1 = 256 := by omega
            rw [e256b] at hp3
            refine Sat.exit ?_
            refine at_x ?_
            refine at_x ?_
            refine bl_h ?_
            refine at_n ?_
            refine ⟨p.2, hp3, weak_of (wk1 rfl (wk1 rfl (wk1 rfl (wk1 rfl (wk1 rfl (wk1 rfl (wk1 rfl (wk1 rfl (wk1 rfl (wk1 rfl (wk1 rfl wk0))))))))))) (wh1 (by first | exact mem0 | exact mem1 | exact mem2 | exact mem3 | exact mem4 | exact mem5 | exact mem6 | exact mem7) (wh1 (by first | exact mem0 | exact mem1 | exact mem2 | exact mem3 | exact mem4 | exact mem5 | exact mem6 | exact mem7) (wh1 (by first | exact mem0 | exact mem1 | exact mem2 | exact mem3 | exact mem4 | exact mem5 | exact mem6 | exact mem7) (wh1 (by first | exact mem0 | exact mem1 | exact mem2 | exact mem3 | exact mem4 | exact mem5 | exact mem6 | exact mem7) wh0)))) (by repeat (first | exact ns_nil | refine ns_keep rfl ?_ | refine ns_skip ?_))⟩
      ·
        intro cc hj
        have hcnt := hj
        refine Sat.seq ?_
        -- region 21
        refine Sat.draw [(0, 0), (0, 1), (0, 2), (0, 3), (0, 4), (0, 5), (0, 6), (0, 7), (0, 8), (0, 9), (0, 10), (0, 11), (0, 12), (0, 13), (0, 14), (1, 15), (1, 16), (1, 17), (3, 18), (0, 19), (0, 20), (0, 21), (1, 22), (1, 23), (0, 24), (0, 25), (0, 26), (0, 27), (0, 28), (1, 29), (0, 30), (0, 31), (0, 32), (0, 33), (0, 34)] Mixed (by kernel_rfl) ?_
        refine Tr.move rfl rfl rfl ?_
        refine Tr.eqi rfl rfl rfl rfl (decide_eq_true (rfl)) ?_
        refine Tr.move rfl rfl rfl ?_
        refine Tr.move rfl rfl rfl ?_
        refine Tr.eqi rfl rfl rfl rfl (decide_eq_true (rfl)) ?_
        refine Tr.pick rfl rfl rfl rfl rfl rfl ?_
        refine Tr.move rfl rfl rfl ?_
        refine Tr.move rfl rfl rfl ?_
        refine Tr.eqi rfl rfl rfl rfl (decide_eq_true (rfl)) ?_
        refine Tr.pick rfl rfl rfl rfl rfl rfl ?_
        refine Tr.move rfl rfl rfl ?_
        refine Tr.move rfl rfl rfl ?_
        refine Tr.eqi rfl rfl rfl rfl (decide_eq_true (rfl)) ?_
        refine Tr.pick rfl rfl rfl rfl rfl rfl ?_
        refine Tr.move rfl rfl rfl ?_
        first
          | refine Tr.loadAll rfl rfl rfl Try.underlying47 rfl Sz47 (by first | exact mem0 | exact mem1 | exact mem2 | exact mem3 | exact mem4 | exact mem5 | exact mem6 | exact mem7) (by simp [leb_length, words4_length, List.length_replicate, subB_all, padB_all, hx, h256]) ?_
          | refine Tr.loadN _ rfl rfl rfl Try.underlying47 rfl Sz47 (by first | exact mem0 | exact mem1 | exact mem2 | exact mem3 | exact mem4 | exact mem5 | exact mem6 | exact mem7) (by exact rfl) (by simp [leb_length, words4_length, List.length_replicate, subB_all, padB_all, hx, h256]) ?_
        first
          | refine Tr.loadAll rfl rfl rfl Try.underlying47 rfl Sz47 (by first | exact mem0 | exact mem1 | exact mem2 | exact mem3 | exact mem4 | exact mem5 | exact mem6 | exact mem7) (by simp [leb_length, words4_length, List.length_replicate, subB_all, padB_all, hx, h256]) ?_
          | refine Tr.loadN _ rfl rfl rfl Try.underlying47 rfl Sz47 (by first | exact mem0 | exact mem1 | exact mem2 | exact mem3 | exact mem4 | exact mem5 | exact mem6 | exact mem7) (by exact rfl) (by simp [leb_length, words4_length, List.length_replicate, subB_all, padB_all, hx, h256]) ?_
        first
          | refine Tr.loadAll rfl rfl rfl Try.underlying47 rfl Sz47 (by first | exact mem0 | exact mem1 | exact mem2 | exact mem3 | exact mem4 | exact mem5 | exact mem6 | exact mem7) (by simp [leb_length, words4_length, List.length_replicate, subB_all, padB_all, hx, h256]) ?_
          | refine Tr.loadN _ rfl rfl rfl Try.underlying47 rfl Sz47 (by first | exact mem0 | exact mem1 | exact mem2 | exact mem3 | exact mem4 | exact mem5 | exact mem6 | exact mem7) (by exact rfl) (by simp [leb_length, words4_length, List.length_replicate, subB_all, padB_all, hx, h256]) ?_
        refine Tr.callV rfl rfl rfl rfl Body28 (scalar_add _ _ (by simp [leb_length, words4_length, List.length_replicate, subB_all, padB_all, hx, h256]) (by simp [leb_length, words4_length, List.length_replicate, subB_all, padB_all, hx, h256])) (fun _ _ => trivial) ?_
        refine Tr.eql_bytes rfl rfl rfl rfl Try.eqGuardType47 Try.underlying47 Try.underlying5 Sz5 (by simp [leb_length, words4_length, List.length_replicate, subB_all, padB_all, hx, h256]) (by simp [leb_length, words4_length, List.length_replicate, subB_all, padB_all, hx, h256]) (decide_eq_true (by rw [le_leb32 (lm _), le_leb32 (lm _), ← Nat.add_mod, hsum])) ?_
        refine Tr.pick rfl rfl rfl rfl rfl rfl ?_
        refine Tr.move rfl rfl rfl ?_
        first
          | refine Tr.loadAll rfl rfl rfl Try.underlying47 rfl Sz47 (by first | exact mem0 | exact mem1 | exact mem2 | exact mem3 | exact mem4 | exact mem5 | exact mem6 | exact mem7) (by simp [leb_length, words4_length, List.length_replicate, subB_all, padB_all, hx, h256]) ?_
          | refine Tr.loadN _ rfl rfl rfl Try.underlying47 rfl Sz47 (by first | exact mem0 | exact mem1 | exact mem2 | exact mem3 | exact mem4 | exact mem5 | exact mem6 | exact mem7) (by exact rfl) (by simp [leb_length, words4_length, List.length_replicate, subB_all, padB_all, hx, h256]) ?_
        first
          | refine Tr.loadAll rfl rfl rfl Try.underlying47 rfl Sz47 (by first | exact mem0 | exact mem1 | exact mem2 | exact mem3 | exact mem4 | exact mem5 | exact mem6 | exact mem7) (by simp [leb_length, words4_length, List.length_replicate, subB_all, padB_all, hx, h256]) ?_
          | refine Tr.loadN _ rfl rfl rfl Try.underlying47 rfl Sz47 (by first | exact mem0 | exact mem1 | exact mem2 | exact mem3 | exact mem4 | exact mem5 | exact mem6 | exact mem7) (by exact rfl) (by simp [leb_length, words4_length, List.length_replicate, subB_all, padB_all, hx, h256]) ?_
        refine Tr.eql_bytes rfl rfl rfl rfl Try.eqGuardType47 Try.underlying47 Try.underlying5 Sz5 (by simp [leb_length, words4_length, List.length_replicate, subB_all, padB_all, hx, h256]) (by simp [leb_length, words4_length, List.length_replicate, subB_all, padB_all, hx, h256]) (decide_eq_true (rfl)) ?_
        refine Tr.pick rfl rfl rfl rfl rfl rfl ?_
        refine Tr.move rfl rfl rfl ?_
        refine Tr.move rfl rfl rfl ?_
        refine Tr.eqi rfl rfl rfl rfl rfl ?_
        first
          | refine Tr.loadAll rfl rfl rfl Try.underlying47 rfl Sz47 (by first | exact mem0 | exact mem1 | exact mem2 | exact mem3 | exact mem4 | exact mem5 | exact mem6 | exact mem7) (by simp [leb_length, words4_length, List.length_replicate, subB_all, padB_all, hx, h256]) ?_
          | refine Tr.loadN _ rfl rfl rfl Try.underlying47 rfl Sz47 (by first | exact mem0 | exact mem1 | exact mem2 | exact mem3 | exact mem4 | exact mem5 | exact mem6 | exact mem7) (by exact rfl) (by simp [leb_length, words4_length, List.length_replicate, subB_all, padB_all, hx, h256]) ?_
        refine Tr.build (cs := bytesV (List.replicate 32 0)) rfl rfl rfl (fun w => by kernel_rfl) ?_
        refine Tr.eql_bytes rfl rfl rfl rfl Try.eqGuardType47 Try.underlying47 Try.underlying5 Sz5 (by simp [leb_length, words4_length, List.length_replicate, subB_all, padB_all, hx, h256]) (by simp [leb_length, words4_length, List.length_replicate, subB_all, padB_all, hx, h256]) rfl ?_
        refine Tr.eqb (r := true) rfl rfl rfl rfl Try.underlying4 (cnt_zero _ (le xs % L) (lm _) hcnt) ?_
        refine Tr.pick rfl rfl rfl rfl rfl rfl ?_
        refine Tr.assign rfl rfl rfl ?_
        refine Tr.nil ?_
        refine at_n ?_
        refine Sat.ret ?_
        refine en_r ?_
        refine ⟨_, [], res_tmp rfl rfl, (by simp), (by simp), ?_, rfl⟩
        rfl

set_option maxRecDepth 100000 in
set_option maxHeartbeats 4000000 in
theorem law_rests_big (b o c n : Nat) (xs : List UInt8) (hx : xs.length = n) (hn : n ≤ 64) (hnc : n ≤ c) (t : Int) (ht : (n : Int) < t) : Meets Try.prog 7 [.slice (some ⟨b, o, none⟩) n c, i64 t] [] (fun W => Sees W b o (bytesV xs)) (fun v out => v = .bool true ∧ out = []) := by
  intro W hW
  obtain ⟨s256, c256, h256, e256⟩ := law_small_ex 256
  have l256 : le s256 = 256 := by rw [e256]; decide
  obtain ⟨k, hk, hkk⟩ : ∃ k : Nat, k ≤ n ∧ ((n : Int) / 2 = (k : Int)) := ⟨n / 2, by omega, by omega⟩
  obtain ⟨pw, hpw⟩ : ∃ pw : Nat → Nat, pw = fun k => 256 ^ k := ⟨_, rfl⟩
  have p0 : pw 0 = 1 := by rw [hpw]
  have ps : ∀ k, pw (k + 1) = pw k * 256 := fun k => by rw [hpw]; exact Nat.pow_succ 256 k
  have hsum : le xs = le (xs.take k) + pw k * le (xs.drop k) := by rw [hpw]; exact le_take_drop xs k (by omega)
  clear hpw
  refine calls_of (hp0 := []) Try.func7 rfl 113 Try.ntmps7 rfl (HRep.nil _) ?_
  refine Sat.seq ?_
  -- region 0
  refine Sat.region ?_
  refine Tr.assign rfl rfl rfl ?_
  refine Tr.nil ?_
  refine at_n ?_
  refine Sat.seq ?_
  refine Sat.seq ?_
  -- region 1
  refine Sat.region ?_
  refine Tr.callV rfl rfl rfl rfl Body22 (law_lives) (fun _ _ => trivial) ?_
  refine Tr.not rfl rfl rfl ?_
  refine Tr.nil ?_
  refine at_n ?_
  refine Sat.cond_f rfl (rfl) ?_
  refine Sat.skip ?_
  refine at_n ?_
  refine Sat.seq ?_
  refine Sat.seq ?_
  -- region 3
  refine Sat.region ?_
  refine Tr.move rfl rfl rfl ?_
  refine Tr.lenSl rfl rfl rfl Try.underlying27 ?_
  refine Tr.gtr rfl rfl rfl rfl (decide_eq_false (by omega)) ?_
  refine Tr.nil ?_
  refine at_n ?_
  refine Sat.cond_f rfl (rfl) ?_
  refine Sat.skip ?_
  refine at_n ?_
  refine Sat.join (ι := Unit) (fun _u => ⟨[(0, .slice (some ⟨b, o, none⟩) n c), (1, i64 (k : Int))], []⟩) (fun _u => True) ?_ ?_
  ·
    refine Sat.seq ?_
    -- region 5
    refine Sat.region ?_
    refine Tr.move rfl rfl rfl ?_
    refine Tr.lss rfl rfl rfl rfl (decide_eq_false (by omega)) ?_
    refine Tr.move rfl rfl rfl ?_
    refine Tr.move rfl rfl rfl ?_
    refine Tr.move rfl rfl rfl ?_
    refine Tr.lenSl rfl rfl rfl Try.underlying27 ?_
    refine Tr.gtr rfl rfl rfl rfl (decide_eq_true (ht)) ?_
    refine Tr.pick rfl rfl rfl rfl rfl rfl ?_
    refine Tr.nil ?_
    refine at_n ?_
    refine Sat.cond_t rfl (rfl) ?_
    -- region 6
    refine Sat.region ?_
    refine Tr.move rfl rfl rfl ?_
    refine Tr.lenSl rfl rfl rfl Try.underlying27 ?_
    refine Tr.quo_i64 rfl rfl rfl rfl (by omega) ?_
    refine Tr.assign rfl rfl rfl ?_
    refine Tr.nil ?_
    refine at_n ?_
    refine ⟨(), trivial, weak_of (wk1 rfl (wk1 (by rw [← hkk]; rfl) wk0)) wh0 (by repeat (first | exact ns_nil | refine ns_keep rfl ?_ | refine ns_skip ?_))⟩
  ·
    intro _u hj
    skip
    refine Sat.seq ?_
    -- region 7
    refine Sat.region ?_
    refine Tr.move rfl rfl rfl ?_
    refine Tr.callV rfl rfl rfl rfl Body21 (scalar_rest b o c n xs hx hn) (fun W2 h => sees_ext h (by simp) hW) ?_
    refine Tr.move rfl rfl rfl ?_
    refine Tr.extract rfl rfl rfl rfl ?_
    refine Tr.extract rfl rfl rfl rfl ?_
    refine Tr.alloc (cs := (bytesV (List.replicate 32 0))) rfl Zr47 rfl ?_
    intro n5 hn5 hf5
    first
      | refine Tr.storeAll rfl rfl rfl rfl (by simp [isCell]) Sz47 (by simp [leb_length, words4_length, List.length_replicate, subB_all, padB_all, hx, h256]) (by first | exact mem0 | exact mem1 | exact mem2 | exact mem3 | exact mem4 | exact mem5 | exact mem6 | exact mem7) (by simp [leb_length, words4_length, List.length_replicate, subB_all, padB_all, hx, h256]) (by first | exact upd0 | exact upd1 | exact upd2 | exact upd3 | exact upd4 | exact upd5 | exact upd6 | exact upd7) ?_
      | refine Tr.storeN _ rfl rfl rfl rfl rfl (by simp [isCell]) Sz47 (by simp [leb_length, words4_length, List.length_replicate, subB_all, padB_all, hx, h256]) (by first | exact mem0 | exact mem1 | exact mem2 | exact mem3 | exact mem4 | exact mem5 | exact mem6 | exact mem7) (by simp [leb_length, words4_length, List.length_replicate, subB_all, padB_all, hx, h256]) (by exact rfl) (by first | exact upd0 | exact upd1 | exact upd2 | exact upd3 | exact upd4 | exact upd5 | exact upd6 | exact upd7) ?_
    refine Tr.assign rfl rfl rfl ?_
    refine Tr.nil ?_
    refine at_n ?_
    refine Sat.seq ?_
    -- region 8
    refine Sat.region ?_
    refine Tr.move rfl rfl rfl ?_
    refine Tr.move rfl rfl rfl ?_
    refine Tr.sliceHi k rfl rfl rfl rfl rfl (by omega) Try.underlying27 Sz5 ?_
    refine Tr.callV rfl rfl rfl rfl Body21 (scalar_rest b o c k (xs.take k) (by simp; omega) (by omega)) (fun W2 h => sees_take (sees_ext h (by simp) hW)) ?_
    refine Tr.move rfl rfl rfl ?_
    refine Tr.extract rfl rfl rfl rfl ?_
    refine Tr.extract rfl rfl rfl rfl ?_
    refine Tr.alloc (cs := (bytesV (List.replicate 32 0))) rfl Zr47 rfl ?_
    intro n7 hn7 hf7
    first
      | refine Tr.storeAll rfl rfl rfl rfl (by simp [isCell]) Sz47 (by simp [leb_length, words4_length, List.length_replicate, subB_all, padB_all, hx, h256]) (by first | exact mem0 | exact mem1 | exact mem2 | exact mem3 | exact mem4 | exact mem5 | exact mem6 | exact mem7) (by simp [leb_length, words4_length, List.length_replicate, subB_all, padB_all, hx, h256]) (by first | exact upd0 | exact upd1 | exact upd2 | exact upd3 | exact upd4 | exact upd5 | exact upd6 | exact upd7) ?_
      | refine Tr.storeN _ rfl rfl rfl rfl rfl (by simp [isCell]) Sz47 (by simp [leb_length, words4_length, List.length_replicate, subB_all, padB_all, hx, h256]) (by first | exact mem0 | exact mem1 | exact mem2 | exact mem3 | exact mem4 | exact mem5 | exact mem6 | exact mem7) (by simp [leb_length, words4_length, List.length_replicate, subB_all, padB_all, hx, h256]) (by exact rfl) (by first | exact upd0 | exact upd1 | exact upd2 | exact upd3 | exact upd4 | exact upd5 | exact upd6 | exact upd7) ?_
    refine Tr.assign rfl rfl rfl ?_
    refine Tr.nil ?_
    refine at_n ?_
    refine Sat.seq ?_
    -- region 9
    refine Sat.region ?_
    refine Tr.move rfl rfl rfl ?_
    refine Tr.move rfl rfl rfl ?_
    refine Tr.sliceLo k rfl rfl rfl rfl rfl (by omega) (by omega) Try.underlying27 Sz5 ?_
    refine Tr.callV rfl rfl rfl rfl Body21 (scalar_rest b _ _ (n - k) (xs.drop k) (by simp; omega) (by omega)) (fun W2 h => sees_drop hx hnc (sees_ext h (by simp) hW)) ?_
    refine Tr.move rfl rfl rfl ?_
    refine Tr.extract rfl rfl rfl rfl ?_
    refine Tr.extract rfl rfl rfl rfl ?_
    refine Tr.alloc (cs := (bytesV (List.replicate 32 0))) rfl Zr47 rfl ?_
    intro n9 hn9 hf9
    first
      | refine Tr.storeAll rfl rfl rfl rfl (by simp [isCell]) Sz47 (by simp [leb_length, words4_length, List.length_replicate, subB_all, padB_all, hx, h256]) (by first | exact mem0 | exact mem1 | exact mem2 | exact mem3 | exact mem4 | exact mem5 | exact mem6 | exact mem7) (by simp [leb_length, words4_length, List.length_replicate, subB_all, padB_all, hx, h256]) (by first | exact upd0 | exact upd1 | exact upd2 | exact upd3 | exact upd4 | exact upd5 | exact upd6 | exact upd7) ?_
      | refine Tr.storeN _ rfl rfl rfl rfl rfl (by simp [isCell]) Sz47 (by simp [leb_length, words4_length, List.length_replicate, subB_all, padB_all, hx, h256]) (by first | exact mem0 | exact mem1 | exact mem2 | exact mem3 | exact mem4 | exact mem5 | exact mem6 | exact mem7) (by simp [leb_length, words4_length, List.length_replicate, subB_all, padB_all, hx, h256]) (by exact rfl) (by first | exact upd0 | exact upd1 | exact upd2 | exact upd3 | exact upd4 | exact upd5 | exact upd6 | exact upd7) ?_
    refine Tr.assign rfl rfl rfl ?_
    refine Tr.nil ?_
    refine at_n ?_
    refine Sat.join (ι := Unit) (fun _u => ⟨[(0, .slice (some ⟨b, o, none⟩) n c), (1, i64 (k : Int)), (5, ptr n5 0), (6, i64 0), (7, ptr n7 0), (8, i64 0), (9, ptr n9 0), (10, i64 0)], [⟨n9, bytesV (leb 32 (pw (k) * le (xs.drop k) % L)), 47, 32⟩, ⟨n7, bytesV (leb 32 (le (xs.take k) % L)), 47, 32⟩, ⟨n5, bytesV (leb 32 (le xs % L)), 47, 32⟩]⟩) (fun _u => True) ?_ ?_
    ·
      refine Sat.seq ?_
      -- region 10
      refine Sat.region ?_
      refine Tr.assign rfl rfl rfl ?_
      refine Tr.nil ?_
      refine at_n ?_
      refine Sat.block ?_
      refine Sat.loop (ι := Nat) (fun i => ⟨[(0, .slice (some ⟨b, o, none⟩) n c), (1, i64 (k : Int)), (5, ptr n5 0), (6, i64 0), (7, ptr n7 0), (8, i64 0), (9, ptr n9 0), (10, i64 0), (11, i64 (i : Int))], [⟨n9, bytesV (leb 32 (pw (i) * le (xs.drop k) % L)), 47, 32⟩, ⟨n7, bytesV (leb 32 (le (xs.take k) % L)), 47, 32⟩, ⟨n5, bytesV (leb 32 (le xs % L)), 47, 32⟩]⟩) (fun i => i ≤ k) (fun i => k - i) (0) ?_ ?_ ?_
      · omega
      · exact weak_of (wk1 rfl (wk1 rfl (wk1 rfl (wk1 rfl (wk1 rfl (wk1 rfl (wk1 rfl (wk1 rfl (wk1 rfl wk0))))))))) (wh1 (by rw [p0, Nat.one_mul]; exact mem0) (wh1 (by first | exact mem0 | exact mem1 | exact mem2 | exact mem3 | exact mem4 | exact mem5 | exact mem6 | exact mem7) (wh1 (by first | exact mem0 | exact mem1 | exact mem2 | exact mem3 | exact mem4 | exact mem5 | exact mem6 | exact mem7) wh0))) (by repeat (first | exact ns_nil | refine ns_keep rfl ?_ | refine ns_skip ?_))
      ·
        rintro i hi
        refine Sat.seq ?_
        refine Sat.seq ?_
        -- region 11
        refine Sat.region ?_
        refine Tr.move rfl rfl rfl ?_
        refine Tr.move rfl rfl rfl ?_
        refine Tr.lss rfl rfl rfl rfl rfl ?_
        refine Tr.nil ?_
        refine at_n ?_
        first
          | refine Sat.condP rfl (fun hc3 => ?_) (fun hc3 => ?_)
          | refine Sat.condNP rfl (fun hc3 => ?_) (fun hc3 => ?_)
          | refine Sat.cond rfl (fun hc3 => ?_) (fun hc3 => ?_)
        ·
          have hk1 : i < k := by omega
          refine Sat.skip ?_
          refine at_n ?_
          refine Sat.seq ?_
          refine Sat.block ?_
          -- region 13
          refine Sat.draw [(1, 0), (3, 1), (3, 2), (4, 3)] Mixed (by kernel_rfl) ?_
          first
            | refine Tr.loadAll rfl rfl rfl Try.underlying47 rfl Sz47 (by first | exact mem0 | exact mem1 | exact mem2 | exact mem3 | exact mem4 | exact mem5 | exact mem6 | exact mem7) (by simp [leb_length, words4_length, List.length_replicate, subB_all, padB_all, hx, h256]) ?_
            | refine Tr.loadN _ rfl rfl rfl Try.underlying47 rfl Sz47 (by first | exact mem0 | exact mem1 | exact mem2 | exact mem3 | exact mem4 | exact mem5 | exact mem6 | exact mem7) (by exact rfl) (by simp [leb_length, words4_length, List.length_replicate, subB_all, padB_all, hx, h256]) ?_
          refine Tr.callV rfl rfl rfl rfl Body25 (c256) (fun _ _ => trivial) ?_
          refine Tr.callV rfl rfl rfl rfl Body29 (scalar_mul _ _ (by simp [leb_length, words4_length, List.length_replicate, subB_all, padB_all, hx, h256]) (by simp [leb_length, words4_length, List.length_replicate, subB_all, padB_all, hx, h256])) (fun _ _ => trivial) ?_
          first
            | refine Tr.storeAll rfl rfl rfl rfl (by simp [isCell]) Sz47 (by simp [leb_length, words4_length, List.length_replicate, subB_all, padB_all, hx, h256]) (by first | exact mem0 | exact mem1 | exact mem2 | exact mem3 | exact mem4 | exact mem5 | exact mem6 | exact mem7) (by simp [leb_length, words4_length, List.length_replicate, subB_all, padB_all, hx, h256]) (by first | exact upd0 | exact upd1 | exact upd2 | exact upd3 | exact upd4 | exact upd5 | exact upd6 | exact upd7) ?_
            | refine Tr.storeN _ rfl rfl rfl rfl rfl (by simp [isCell]) Sz47 (by simp [leb_length, words4_length, List.length_replicate, subB_all, padB_all, hx, h256]) (by first | exact mem0 | exact mem1 | exact mem2 | exact mem3 | exact mem4 | exact mem5 | exact mem6 | exact mem7) (by simp [leb_length, words4_length, List.length_replicate, subB_all, padB_all, hx, h256]) (by exact rfl) (by first | exact upd0 | exact upd1 | exact upd2 | exact upd3 | exact upd4 | exact upd5 | exact upd6 | exact upd7) ?_
          refine Tr.nil ?_
          refine bl_n ?_
          refine at_n ?_
          -- region 12
          refine Sat.region ?_
          refine Tr.move rfl rfl rfl ?_
          refine Tr.add_i64 rfl rfl rfl rfl (by omega) ?_
          refine Tr.assign rfl rfl rfl ?_
          refine Tr.nil ?_
          refine at_n ?_
          exact ⟨i + 1, by omega, by omega, weak_of (wk1 rfl (wk1 rfl (wk1 rfl (wk1 rfl (wk1 rfl (wk1 rfl (wk1 rfl (wk1 rfl (wk1 rfl wk0))))))))) (wh1 (by rw [ps, le_leb32 (lm (pw i * le (xs.drop k))), l256, Nat.mod_mul_mod, Nat.mul_right_comm]; exact mem0) (wh1 (by first | exact mem0 | exact mem1 | exact mem2 | exact mem3 | exact mem4 | exact mem5 | exact mem6 | exact mem7) (wh1 (by first | exact mem0 | exact mem1 | exact mem2 | exact mem3 | exact mem4 | exact mem5 | exact mem6 | exact mem7) wh0))) (by repeat (first | exact ns_nil | refine ns_keep rfl ?_ | refine ns_skip ?_))⟩
        ·
          obtain rfl : i = k := by omega
          refine Sat.exit ?_
          refine at_x ?_
          refine at_x ?_
          refine bl_h ?_
          refine at_n ?_
          refine ⟨(), trivial, weak_of (wk1 rfl (wk1 rfl (wk1 rfl (wk1 rfl (wk1 rfl (wk1 rfl (wk1 rfl (wk1 rfl wk0)))))))) (wh1 (by first | exact mem0 | exact mem1 | exact mem2 | exact mem3 | exact mem4 | exact mem5 | exact mem6 | exact mem7) (wh1 (by first | exact mem0 | exact mem1 | exact mem2 | exact mem3 | exact mem4 | exact mem5 | exact mem6 | exact mem7) (wh1 (by first | exact mem0 | exact mem1 | exact mem2 | exact mem3 | exact mem4 | exact mem5 | exact mem6 | exact mem7) wh0))) (by repeat (first | exact ns_nil | refine ns_keep rfl ?_ | refine ns_skip ?_))⟩
    ·
      intro _u hj
      skip
      refine Sat.seq ?_
      -- region 14
      refine Sat.region ?_
      refine Tr.emptySlice rfl rfl Try.underlying27 Sz5 ?_
      intro q0
      refine Tr.move rfl rfl rfl ?_
      refine Tr.appendRow (z := u8 0) (by' := 1) (bytesV xs) rfl rfl rfl rfl rfl Try.underlying27 Try.underlying27 Sz5 Zr5 (by unfold By; kernel_rfl) rfl (fun w h => sees_ext h (by simp) hW) (by simp [bytesV, isCell, u8]) rem_here rfl rfl (by omega) (by omega) (by omega) (by simp [bytesV]; omega) ?_
      intro q1 c1 hq1
      refine Tr.move rfl rfl rfl ?_
      refine Tr.lenSl rfl rfl rfl Try.underlying27 ?_
      refine Tr.sub_i64 rfl rfl rfl rfl (by omega) ?_
      refine Tr.appendMade (z := u8 0) (by' := 1) (m := 64 - n) rfl rfl rfl rfl rfl (by omega) Try.underlying27 Try.underlying3 Sz5 Zr5 (by unfold By; kernel_rfl) rfl rfl rem_here (by omega) (by simp [bytesV]; omega) (by omega) (by omega) (by omega) ?_
      intro q2 c2 hq2
      refine Tr.callV rfl rfl rfl rfl Body21 (scalar_rest q2 0 c2 (0 + n + (64 - n)) (xs ++ List.replicate (64 - n) 0) (by simp; omega) (by omega)) (fun W2 h => by have h9 := sees_own h mem0; rwa [bytesV_zeros] at h9) ?_
      refine Tr.move rfl rfl rfl ?_
      refine Tr.extract rfl rfl rfl rfl ?_
      refine Tr.extract rfl rfl rfl rfl ?_
      refine Tr.alloc (cs := (bytesV (List.replicate 32 0))) rfl Zr47 rfl ?_
      intro n12 hn12 hf12
      first
        | refine Tr.storeAll rfl rfl rfl rfl (by simp [isCell]) Sz47 (by simp [leb_length, words4_length, List.length_replicate, subB_all, padB_all, hx, h256]) (by first | exact mem0 | exact mem1 | exact mem2 | exact mem3 | exact mem4 | exact mem5 | exact mem6 | exact mem7) (by simp [leb_length, words4_length, List.length_replicate, subB_all, padB_all, hx, h256]) (by first | exact upd0 | exact upd1 | exact upd2 | exact upd3 | exact upd4 | exact upd5 | exact upd6 | exact upd7) ?_
        | refine Tr.storeN _ rfl rfl rfl rfl rfl (by simp [isCell]) Sz47 (by simp [leb_length, words4_length, List.length_replicate, subB_all, padB_all, hx, h256]) (by first | exact mem0 | exact mem1 | exact mem2 | exact mem3 | exact mem4 | exact mem5 | exact mem6 | exact mem7) (by simp [leb_length, words4_length, List.length_replicate, subB_all, padB_all, hx, h256]) (by exact rfl) (by first | exact upd0 | exact upd1 | exact upd2 | exact upd3 | exact upd4 | exact upd5 | exact upd6 | exact upd7) ?_
      refine Tr.assign rfl rfl rfl ?_
      refine Tr.nil ?_
      refine at_n ?_
      refine Sat.seq ?_
      -- region 15
      refine Sat.region ?_
      refine Tr.assign rfl rfl rfl ?_
      refine Tr.nil ?_
      refine at_n ?_
      refine Sat.join (ι := Nat) (fun cc => ⟨[(0, .slice (some ⟨b, o, none⟩) n c), (1, i64 (k : Int)), (5, ptr n5 0), (6, i64 0), (7, ptr n7 0), (8, i64 0), (9, ptr n9 0), (10, i64 0), (12, ptr n12 0), (13, i64 0), (14, i64 (cc : Int))], [⟨n12, bytesV (leb 32 (le xs % L)), 47, 32⟩, ⟨n9, bytesV (leb 32 (pw (k) * le (xs.drop k) % L)), 47, 32⟩, ⟨n7, bytesV (leb 32 (le (xs.take k) % L)), 47, 32⟩, ⟨n5, bytesV (leb 32 (le xs % L)), 47, 32⟩]⟩) (fun cc => (cc = 0 ↔ ∀ j, j < 256 → ((le xs % L)).testBit j = false)) ?_ ?_
      ·
        refine Sat.seq ?_
        -- region 16
        refine Sat.region ?_
        refine Tr.assign rfl rfl rfl ?_
        refine Tr.nil ?_
        refine at_n ?_
        refine Sat.block ?_
        refine Sat.loop (ι := Nat × Nat) (fun p => ⟨[(0, .slice (some ⟨b, o, none⟩) n c), (1, i64 (k : Int)), (5, ptr n5 0), (6, i64 0), (7, ptr n7 0), (8, i64 0), (9, ptr n9 0), (10, i64 0), (12, ptr n12 0), (13, i64 0), (14, i64 (p.2 : Int)), (15, i64 (p.1 : Int))], [⟨n12, bytesV (leb 32 (le xs % L)), 47, 32⟩, ⟨n9, bytesV (leb 32 (pw (k) * le (xs.drop k) % L)), 47, 32⟩, ⟨n7, bytesV (leb 32 (le (xs.take k) % L)), 47, 32⟩, ⟨n5, bytesV (leb 32 (le xs % L)), 47, 32⟩]⟩) (fun p => p.1 ≤ 256 ∧ p.2 ≤ p.1 ∧ (p.2 = 0 ↔ ∀ j, j < p.1 → ((le xs % L)).testBit j = false)) (fun p => 256 - p.1) ((0, 0)) ?_ ?_ ?_
        · exact ⟨by omega, by omega, by simp⟩
        · exact weak_of (wk1 rfl (wk1 rfl (wk1 rfl (wk1 rfl (wk1 rfl (wk1 rfl (wk1 rfl (wk1 rfl (wk1 rfl (wk1 rfl (wk1 rfl (wk1 rfl wk0)))))))))))) (wh1 (by rw [← le_more xs (64 - n)]; exact mem0) (wh1 (by first | exact mem0 | exact mem1 | exact mem2 | exact mem3 | exact mem4 | exact mem5 | exact mem6 | exact mem7) (wh1 (by first | exact mem0 | exact mem1 | exact mem2 | exact mem3 | exact mem4 | exact mem5 | exact mem6 | exact mem7) (wh1 (by first | exact mem0 | exact mem1 | exact mem2 | exact mem3 | exact mem4 | exact mem5 | exact mem6 | exact mem7) wh0)))) (by repeat (first | exact ns_nil | refine ns_keep rfl ?_ | refine ns_skip ?_))
        ·
          rintro p ⟨hp1, hp2, hp3⟩
          refine Sat.seq ?_
          refine Sat.seq ?_
          -- region 17
          refine Sat.region ?_
          refine Tr.move rfl rfl rfl ?_
          refine Tr.lss rfl rfl rfl rfl rfl ?_
          refine Tr.nil ?_
          refine at_n ?_
          first
            | refine Sat.condP rfl (fun hc4 => ?_) (fun hc4 => ?_)
            | refine Sat.condNP rfl (fun hc4 => ?_) (fun hc4 => ?_)
            | refine Sat.cond rfl (fun hc4 => ?_) (fun hc4 => ?_)
          ·
            have hk2 : p.1 < 256 := by omega
            refine Sat.skip ?_
            refine at_n ?_
            refine Sat.join (ι := Nat) (fun c9 => ⟨[(0, .slice (some ⟨b, o, none⟩) n c), (1, i64 (k : Int)), (5, ptr n5 0), (6, i64 0), (7, ptr n7 0), (8, i64 0), (9, ptr n9 0), (10, i64 0), (12, ptr n12 0), (13, i64 0), (14, i64 (c9 : Int)), (15, i64 (p.1 : Int))], [⟨n12, bytesV (leb 32 (le xs % L)), 47, 32⟩, ⟨n9, bytesV (leb 32 (pw (k) * le (xs.drop k) % L)), 47, 32⟩, ⟨n7, bytesV (leb 32 (le (xs.take k) % L)), 47, 32⟩, ⟨n5, bytesV (leb 32 (le xs % L)), 47, 32⟩]⟩) (fun c9 => c9 ≤ p.1 + 1 ∧ (c9 = 0 ↔ ∀ j, j < p.1 + 1 → ((le xs % L)).testBit j = false)) ?_ ?_
            ·
              refine Sat.block ?_
              refine Sat.seq ?_
              -- region 19
              refine Sat.region ?_
              first
                | refine Tr.loadAll rfl rfl rfl Try.underlying47 rfl Sz47 (by first | exact mem0 | exact mem1 | exact mem2 | exact mem3 | exact mem4 | exact mem5 | exact mem6 | exact mem7) (by simp [leb_length, words4_length, List.length_replicate, subB_all, padB_all, hx, h256]) ?_
                | refine Tr.loadN _ rfl rfl rfl Try.underlying47 rfl Sz47 (by first | exact mem0 | exact mem1 | exact mem2 | exact mem3 | exact mem4 | exact mem5 | exact mem6 | exact mem7) (by exact rfl) (by simp [leb_length, words4_length, List.length_replicate, subB_all, padB_all, hx, h256]) ?_
              refine Tr.move rfl rfl rfl ?_
              refine Tr.callV rfl rfl rfl rfl Body26 (scalar_bit_at (leb 32 (le xs % L)) (by simp [leb_length, words4_length, List.length_replicate, subB_all, padB_all, hx, h256]) p.1 hk2) (fun _ _ => trivial) ?_
              refine Tr.nil ?_
              refine at_n ?_
              refine Sat.cond rfl (fun hc5 => ?_) (fun hc5 => ?_)
              ·
                rw [le_leb32 (lm (le xs))] at hc5
                have hs9 := (cnt_step hp3).1 hc5
                -- region 20
                refine Sat.region ?_
                refine Tr.move rfl rfl rfl ?_
                refine Tr.add_i64 rfl rfl rfl rfl (by omega) ?_
                refine Tr.assign rfl rfl rfl ?_
                refine Tr.nil ?_
                refine bl_n ?_
                refine at_n ?_
                first
                  | exact ⟨p.2 + 1, ⟨by omega, hs9⟩, weak_of (wk1 rfl (wk1 rfl (wk1 rfl (wk1 rfl (wk1 rfl (wk1 rfl (wk1 rfl (wk1 rfl (wk1 rfl (wk1 rfl (wk1 rfl (wk1 rfl wk0)))))))))))) (wh1 (by first | exact mem0 | exact mem1 | exact mem2 | exact mem3 | exact mem4 | exact mem5 | exact mem6 | exact mem7) (wh1 (by first | exact mem0 | exact mem1 | exact mem2 | exact mem3 | exact mem4 | exact mem5 | exact mem6 | exact mem7) (wh1 (by first | exact mem0 | exact mem1 | exact mem2 | exact mem3 | exact mem4 | exact mem5 | exact mem6 | exact mem7) (wh1 (by first | exact mem0 | exact mem1 | exact mem2 | exact mem3 | exact mem4 | exact mem5 | exact mem6 | exact mem7) wh0)))) (by repeat (first | exact ns_nil | refine ns_keep rfl ?_ | refine ns_skip ?_))⟩
                  | exact ⟨p.2, ⟨by omega, hs9⟩, weak_of (wk1 rfl (wk1 rfl (wk1 rfl (wk1 rfl (wk1 rfl (wk1 rfl (wk1 rfl (wk1 rfl (wk1 rfl (wk1 rfl (wk1 rfl (wk1 rfl wk0)))))))))))) (wh1 (by first | exact mem0 | exact mem1 | exact mem2 | exact mem3 | exact mem4 | exact mem5 | exact mem6 | exact mem7) (wh1 (by first | exact mem0 | exact mem1 | exact mem2 | exact mem3 | exact mem4 | exact mem5 | exact mem6 | exact mem7) (wh1 (by first | exact mem0 | exact mem1 | exact mem2 | exact mem3 | exact mem4 | exact mem5 | exact mem6 | exact mem7) (wh1 (by first | exact mem0 | exact mem1 | exact mem2 | exact mem3 | exact mem4 | exact mem5 | exact mem6 | exact mem7) wh0)))) (by repeat (first | exact ns_nil | refine ns_keep rfl ?_ | refine ns_skip ?_))⟩
              ·
                rw [le_leb32 (lm (le xs))] at hc5
                have hs9 := (cnt_step hp3).2 hc5
                refine Sat.skip ?_
                refine bl_n ?_
                refine at_n ?_
                first
                  | exact ⟨p.2 + 1, ⟨by omega, hs9⟩, weak_of (wk1 rfl (wk1 rfl (wk1 rfl (wk1 rfl (wk1 rfl (wk1 rfl (wk1 rfl (wk1 rfl (wk1 rfl (wk1 rfl (wk1 rfl (wk1 rfl wk0)))))))))))) (wh1 (by first | exact mem0 | exact mem1 | exact mem2 | exact mem3 | exact mem4 | exact mem5 | exact mem6 | exact mem7) (wh1 (by first | exact mem0 | exact mem1 | exact mem2 | exact mem3 | exact mem4 | exact mem5 | exact mem6 | exact mem7) (wh1 (by first | exact mem0 | exact mem1 | exact mem2 | exact mem3 | exact mem4 | exact mem5 | exact mem6 | exact mem7) (wh1 (by first | exact mem0 | exact mem1 | exact mem2 | exact mem3 | exact mem4 | exact mem5 | exact mem6 | exact mem7) wh0)))) (by repeat (first | exact ns_nil | refine ns_keep rfl ?_ | refine ns_skip ?_))⟩
                  | exact ⟨p.2, ⟨by omega, hs9⟩, weak_of (wk1 rfl (wk1 rfl (wk1 rfl (wk1 rfl (wk1 rfl (wk1 rfl (wk1 rfl (wk1 rfl (wk1 rfl (wk1 rfl (wk1 rfl (wk1 rfl wk0)))))))))))) (wh1 (by first | exact mem0 | exact mem1 | exact mem2 | exact mem3 | exact mem4 | exact mem5 | exact mem6 | exact mem7) (wh1 (by first | exact mem0 | exact mem1 | exact mem2 | exact mem3 | exact mem4 | exact mem5 | exact mem6 | exact mem7) (wh1 (by first | exact mem0 | exact mem1 | exact mem2 | exact mem3 | exact mem4 | exact mem5 | exact mem6 | exact mem7) (wh1 (by first | exact mem0 | exact mem1 | exact mem2 | exact mem3 | exact mem4 | exact mem5 | exact mem6 | exact mem7) wh0)))) (by repeat (first | exact ns_nil | refine ns_keep rfl ?_ | refine ns_skip ?_))⟩
            ·
              intro c9 hj
              obtain ⟨hc9, hi9⟩ := hj
              -- region 18
              refine Sat.region ?_
              refine Tr.move rfl rfl rfl ?_
              refine Tr.add_i64 rfl rfl rfl rfl (by omega) ?_
              refine Tr.assign rfl rfl rfl ?_
              refine Tr.nil ?_
              refine at_n ?_
              exact ⟨(p.1 + 1, c9), ⟨by omega, by omega, hi9⟩, by simp only []; omega, weak_of (wk1 rfl (wk1 rfl (wk1 rfl (wk1 rfl (wk1 rfl (wk1 rfl (wk1 rfl (wk1 rfl (wk1 rfl (wk1 rfl (wk1 rfl (wk1 rfl wk0)))))))))))) (wh1 (by first | exact mem0 | exact mem1 | exact mem2 | exact mem3 | exact mem4 | exact mem5 | exact mem6 | exact mem7) (wh1 (by first | exact mem0 | exact mem1 | exact mem2 | exact mem3 | exact mem4 | exact mem5 | exact mem6 | exact mem7) (wh1 (by first | exact mem0 | exact mem1 | exact mem2 | exact mem3 | exact mem4 | exact mem5 | exact mem6 | exact mem7) (wh1 (by first | exact mem0 | exact mem1 | exact mem2 | exact mem3 | exact mem4 | exact mem5 | exact mem6 | exact mem7) wh0)))) (by repeat (first | exact ns_nil | refine ns_keep rfl ?_ | refine ns_skip ?_))⟩
          ·
            have e256b : p.1 = 256 := by omega
            rw [e256b] at hp3
            refine Sat.exit ?_
            refine at_x ?_
            refine at_x ?_
            refine bl_h ?_
            refine at_n ?_
            refine ⟨p.2, hp3, weak_of (wk1 rfl (wk1 rfl (wk1 rfl (wk1 rfl (wk1 rfl (wk1 rfl (wk1 rfl (wk1 rfl (wk1 rfl (wk1 rfl (wk1 rfl wk0))))))))))) (wh1 (by first | exact mem0 | exact mem1 | exact mem2 | exact mem3 | exact mem4 | exact mem5 | exact mem6 | exact mem7) (wh1 (by first | exact mem0 | exact mem1 | exact mem2 | exact mem3 | exact mem4 | exact mem5 | exact mem6 | exact mem7) (wh1 (by first | exact mem0 | exact mem1 | exact mem2 | exact mem3 | exact mem4 | exact mem5 | exact mem6 | exact mem7) (wh1 (by first | exact mem0 | exact mem1 | exact mem2 | exact mem3 | exact mem4 | exact mem5 | exact mem6 | exact mem7) wh0)))) (by repeat (first | exact ns_nil | refine ns_keep rfl ?_ | refine ns_skip ?_))⟩
      ·
        intro cc hj
        have hcnt := hj
        refine Sat.seq ?_
        -- region 21
        refine Sat.draw [(0, 0), (0, 1), (0, 2), (0, 3), (0, 4), (0, 5), (0, 6), (0, 7), (0, 8), (0, 9), (0, 10), (0, 11), (0, 12), (0, 13), (0, 14), (1, 15), (1, 16), (1, 17), (3, 18), (0, 19), (0, 20), (0, 21), (1, 22), (1, 23), (0, 24), (0, 25), (0, 26), (0, 27), (0, 28), (1, 29), (0, 30), (0, 31), (0, 32), (0, 33), (0, 34)] Mixed (by kernel_rfl) ?_
        refine Tr.move rfl rfl rfl ?_
        refine Tr.eqi rfl rfl rfl rfl (decide_eq_true (rfl)) ?_
        refine Tr.move rfl rfl rfl ?_
        refine Tr.move rfl rfl rfl ?_
        refine Tr.eqi rfl rfl rfl rfl (decide_eq_true (rfl)) ?_
        refine Tr.pick rfl rfl rfl rfl rfl rfl ?_
        refine Tr.move rfl rfl rfl ?_
        refine Tr.move rfl rfl rfl ?_
        refine Tr.eqi rfl rfl rfl rfl (decide_eq_true (rfl)) ?_
        refine Tr.pick rfl rfl rfl rfl rfl rfl ?_
        refine Tr.move rfl rfl rfl ?_
        refine Tr.move rfl rfl rfl ?_
        refine Tr.eqi rfl rfl rfl rfl (decide_eq_true (rfl)) ?_
        refine Tr.pick rfl rfl rfl rfl rfl rfl ?_
        refine Tr.move rfl rfl rfl ?_
        first
          | refine Tr.loadAll rfl rfl rfl Try.underlying47 rfl Sz47 (by first | exact mem0 | exact mem1 | exact mem2 | exact mem3 | exact mem4 | exact mem5 | exact mem6 | exact mem7) (by simp [leb_length, words4_length, List.length_replicate, subB_all, padB_all, hx, h256]) ?_
          | refine Tr.loadN _ rfl rfl rfl Try.underlying47 rfl Sz47 (by first | exact mem0 | exact mem1 | exact mem2 | exact mem3 | exact mem4 | exact mem5 | exact mem6 | exact mem7) (by exact rfl) (by simp [leb_length, words4_length, List.length_replicate, subB_all, padB_all, hx, h256]) ?_
        first
          | refine Tr.loadAll rfl rfl rfl Try.underlying47 rfl Sz47 (by first | exact mem0 | exact mem1 | exact mem2 | exact mem3 | exact mem4 | exact mem5 | exact mem6 | exact mem7) (by simp [leb_length, words4_length, List.length_replicate, subB_all, padB_all, hx, h256]) ?_
          | refine Tr.loadN _ rfl rfl rfl Try.underlying47 rfl Sz47 (by first | exact mem0 | exact mem1 | exact mem2 | exact mem3 | exact mem4 | exact mem5 | exact mem6 | exact mem7) (by exact rfl) (by simp [leb_length, words4_length, List.length_replicate, subB_all, padB_all, hx, h256]) ?_
        first
          | refine Tr.loadAll rfl rfl rfl Try.underlying47 rfl Sz47 (by first | exact mem0 | exact mem1 | exact mem2 | exact mem3 | exact mem4 | exact mem5 | exact mem6 | exact mem7) (by simp [leb_length, words4_length, List.length_replicate, subB_all, padB_all, hx, h256]) ?_
          | refine Tr.loadN _ rfl rfl rfl Try.underlying47 rfl Sz47 (by first | exact mem0 | exact mem1 | exact mem2 | exact mem3 | exact mem4 | exact mem5 | exact mem6 | exact mem7) (by exact rfl) (by simp [leb_length, words4_length, List.length_replicate, subB_all, padB_all, hx, h256]) ?_
        refine Tr.callV rfl rfl rfl rfl Body28 (scalar_add _ _ (by simp [leb_length, words4_length, List.length_replicate, subB_all, padB_all, hx, h256]) (by simp [leb_length, words4_length, List.length_replicate, subB_all, padB_all, hx, h256])) (fun _ _ => trivial) ?_
        refine Tr.eql_bytes rfl rfl rfl rfl Try.eqGuardType47 Try.underlying47 Try.underlying5 Sz5 (by simp [leb_length, words4_length, List.length_replicate, subB_all, padB_all, hx, h256]) (by simp [leb_length, words4_length, List.length_replicate, subB_all, padB_all, hx, h256]) (decide_eq_true (by rw [le_leb32 (lm _), le_leb32 (lm _), ← Nat.add_mod, hsum])) ?_
        refine Tr.pick rfl rfl rfl rfl rfl rfl ?_
        refine Tr.move rfl rfl rfl ?_
        first
          | refine Tr.loadAll rfl rfl rfl Try.underlying47 rfl Sz47 (by first | exact mem0 | exact mem1 | exact mem2 | exact mem3 | exact mem4 | exact mem5 | exact mem6 | exact mem7) (by simp [leb_length, words4_length, List.length_replicate, subB_all, padB_all, hx, h256]) ?_
          | refine Tr.loadN _ rfl rfl rfl Try.underlying47 rfl Sz47 (by first | exact mem0 | exact mem1 | exact mem2 | exact mem3 | exact mem4 | exact mem5 | exact mem6 | exact mem7) (by exact rfl) (by simp [leb_length, words4_length, List.length_replicate, subB_all, padB_all, hx, h256]) ?_
        first
          | refine Tr.loadAll rfl rfl rfl Try.underlying47 rfl Sz47 (by first | exact mem0 | exact mem1 | exact mem2 | exact mem3 | exact mem4 | exact mem5 | exact mem6 | exact mem7) (by simp [leb_length, words4_length, List.length_replicate, subB_all, padB_all, hx, h256]) ?_
          | refine Tr.loadN _ rfl rfl rfl Try.underlying47 rfl Sz47 (by first | exact mem0 | exact mem1 | exact mem2 | exact mem3 | exact mem4 | exact mem5 | exact mem6 | exact mem7) (by exact rfl) (by simp [leb_length, words4_length, List.length_replicate, subB_all, padB_all, hx, h256]) ?_
        refine Tr.eql_bytes rfl rfl rfl rfl Try.eqGuardType47 Try.underlying47 Try.underlying5 Sz5 (by simp [leb_length, words4_length, List.length_replicate, subB_all, padB_all, hx, h256]) (by simp [leb_length, words4_length, List.length_replicate, subB_all, padB_all, hx, h256]) (decide_eq_true (rfl)) ?_
        refine Tr.pick rfl rfl rfl rfl rfl rfl ?_
        refine Tr.move rfl rfl rfl ?_
        refine Tr.move rfl rfl rfl ?_
        refine Tr.eqi rfl rfl rfl rfl rfl ?_
        first
          | refine Tr.loadAll rfl rfl rfl Try.underlying47 rfl Sz47 (by first | exact mem0 | exact mem1 | exact mem2 | exact mem3 | exact mem4 | exact mem5 | exact mem6 | exact mem7) (by simp [leb_length, words4_length, List.length_replicate, subB_all, padB_all, hx, h256]) ?_
          | refine Tr.loadN _ rfl rfl rfl Try.underlying47 rfl Sz47 (by first | exact mem0 | exact mem1 | exact mem2 | exact mem3 | exact mem4 | exact mem5 | exact mem6 | exact mem7) (by exact rfl) (by simp [leb_length, words4_length, List.length_replicate, subB_all, padB_all, hx, h256]) ?_
        refine Tr.build (cs := bytesV (List.replicate 32 0)) rfl rfl rfl (fun w => by kernel_rfl) ?_
        refine Tr.eql_bytes rfl rfl rfl rfl Try.eqGuardType47 Try.underlying47 Try.underlying5 Sz5 (by simp [leb_length, words4_length, List.length_replicate, subB_all, padB_all, hx, h256]) (by simp [leb_length, words4_length, List.length_replicate, subB_all, padB_all, hx, h256]) rfl ?_
        refine Tr.eqb (r := true) rfl rfl rfl rfl Try.underlying4 (cnt_zero _ (le xs % L) (lm _) hcnt) ?_
        refine Tr.pick rfl rfl rfl rfl rfl rfl ?_
        refine Tr.assign rfl rfl rfl ?_
        refine Tr.nil ?_
        refine at_n ?_
        refine Sat.ret ?_
        refine en_r ?_
        refine ⟨_, [], res_tmp rfl rfl, (by simp), (by simp), ?_, rfl⟩
        rfl

set_option maxRecDepth 100000 in
set_option maxHeartbeats 4000000 in
theorem law_rests_nil_in (k : Nat) (hk : k ≤ 0) : Meets Try.prog 7 [.slice none 0 0, i64 (k : Int)] [] (fun _ => True) (fun v out => v = .bool true ∧ out = []) := by
  intro W hW
  obtain ⟨s256, c256, h256, e256⟩ := law_small_ex 256
  have l256 : le s256 = 256 := by rw [e256]; decide
  obtain rfl : k = 0 := by omega
  obtain ⟨sz, cz, hz, ez⟩ := scalar_rest_nil_ex
  obtain ⟨pw, hpw⟩ : ∃ pw : Nat → Nat, pw = fun k => 256 ^ k := ⟨_, rfl⟩
  have p0 : pw 0 = 1 := by rw [hpw]
  have ps : ∀ k, pw (k + 1) = pw k * 256 := fun k => by rw [hpw]; exact Nat.pow_succ 256 k
  clear hpw
  refine calls_of (hp0 := []) Try.func7 rfl 113 Try.ntmps7 rfl (HRep.nil _) ?_
  refine Sat.seq ?_
  -- region 0
  refine Sat.region ?_
  refine Tr.assign rfl rfl rfl ?_
  refine Tr.nil ?_
  refine at_n ?_
  refine Sat.seq ?_
  refine Sat.seq ?_
  -- region 1
  refine Sat.region ?_
  refine Tr.callV rfl rfl rfl rfl Body22 (law_lives) (fun _ _ => trivial) ?_
  refine Tr.not rfl rfl rfl ?_
  refine Tr.nil ?_
  refine at_n ?_
  refine Sat.cond_f rfl (rfl) ?_
  refine Sat.skip ?_
  refine at_n ?_
  refine Sat.seq ?_
  refine Sat.seq ?_
  -- region 3
  refine Sat.region ?_
  refine Tr.move rfl rfl rfl ?_
  refine Tr.lenSl rfl rfl rfl Try.underlying27 ?_
  refine Tr.gtr rfl rfl rfl rfl (decide_eq_false (by omega)) ?_
  refine Tr.nil ?_
  refine at_n ?_
  refine Sat.cond_f rfl (rfl) ?_
  refine Sat.skip ?_
  refine at_n ?_
  refine Sat.join (ι := Unit) (fun _u => ⟨[(0, .slice none 0 0), (1, i64 (0 : Int))], []⟩) (fun _u => True) ?_ ?_
  ·
    refine Sat.seq ?_
    -- region 5
    refine Sat.region ?_
    refine Tr.move rfl rfl rfl ?_
    refine Tr.lss rfl rfl rfl rfl (decide_eq_false (by omega)) ?_
    refine Tr.move rfl rfl rfl ?_
    refine Tr.move rfl rfl rfl ?_
    refine Tr.move rfl rfl rfl ?_
    refine Tr.lenSl rfl rfl rfl Try.underlying27 ?_
    refine Tr.gtr rfl rfl rfl rfl (decide_eq_false (by omega)) ?_
    refine Tr.pick rfl rfl rfl rfl rfl rfl ?_
    refine Tr.nil ?_
    refine at_n ?_
    refine Sat.cond_f rfl (rfl) ?_
    refine Sat.skip ?_
    refine at_n ?_
    refine ⟨(), trivial, weak_of (wk1 rfl (wk1 rfl wk0)) wh0 (by repeat (first | exact ns_nil | refine ns_keep rfl ?_ | refine ns_skip ?_))⟩
  ·
    intro _u hj
    skip
    refine Sat.seq ?_
    -- region 7
    refine Sat.region ?_
    refine Tr.move rfl rfl rfl ?_
    refine Tr.callV rfl rfl rfl rfl Body21 (cz) (fun _ _ => trivial) ?_
    refine Tr.move rfl rfl rfl ?_
    refine Tr.extract rfl rfl rfl rfl ?_
    refine Tr.extract rfl rfl rfl rfl ?_
    refine Tr.alloc (cs := (bytesV (List.replicate 32 0))) rfl Zr47 rfl ?_
    intro n5 hn5 hf5
    first
      | refine Tr.storeAll rfl rfl rfl rfl (by simp [isCell]) Sz47 (by simp [leb_length, words4_length, List.length_replicate, subB_all, padB_all, hz, h256]) (by first | exact mem0 | exact mem1 | exact mem2 | exact mem3 | exact mem4 | exact mem5 | exact mem6 | exact mem7) (by simp [leb_length, words4_length, List.length_replicate, subB_all, padB_all, hz, h256]) (by first | exact upd0 | exact upd1 | exact upd2 | exact upd3 | exact upd4 | exact upd5 | exact upd6 | exact upd7) ?_
      | refine Tr.storeN _ rfl rfl rfl rfl rfl (by simp [isCell]) Sz47 (by simp [leb_length, words4_length, List.length_replicate, subB_all, padB_all, hz, h256]) (by first | exact mem0 | exact mem1 | exact mem2 | exact mem3 | exact mem4 | exact mem5 | exact mem6 | exact mem7) (by simp [leb_length, words4_length, List.length_replicate, subB_all, padB_all, hz, h256]) (by exact rfl) (by first | exact upd0 | exact upd1 | exact upd2 | exact upd3 | exact upd4 | exact upd5 | exact upd6 | exact upd7) ?_
    refine Tr.assign rfl rfl rfl ?_
    refine Tr.nil ?_
    refine at_n ?_
    refine Sat.seq ?_
    -- region 8
    refine Sat.region ?_
    refine Tr.move rfl rfl rfl ?_
    refine Tr.move rfl rfl rfl ?_
    refine Tr.sliceHiNil rfl rfl rfl rfl Try.underlying27 Sz5 ?_
    refine Tr.callV rfl rfl rfl rfl Body21 (cz) (fun _ _ => trivial) ?_
    refine Tr.move rfl rfl rfl ?_
    refine Tr.extract rfl rfl rfl rfl ?_
    refine Tr.extract rfl rfl rfl rfl ?_
    refine Tr.alloc (cs := (bytesV (List.replicate 32 0))) rfl Zr47 rfl ?_
    intro n7 hn7 hf7
    first
      | refine Tr.storeAll rfl rfl rfl rfl (by simp [isCell]) Sz47 (by simp [leb_length, words4_length, List.length_replicate, subB_all, padB_all, hz, h256]) (by first | exact mem0 | exact mem1 | exact mem2 | exact mem3 | exact mem4 | exact mem5 | exact mem6 | exact mem7) (by simp [leb_length, words4_length, List.length_replicate, subB_all, padB_all, hz, h256]) (by first | exact upd0 | exact upd1 | exact upd2 | exact upd3 | exact upd4 | exact upd5 | exact upd6 | exact upd7) ?_
      | refine Tr.storeN _ rfl rfl rfl rfl rfl (by simp [isCell]) Sz47 (by simp [leb_length, words4_length, List.length_replicate, subB_all, padB_all, hz, h256]) (by first | exact mem0 | exact mem1 | exact mem2 | exact mem3 | exact mem4 | exact mem5 | exact mem6 | exact mem7) (by simp [leb_length, words4_length, List.length_replicate, subB_all, padB_all, hz, h256]) (by exact rfl) (by first | exact upd0 | exact upd1 | exact upd2 | exact upd3 | exact upd4 | exact upd5 | exact upd6 | exact upd7) ?_
    refine Tr.assign rfl rfl rfl ?_
    refine Tr.nil ?_
    refine at_n ?_
    refine Sat.seq ?_
    -- region 9
    refine Sat.region ?_
    refine Tr.move rfl rfl rfl ?_
    refine Tr.move rfl rfl rfl ?_
    refine Tr.sliceLoNil rfl rfl rfl rfl Try.underlying27 Sz5 ?_
    refine Tr.callV rfl rfl rfl rfl Body21 (cz) (fun _ _ => trivial) ?_
    refine Tr.move rfl rfl rfl ?_
    refine Tr.extract rfl rfl rfl rfl ?_
    refine Tr.extract rfl rfl rfl rfl ?_
    refine Tr.alloc (cs := (bytesV (List.replicate 32 0))) rfl Zr47 rfl ?_
    intro n9 hn9 hf9
    first
      | refine Tr.storeAll rfl rfl rfl rfl (by simp [isCell]) Sz47 (by simp [leb_length, words4_length, List.length_replicate, subB_all, padB_all, hz, h256]) (by first | exact mem0 | exact mem1 | exact mem2 | exact mem3 | exact mem4 | exact mem5 | exact mem6 | exact mem7) (by simp [leb_length, words4_length, List.length_replicate, subB_all, padB_all, hz, h256]) (by first | exact upd0 | exact upd1 | exact upd2 | exact upd3 | exact upd4 | exact upd5 | exact upd6 | exact upd7) ?_
      | refine Tr.storeN _ rfl rfl rfl rfl rfl (by simp [isCell]) Sz47 (by simp [leb_length, words4_length, List.length_replicate, subB_all, padB_all, hz, h256]) (by first | exact mem0 | exact mem1 | exact mem2 | exact mem3 | exact mem4 | exact mem5 | exact mem6 | exact mem7) (by simp [leb_length, words4_length, List.length_replicate, subB_all, padB_all, hz, h256]) (by exact rfl) (by first | exact upd0 | exact upd1 | exact upd2 | exact upd3 | exact upd4 | exact upd5 | exact upd6 | exact upd7) ?_
    refine Tr.assign rfl rfl rfl ?_
    refine Tr.nil ?_
    refine at_n ?_
    refine Sat.join (ι := Unit) (fun _u => ⟨[(0, .slice none 0 0), (1, i64 (0 : Int)), (5, ptr n5 0), (6, i64 0), (7, ptr n7 0), (8, i64 0), (9, ptr n9 0), (10, i64 0)], [⟨n9, bytesV (leb 32 (pw (0) * 0 % L)), 47, 32⟩, ⟨n7, bytesV sz, 47, 32⟩, ⟨n5, bytesV sz, 47, 32⟩]⟩) (fun _u => True) ?_ ?_
    ·
      refine Sat.seq ?_
      -- region 10
      refine Sat.region ?_
      refine Tr.assign rfl rfl rfl ?_
      refine Tr.nil ?_
      refine at_n ?_
      refine Sat.block ?_
      refine Sat.loop (ι := Nat) (fun i => ⟨[(0, .slice none 0 0), (1, i64 (0 : Int)), (5, ptr n5 0), (6, i64 0), (7, ptr n7 0), (8, i64 0), (9, ptr n9 0), (10, i64 0), (11, i64 (i : Int))], [⟨n9, bytesV (leb 32 (pw (i) * 0 % L)), 47, 32⟩, ⟨n7, bytesV sz, 47, 32⟩, ⟨n5, bytesV sz, 47, 32⟩]⟩) (fun i => i ≤ 0) (fun i => 0 - i) (0) ?_ ?_ ?_
      · omega
      · exact weak_of (wk1 rfl (wk1 rfl (wk1 rfl (wk1 rfl (wk1 rfl (wk1 rfl (wk1 rfl (wk1 rfl (wk1 rfl wk0))))))))) (wh1 (by rw [Nat.mul_zero, zero_modL, ← ez]; exact mem0) (wh1 (by first | exact mem0 | exact mem1 | exact mem2 | exact mem3 | exact mem4 | exact mem5 | exact mem6 | exact mem7) (wh1 (by first | exact mem0 | exact mem1 | exact mem2 | exact mem3 | exact mem4 | exact mem5 | exact mem6 | exact mem7) wh0))) (by repeat (first | exact ns_nil | refine ns_keep rfl ?_ | refine ns_skip ?_))
      ·
        rintro i hi
        refine Sat.seq ?_
        refine Sat.seq ?_
        -- region 11
        refine Sat.region ?_
        refine Tr.move rfl rfl rfl ?_
        refine Tr.move rfl rfl rfl ?_
        refine Tr.lss rfl rfl rfl rfl (decide_eq_false (by omega)) ?_
        refine Tr.nil ?_
        refine at_n ?_
        refine Sat.cond_f rfl (rfl) ?_
        refine Sat.exit ?_
        refine at_x ?_
        refine at_x ?_
        refine bl_h ?_
        refine at_n ?_
        refine ⟨(), trivial, weak_of (wk1 rfl (wk1 rfl (wk1 rfl (wk1 rfl (wk1 rfl (wk1 rfl (wk1 rfl (wk1 rfl wk0)))))))) (wh1 (by first | exact mem0 | exact mem1 | exact mem2 | exact mem3 | exact mem4 | exact mem5 | exact mem6 | exact mem7) (wh1 (by first | exact mem0 | exact mem1 | exact mem2 | exact mem3 | exact mem4 | exact mem5 | exact mem6 | exact mem7) (wh1 (by first | exact mem0 | exact mem1 | exact mem2 | exact mem3 | exact mem4 | exact mem5 | exact mem6 | exact mem7) wh0))) (by repeat (first | exact ns_nil | refine ns_keep rfl ?_ | refine ns_skip ?_))⟩
    ·
      intro _u hj
      skip
      refine Sat.seq ?_
      -- region 14
      refine Sat.region ?_
      refine Tr.emptySlice rfl rfl Try.underlying27 Sz5 ?_
      intro q0
      refine Tr.move rfl rfl rfl ?_
      refine Tr.appendNil (z := u8 0) (by' := 1) rfl rfl rfl rfl rfl Try.underlying27 Try.underlying27 Sz5 Zr5 (by unfold By; kernel_rfl) rfl rem_here rfl rfl (by omega) (by omega) (by omega) ?_
      intro q1 c1 hq1
      refine Tr.move rfl rfl rfl ?_
      refine Tr.lenSl rfl rfl rfl Try.underlying27 ?_
      refine Tr.sub_i64 rfl rfl rfl rfl (by omega) ?_
      refine Tr.appendMade (z := u8 0) (by' := 1) (m := 64) rfl rfl rfl rfl rfl (by omega) Try.underlying27 Try.underlying3 Sz5 Zr5 (by unfold By; kernel_rfl) rfl rfl rem_here (by omega) (by simp [bytesV]) (by omega) (by omega) (by omega) ?_
      intro q2 c2 hq2
      refine Tr.callV rfl rfl rfl rfl Body21 (scalar_rest q2 0 c2 (0 + 64) (List.replicate 64 0) (by simp) (by omega)) (fun W2 h => by have h9 := sees_own h mem0; rwa [List.nil_append, show List.replicate 64 (u8 0) = bytesV (List.replicate 64 0) by simp [bytesV]] at h9) ?_
      refine Tr.move rfl rfl rfl ?_
      refine Tr.extract rfl rfl rfl rfl ?_
      refine Tr.extract rfl rfl rfl rfl ?_
      refine Tr.alloc (cs := (bytesV (List.replicate 32 0))) rfl Zr47 rfl ?_
      intro n12 hn12 hf12
      first
        | refine Tr.storeAll rfl rfl rfl rfl (by simp [isCell]) Sz47 (by simp [leb_length, words4_length, List.length_replicate, subB_all, padB_all, hz, h256]) (by first | exact mem0 | exact mem1 | exact mem2 | exact mem3 | exact mem4 | exact mem5 | exact mem6 | exact mem7) (by simp [leb_length, words4_length, List.length_replicate, subB_all, padB_all, hz, h256]) (by first | exact upd0 | exact upd1 | exact upd2 | exact upd3 | exact upd4 | exact upd5 | exact upd6 | exact upd7) ?_
        | refine Tr.storeN _ rfl rfl rfl rfl rfl (by simp [isCell]) Sz47 (by simp [leb_length, words4_length, List.length_replicate, subB_all, padB_all, hz, h256]) (by first | exact mem0 | exact mem1 | exact mem2 | exact mem3 | exact mem4 | exact mem5 | exact mem6 | exact mem7) (by simp [leb_length, words4_length, List.length_replicate, subB_all, padB_all, hz, h256]) (by exact rfl) (by first | exact upd0 | exact upd1 | exact upd2 | exact upd3 | exact upd4 | exact upd5 | exact upd6 | exact upd7) ?_
      refine Tr.assign rfl rfl rfl ?_
      refine Tr.nil ?_
      refine at_n ?_
      refine Sat.seq ?_
      -- region 15
      refine Sat.region ?_
      refine Tr.assign rfl rfl rfl ?_
      refine Tr.nil ?_
      refine at_n ?_
      refine Sat.join (ι := Nat) (fun cc => ⟨[(0, .slice none 0 0), (1, i64 (0 : Int)), (5, ptr n5 0), (6, i64 0), (7, ptr n7 0), (8, i64 0), (9, ptr n9 0), (10, i64 0), (12, ptr n12 0), (13, i64 0), (14, i64 (cc : Int))], [⟨n12, bytesV (leb 32 (0 % L)), 47, 32⟩, ⟨n9, bytesV (leb 32 (pw (0) * 0 % L)), 47, 32⟩, ⟨n7, bytesV sz, 47, 32⟩, ⟨n5, bytesV sz, 47, 32⟩]⟩) (fun cc => (cc = 0 ↔ ∀ j, j < 256 → (le sz).testBit j = false)) ?_ ?_
      ·
        refine Sat.seq ?_
        -- region 16
        refine Sat.region ?_
        refine Tr.assign rfl rfl rfl ?_
        refine Tr.nil ?_
        refine at_n ?_
        refine Sat.block ?_
        refine Sat.loop (ι := Nat × Nat) (fun p => ⟨[(0, .slice none 0 0), (1, i64 (0 : Int)), (5, ptr n5 0), (6, i64 0), (7, ptr n7 0), (8, i64 0), (9, ptr n9 0), (10, i64 0), (12, ptr n12 0), (13, i64 0), (14, i64 (p.2 : Int)), (15, i64 (p.1 : Int))], [⟨n12, bytesV (leb 32 (0 % L)), 47, 32⟩, ⟨n9, bytesV (leb 32 (pw (0) * 0 % L)), 47, 32⟩, ⟨n7, bytesV sz, 47, 32⟩, ⟨n5, bytesV sz, 47, 32⟩]⟩) (fun p => p.1 ≤ 256 ∧ p.2 ≤ p.1 ∧ (p.2 = 0 ↔ ∀ j, j < p.1 → (le sz).testBit j = false)) (fun p => 256 - p.1) ((0, 0)) ?_ ?_ ?_
        · exact ⟨by omega, by omega, by simp⟩
        · exact weak_of (wk1 rfl (wk1 rfl (wk1 rfl (wk1 rfl (wk1 rfl (wk1 rfl (wk1 rfl (wk1 rfl (wk1 rfl (wk1 rfl (wk1 rfl (wk1 rfl wk0)))))))))))) (wh1 (by rw [← le_zeros 64]; exact mem0) (wh1 (by first | exact mem0 | exact mem1 | exact mem2 | exact mem3 | exact mem4 | exact mem5 | exact mem6 | exact mem7) (wh1 (by first | exact mem0 | exact mem1 | exact mem2 | exact mem3 | exact mem4 | exact mem5 | exact mem6 | exact mem7) (wh1 (by first | exact mem0 | exact mem1 | exact mem2 | exact mem3 | exact mem4 | exact mem5 | exact mem6 | exact mem7) wh0)))) (by repeat (first | exact ns_nil | refine ns_keep rfl ?_ | refine ns_skip ?_))
        ·
          rintro p ⟨hp1, hp2, hp3⟩
          refine Sat.seq ?_
          refine Sat.seq ?_
          -- region 17
          refine Sat.region ?_
          refine Tr.move rfl rfl rfl ?_
          refine Tr.lss rfl rfl rfl rfl rfl ?_
          refine Tr.nil ?_
          refine at_n ?_
          first
            | refine Sat.condP rfl (fun hc4 => ?_) (fun hc4 => ?_)
            | refine Sat.condNP rfl (fun hc4 => ?_) (fun hc4 => ?_)
            | refine Sat.cond rfl (fun hc4 => ?_) (fun hc4 => ?_)
          ·
            have hk2 : p.1 < 256 := by omega
            refine Sat.skip ?_
            refine at_n ?_
            refine Sat.join (ι := Nat) (fun c9 => ⟨[(0, .slice none 0 0), (1, i64 (0 : Int)), (5, ptr n5 0), (6, i64 0), (7, ptr n7 0), (8, i64 0), (9, ptr n9 0), (10, i64 0), (12, ptr n12 0), (13, i64 0), (14, i64 (c9 : Int)), (15, i64 (p.1 : Int))], [⟨n12, bytesV (leb 32 (0 % L)), 47, 32⟩, ⟨n9, bytesV (leb 32 (pw (0) * 0 % L)), 47, 32⟩, ⟨n7, bytesV sz, 47, 32⟩, ⟨n5, bytesV sz, 47, 32⟩]⟩) (fun c9 => c9 ≤ p.1 + 1 ∧ (c9 = 0 ↔ ∀ j, j < p.1 + 1 → (le sz).testBit j = false)) ?_ ?_
            ·
              refine Sat.block ?_
              refine Sat.seq ?_
              -- region 19
              refine Sat.region ?_
              first
                | refine Tr.loadAll rfl rfl rfl Try.underlying47 rfl Sz47 (by first | exact mem0 | exact mem1 | exact mem2 | exact mem3 | exact mem4 | exact mem5 | exact mem6 | exact mem7) (by simp [leb_length, words4_length, List.length_replicate, subB_all, padB_all, hz, h256]) ?_
                | refine Tr.loadN _ rfl rfl rfl Try.underlying47 rfl Sz47 (by first | exact mem0 | exact mem1 | exact mem2 | exact mem3 | exact mem4 | exact mem5 | exact mem6 | exact mem7) (by exact rfl) (by simp [leb_length, words4_length, List.length_replicate, subB_all, padB_all, hz, h256]) ?_
              refine Tr.move rfl rfl rfl ?_
              refine Tr.callV rfl rfl rfl rfl Body26 (scalar_bit_at sz (by simp [leb_length, words4_length, List.length_replicate, subB_all, padB_all, hz, h256]) p.1 hk2) (fun _ _ => trivial) ?_
              refine Tr.nil ?_
              refine at_n ?_
              refine Sat.cond rfl (fun hc5 => ?_) (fun hc5 => ?_)
              ·
                have hs9 := (cnt_step hp3).1 hc5
                -- region 20
                refine Sat.region ?_
                refine Tr.move rfl rfl rfl ?_
                refine Tr.add_i64 rfl rfl rfl rfl (by omega) ?_
                refine Tr.assign rfl rfl rfl ?_
                refine Tr.nil ?_
                refine bl_n ?_
                refine at_n ?_
                first
                  | exact ⟨p.2 + 1, ⟨by omega, hs9⟩, weak_of (wk1 rfl (wk1 rfl (wk1 rfl (wk1 rfl (wk1 rfl (wk1 rfl (wk1 rfl (wk1 rfl (wk1 rfl (wk1 rfl (wk1 rfl (wk1 rfl wk0)))))))))))) (wh1 (by first | exact mem0 | exact mem1 | exact mem2 | exact mem3 | exact mem4 | exact mem5 | exact mem6 | exact mem7) (wh1 (by first | exact mem0 | exact mem1 | exact mem2 | exact mem3 | exact mem4 | exact mem5 | exact mem6 | exact mem7) (wh1 (by first | exact mem0 | exact mem1 | exact mem2 | exact mem3 | exact mem4 | exact mem5 | exact mem6 | exact mem7) (wh1 (by first | exact mem0 | exact mem1 | exact mem2 | exact mem3 | exact mem4 | exact mem5 | exact mem6 | exact mem7) wh0)))) (by repeat (first | exact ns_nil | refine ns_keep rfl ?_ | refine ns_skip ?_))⟩
                  | exact ⟨p.2, ⟨by omega, hs9⟩, weak_of (wk1 rfl (wk1 rfl (wk1 rfl (wk1 rfl (wk1 rfl (wk1 rfl (wk1 rfl (wk1 rfl (wk1 rfl (wk1 rfl (wk1 rfl (wk1 rfl wk0)))))))))))) (wh1 (by first | exact mem0 | exact mem1 | exact mem2 | exact mem3 | exact mem4 | exact mem5 | exact mem6 | exact mem7) (wh1 (by first | exact mem0 | exact mem1 | exact mem2 | exact mem3 | exact mem4 | exact mem5 | exact mem6 | exact mem7) (wh1 (by first | exact mem0 | exact mem1 | exact mem2 | exact mem3 | exact mem4 | exact mem5 | exact mem6 | exact mem7) (wh1 (by first | exact mem0 | exact mem1 | exact mem2 | exact mem3 | exact mem4 | exact mem5 | exact mem6 | exact mem7) wh0)))) (by repeat (first | exact ns_nil | refine ns_keep rfl ?_ | refine ns_skip ?_))⟩
              ·
                have hs9 := (cnt_step hp3).2 hc5
                refine Sat.skip ?_
                refine bl_n ?_
                refine at_n ?_
                first
                  | exact ⟨p.2 + 1, ⟨by omega, hs9⟩, weak_of (wk1 rfl (wk1 rfl (wk1 rfl (wk1 rfl (wk1 rfl (wk1 rfl (wk1 rfl (wk1 rfl (wk1 rfl (wk1 rfl (wk1 rfl (wk1 rfl wk0)))))))))))) (wh1 (by first | exact mem0 | exact mem1 | exact mem2 | exact mem3 | exact mem4 | exact mem5 | exact mem6 | exact mem7) (wh1 (by first | exact mem0 | exact mem1 | exact mem2 | exact mem3 | exact mem4 | exact mem5 | exact mem6 | exact mem7) (wh1 (by first | exact mem0 | exact mem1 | exact mem2 | exact mem3 | exact mem4 | exact mem5 | exact mem6 | exact mem7) (wh1 (by first | exact mem0 | exact mem1 | exact mem2 | exact mem3 | exact mem4 | exact mem5 | exact mem6 | exact mem7) wh0)))) (by repeat (first | exact ns_nil | refine ns_keep rfl ?_ | refine ns_skip ?_))⟩
                  | exact ⟨p.2, ⟨by omega, hs9⟩, weak_of (wk1 rfl (wk1 rfl (wk1 rfl (wk1 rfl (wk1 rfl (wk1 rfl (wk1 rfl (wk1 rfl (wk1 rfl (wk1 rfl (wk1 rfl (wk1 rfl wk0)))))))))))) (wh1 (by first | exact mem0 | exact mem1 | exact mem2 | exact mem3 | exact mem4 | exact mem5 | exact mem6 | exact mem7) (wh1 (by first | exact mem0 | exact mem1 | exact mem2 | exact mem3 | exact mem4 | exact mem5 | exact mem6 | exact mem7) (wh1 (by first | exact mem0 | exact mem1 | exact mem2 | exact mem3 | exact mem4 | exact mem5 | exact mem6 | exact mem7) (wh1 (by first | exact mem0 | exact mem1 | exact mem2 | exact mem3 | exact mem4 | exact mem5 | exact mem6 | exact mem7) wh0)))) (by repeat (first | exact ns_nil | refine ns_keep rfl ?_ | refine ns_skip ?_))⟩
            ·
              intro c9 hj
              obtain ⟨hc9, hi9⟩ := hj
              -- region 18
              refine Sat.region ?_
              refine Tr.move rfl rfl rfl ?_
              refine Tr.add_i64 rfl rfl rfl rfl (by omega) ?_
              refine Tr.assign rfl rfl rfl ?_
              refine Tr.nil ?_
              refine at_n ?_
              exact ⟨(p.1 + 1, c9), ⟨by omega, by omega, hi9⟩, by simp only []; omega, weak_of (wk1 rfl (wk1 rfl (wk1 rfl (wk1 rfl (wk1 rfl (wk1 rfl (wk1 rfl (wk1 rfl (wk1 rfl (wk1 rfl (wk1 rfl (wk1 rfl wk0)))))))))))) (wh1 (by first | exact mem0 | exact mem1 | exact mem2 | exact mem3 | exact mem4 | exact mem5 | exact mem6 | exact mem7) (wh1 (by first | exact mem0 | exact mem1 | exact mem2 | exact mem3 | exact mem4 | exact mem5 | exact mem6 | exact mem7) (wh1 (by first | exact mem0 | exact mem1 | exact mem2 | exact mem3 | exact mem4 | exact mem5 | exact mem6 | exact mem7) (wh1 (by first | exact mem0 | exact mem1 | exact mem2 | exact mem3 | exact mem4 | exact mem5 | exact mem6 | exact mem7) wh0)))) (by repeat (first | exact ns_nil | refine ns_keep rfl ?_ | refine ns_skip ?_))⟩
          ·
            have e256b : p.1 = 256 := by omega
            rw [e256b] at hp3
            refine Sat.exit ?_
            refine at_x ?_
            refine at_x ?_
            refine bl_h ?_
            refine at_n ?_
            refine ⟨p.2, hp3, weak_of (wk1 rfl (wk1 rfl (wk1 rfl (wk1 rfl (wk1 rfl (wk1 rfl (wk1 rfl (wk1 rfl (wk1 rfl (wk1 rfl (wk1 rfl wk0))))))))))) (wh1 (by first | exact mem0 | exact mem1 | exact mem2 | exact mem3 | exact mem4 | exact mem5 | exact mem6 | exact mem7) (wh1 (by first | exact mem0 | exact mem1 | exact mem2 | exact mem3 | exact mem4 | exact mem5 | exact mem6 | exact mem7) (wh1 (by first | exact mem0 | exact mem1 | exact mem2 | exact mem3 | exact mem4 | exact mem5 | exact mem6 | exact mem7) (wh1 (by first | exact mem0 | exact mem1 | exact mem2 | exact mem3 | exact mem4 | exact mem5 | exact mem6 | exact mem7) wh0)))) (by repeat (first | exact ns_nil | refine ns_keep rfl ?_ | refine ns_skip ?_))⟩
      ·
        intro cc hj
        have hcnt := hj
        refine Sat.seq ?_
        -- region 21
        refine Sat.draw [(0, 0), (0, 1), (0, 2), (0, 3), (0, 4), (0, 5), (0, 6), (0, 7), (0, 8), (0, 9), (0, 10), (0, 11), (0, 12), (0, 13), (0, 14), (1, 15), (1, 16), (1, 17), (3, 18), (0, 19), (0, 20), (0, 21), (1, 22), (1, 23), (0, 24), (0, 25), (0, 26), (0, 27), (0, 28), (1, 29), (0, 30), (0, 31), (0, 32), (0, 33), (0, 34)] Mixed (by kernel_rfl) ?_
        refine Tr.move rfl rfl rfl ?_
        refine Tr.eqi rfl rfl rfl rfl (decide_eq_true (rfl)) ?_
        refine Tr.move rfl rfl rfl ?_
        refine Tr.move rfl rfl rfl ?_
        refine Tr.eqi rfl rfl rfl rfl (decide_eq_true (rfl)) ?_
        refine Tr.pick rfl rfl rfl rfl rfl rfl ?_
        refine Tr.move rfl rfl rfl ?_
        refine Tr.move rfl rfl rfl ?_
        refine Tr.eqi rfl rfl rfl rfl (decide_eq_true (rfl)) ?_
        refine Tr.pick rfl rfl rfl rfl rfl rfl ?_
        refine Tr.move rfl rfl rfl ?_
        refine Tr.move rfl rfl rfl ?_
        refine Tr.eqi rfl rfl rfl rfl (decide_eq_true (rfl)) ?_
        refine Tr.pick rfl rfl rfl rfl rfl rfl ?_
        refine Tr.move rfl rfl rfl ?_
        first
          | refine Tr.loadAll rfl rfl rfl Try.underlying47 rfl Sz47 (by first | exact mem0 | exact mem1 | exact mem2 | exact mem3 | exact mem4 | exact mem5 | exact mem6 | exact mem7) (by simp [leb_length, words4_length, List.length_replicate, subB_all, padB_all, hz, h256]) ?_
          | refine Tr.loadN _ rfl rfl rfl Try.underlying47 rfl Sz47 (by first | exact mem0 | exact mem1 | exact mem2 | exact mem3 | exact mem4 | exact mem5 | exact mem6 | exact mem7) (by exact rfl) (by simp [leb_length, words4_length, List.length_replicate, subB_all, padB_all, hz, h256]) ?_
        first
          | refine Tr.loadAll rfl rfl rfl Try.underlying47 rfl Sz47 (by first | exact mem0 | exact mem1 | exact mem2 | exact mem3 | exact mem4 | exact mem5 | exact mem6 | exact mem7) (by simp [leb_length, words4_length, List.length_replicate, subB_all, padB_all, hz, h256]) ?_
          | refine Tr.loadN _ rfl rfl rfl Try.underlying47 rfl Sz47 (by first | exact mem0 | exact mem1 | exact mem2 | exact mem3 | exact mem4 | exact mem5 | exact mem6 | exact mem7) (by exact rfl) (by simp [leb_length, words4_length, List.length_replicate, subB_all, padB_all, hz, h256]) ?_
        first
          | refine Tr.loadAll rfl rfl rfl Try.underlying47 rfl Sz47 (by first | exact mem0 | exact mem1 | exact mem2 | exact mem3 | exact mem4 | exact mem5 | exact mem6 | exact mem7) (by simp [leb_length, words4_length, List.length_replicate, subB_all, padB_all, hz, h256]) ?_
          | refine Tr.loadN _ rfl rfl rfl Try.underlying47 rfl Sz47 (by first | exact mem0 | exact mem1 | exact mem2 | exact mem3 | exact mem4 | exact mem5 | exact mem6 | exact mem7) (by exact rfl) (by simp [leb_length, words4_length, List.length_replicate, subB_all, padB_all, hz, h256]) ?_
        refine Tr.callV rfl rfl rfl rfl Body28 (scalar_add _ _ (by simp [leb_length, words4_length, List.length_replicate, subB_all, padB_all, hz, h256]) (by simp [leb_length, words4_length, List.length_replicate, subB_all, padB_all, hz, h256])) (fun _ _ => trivial) ?_
        refine Tr.eql_bytes rfl rfl rfl rfl Try.eqGuardType47 Try.underlying47 Try.underlying5 Sz5 (by simp [leb_length, words4_length, List.length_replicate, subB_all, padB_all, hz, h256]) (by simp [leb_length, words4_length, List.length_replicate, subB_all, padB_all, hz, h256]) (decide_eq_true (by rw [Nat.mul_zero, zero_modL, ← ez]; rw [ez, le_leb32 (by decide)]; decide)) ?_
        refine Tr.pick rfl rfl rfl rfl rfl rfl ?_
        refine Tr.move rfl rfl rfl ?_
        first
          | refine Tr.loadAll rfl rfl rfl Try.underlying47 rfl Sz47 (by first | exact mem0 | exact mem1 | exact mem2 | exact mem3 | exact mem4 | exact mem5 | exact mem6 | exact mem7) (by simp [leb_length, words4_length, List.length_replicate, subB_all, padB_all, hz, h256]) ?_
          | refine Tr.loadN _ rfl rfl rfl Try.underlying47 rfl Sz47 (by first | exact mem0 | exact mem1 | exact mem2 | exact mem3 | exact mem4 | exact mem5 | exact mem6 | exact mem7) (by exact rfl) (by simp [leb_length, words4_length, List.length_replicate, subB_all, padB_all, hz, h256]) ?_
        first
          | refine Tr.loadAll rfl rfl rfl Try.underlying47 rfl Sz47 (by first | exact mem0 | exact mem1 | exact mem2 | exact mem3 | exact mem4 | exact mem5 | exact mem6 | exact mem7) (by simp [leb_length, words4_length, List.length_replicate, subB_all, padB_all, hz, h256]) ?_
          | refine Tr.loadN _ rfl rfl rfl Try.underlying47 rfl Sz47 (by first | exact mem0 | exact mem1 | exact mem2 | exact mem3 | exact mem4 | exact mem5 | exact mem6 | exact mem7) (by exact rfl) (by simp [leb_length, words4_length, List.length_replicate, subB_all, padB_all, hz, h256]) ?_
        refine Tr.eql_bytes rfl rfl rfl rfl Try.eqGuardType47 Try.underlying47 Try.underlying5 Sz5 (by simp [leb_length, words4_length, List.length_replicate, subB_all, padB_all, hz, h256]) (by simp [leb_length, words4_length, List.length_replicate, subB_all, padB_all, hz, h256]) (decide_eq_true (by (try rw [zero_modL]); (try rw [ez]))) ?_
        refine Tr.pick rfl rfl rfl rfl rfl rfl ?_
        refine Tr.move rfl rfl rfl ?_
        refine Tr.move rfl rfl rfl ?_
        refine Tr.eqi rfl rfl rfl rfl rfl ?_
        first
          | refine Tr.loadAll rfl rfl rfl Try.underlying47 rfl Sz47 (by first | exact mem0 | exact mem1 | exact mem2 | exact mem3 | exact mem4 | exact mem5 | exact mem6 | exact mem7) (by simp [leb_length, words4_length, List.length_replicate, subB_all, padB_all, hz, h256]) ?_
          | refine Tr.loadN _ rfl rfl rfl Try.underlying47 rfl Sz47 (by first | exact mem0 | exact mem1 | exact mem2 | exact mem3 | exact mem4 | exact mem5 | exact mem6 | exact mem7) (by exact rfl) (by simp [leb_length, words4_length, List.length_replicate, subB_all, padB_all, hz, h256]) ?_
        refine Tr.build (cs := bytesV (List.replicate 32 0)) rfl rfl rfl (fun w => by kernel_rfl) ?_
        refine Tr.eql_bytes rfl rfl rfl rfl Try.eqGuardType47 Try.underlying47 Try.underlying5 Sz5 (by simp [leb_length, words4_length, List.length_replicate, subB_all, padB_all, hz, h256]) (by simp [leb_length, words4_length, List.length_replicate, subB_all, padB_all, hz, h256]) rfl ?_
        refine Tr.eqb (r := true) rfl rfl rfl rfl Try.underlying4 (by rw [ez]; rw [ez] at hcnt; exact cnt_zero cc 0 (by decide) (by rw [le_leb32 (by decide)] at hcnt; exact hcnt)) ?_
        refine Tr.pick rfl rfl rfl rfl rfl rfl ?_
        refine Tr.assign rfl rfl rfl ?_
        refine Tr.nil ?_
        refine at_n ?_
        refine Sat.ret ?_
        refine en_r ?_
        refine ⟨_, [], res_tmp rfl rfl, (by simp), (by simp), ?_, rfl⟩
        rfl

set_option maxRecDepth 100000 in
set_option maxHeartbeats 4000000 in
theorem law_rests_nil_neg (t : Int) (ht : t < 0) : Meets Try.prog 7 [.slice none 0 0, i64 t] [] (fun _ => True) (fun v out => v = .bool true ∧ out = []) := by
  intro W hW
  obtain ⟨s256, c256, h256, e256⟩ := law_small_ex 256
  have l256 : le s256 = 256 := by rw [e256]; decide
  obtain ⟨k, hk, hkk⟩ : ∃ k : Nat, k ≤ 0 ∧ ((0 : Int) / 2 = (k : Int)) := ⟨0 / 2, by omega, by omega⟩
  obtain rfl : k = 0 := by omega
  obtain ⟨sz, cz, hz, ez⟩ := scalar_rest_nil_ex
  obtain ⟨pw, hpw⟩ : ∃ pw : Nat → Nat, pw = fun k => 256 ^ k := ⟨_, rfl⟩
  have p0 : pw 0 = 1 := by rw [hpw]
  have ps : ∀ k, pw (k + 1) = pw k * 256 := fun k => by rw [hpw]; exact Nat.pow_succ 256 k
  clear hpw
  refine calls_of (hp0 := []) Try.func7 rfl 113 Try.ntmps7 rfl (HRep.nil _) ?_
  refine Sat.seq ?_
  -- region 0
  refine Sat.region ?_
  refine Tr.assign rfl rfl rfl ?_
  refine Tr.nil ?_
  refine at_n ?_
  refine Sat.seq ?_
  refine Sat.seq ?_
  -- region 1
  refine Sat.region ?_
  refine Tr.callV rfl rfl rfl rfl Body22 (law_lives) (fun _ _ => trivial) ?_
  refine Tr.not rfl rfl rfl ?_
  refine Tr.nil ?_
  refine at_n ?_
  refine Sat.cond_f rfl (rfl) ?_
  refine Sat.skip ?_
  refine at_n ?_
  refine Sat.seq ?_
  refine Sat.seq ?_
  -- region 3
  refine Sat.region ?_
  refine Tr.move rfl rfl rfl ?_
  refine Tr.lenSl rfl rfl rfl Try.underlying27 ?_
  refine Tr.gtr rfl rfl rfl rfl (decide_eq_false (by omega)) ?_
  refine Tr.nil ?_
  refine at_n ?_
  refine Sat.cond_f rfl (rfl) ?_
  refine Sat.skip ?_
  refine at_n ?_
  refine Sat.join (ι := Unit) (fun _u => ⟨[(0, .slice none 0 0), (1, i64 (0 : Int))], []⟩) (fun _u => True) ?_ ?_
  ·
    refine Sat.seq ?_
    -- region 5
    refine Sat.region ?_
    refine Tr.move rfl rfl rfl ?_
    refine Tr.lss rfl rfl rfl rfl (decide_eq_true (ht)) ?_
    refine Tr.move rfl rfl rfl ?_
    refine Tr.skp rfl rfl ?_
    refine Tr.skp rfl rfl ?_
    refine Tr.skp rfl rfl ?_
    refine Tr.skp rfl rfl ?_
    refine Tr.pick rfl rfl rfl rfl rfl rfl ?_
    refine Tr.nil ?_
    refine at_n ?_
    refine Sat.cond_t rfl (rfl) ?_
    -- region 6
    refine Sat.region ?_
    refine Tr.move rfl rfl rfl ?_
    refine Tr.lenSl rfl rfl rfl Try.underlying27 ?_
    refine Tr.quo_i64 rfl rfl rfl rfl (by omega) ?_
    refine Tr.assign rfl rfl rfl ?_
    refine Tr.nil ?_
    refine at_n ?_
    refine ⟨(), trivial, weak_of (wk1 rfl (wk1 (by rw [← hkk]; rfl) wk0)) wh0 (by repeat (first | exact ns_nil | refine ns_keep rfl ?_ | refine ns_skip ?_))⟩
  ·
    intro _u hj
    skip
    refine Sat.seq ?_
    -- region 7
    refine Sat.region ?_
    refine Tr.move rfl rfl rfl ?_
    refine Tr.callV rfl rfl rfl rfl Body21 (cz) (fun _ _ => trivial) ?_
    refine Tr.move rfl rfl rfl ?_
    refine Tr.extract rfl rfl rfl rfl ?_
    refine Tr.extract rfl rfl rfl rfl ?_
    refine Tr.alloc (cs := (bytesV (List.replicate 32 0))) rfl Zr47 rfl ?_
    intro n5 hn5 hf5
    first
      | refine Tr.storeAll rfl rfl rfl rfl (by simp [isCell]) Sz47 (by simp [leb_length, words4_length, List.length_replicate, subB_all, padB_all, hz, h256]) (by first | exact mem0 | exact mem1 | exact mem2 | exact mem3 | exact mem4 | exact mem5 | exact mem6 | exact mem7) (by simp [leb_length, words4_length, List.length_replicate, subB_all, padB_all, hz, h256]) (by first | exact upd0 | exact upd1 | exact upd2 | exact upd3 | exact upd4 | exact upd5 | exact upd6 | exact upd7) ?_
      | refine Tr.storeN _ rfl rfl rfl rfl rfl (by simp [isCell]) Sz47 (by simp [leb_length, words4_length, List.length_replicate, subB_all, padB_all, hz, h256]) (by first | exact mem0 | exact mem1 | exact mem2 | exact mem3 | exact mem4 | exact mem5 | exact mem6 | exact mem7) (by simp [leb_length, words4_length, List.length_replicate, subB_all, padB_all, hz, h256]) (by exact rfl) (by first | exact upd0 | exact upd1 | exact upd2 | exact upd3 | exact upd4 | exact upd5 | exact upd6 | exact upd7) ?_
    refine Tr.assign rfl rfl rfl ?_
    refine Tr.nil ?_
    refine at_n ?_
    refine Sat.seq ?_
    -- region 8
    refine Sat.region ?_
    refine Tr.move rfl rfl rfl ?_
    refine Tr.move rfl rfl rfl ?_
    refine Tr.sliceHiNil rfl rfl rfl rfl Try.underlying27 Sz5 ?_
    refine Tr.callV rfl rfl rfl rfl Body21 (cz) (fun _ _ => trivial) ?_
    refine Tr.move rfl rfl rfl ?_
    refine Tr.extract rfl rfl rfl rfl ?_
    refine Tr.extract rfl rfl rfl rfl ?_
    refine Tr.alloc (cs := (bytesV (List.replicate 32 0))) rfl Zr47 rfl ?_
    intro n7 hn7 hf7
    first
      | refine Tr.storeAll rfl rfl rfl rfl (by simp [isCell]) Sz47 (by simp [leb_length, words4_length, List.length_replicate, subB_all, padB_all, hz, h256]) (by first | exact mem0 | exact mem1 | exact mem2 | exact mem3 | exact mem4 | exact mem5 | exact mem6 | exact mem7) (by simp [leb_length, words4_length, List.length_replicate, subB_all, padB_all, hz, h256]) (by first | exact upd0 | exact upd1 | exact upd2 | exact upd3 | exact upd4 | exact upd5 | exact upd6 | exact upd7) ?_
      | refine Tr.storeN _ rfl rfl rfl rfl rfl (by simp [isCell]) Sz47 (by simp [leb_length, words4_length, List.length_replicate, subB_all, padB_all, hz, h256]) (by first | exact mem0 | exact mem1 | exact mem2 | exact mem3 | exact mem4 | exact mem5 | exact mem6 | exact mem7) (by simp [leb_length, words4_length, List.length_replicate, subB_all, padB_all, hz, h256]) (by exact rfl) (by first | exact upd0 | exact upd1 | exact upd2 | exact upd3 | exact upd4 | exact upd5 | exact upd6 | exact upd7) ?_
    refine Tr.assign rfl rfl rfl ?_
    refine Tr.nil ?_
    refine at_n ?_
    refine Sat.seq ?_
    -- region 9
    refine Sat.region ?_
    refine Tr.move rfl rfl rfl ?_
    refine Tr.move rfl rfl rfl ?_
    refine Tr.sliceLoNil rfl rfl rfl rfl Try.underlying27 Sz5 ?_
    refine Tr.callV rfl rfl rfl rfl Body21 (cz) (fun _ _ => trivial) ?_
    refine Tr.move rfl rfl rfl ?_
    refine Tr.extract rfl rfl rfl rfl ?_
    refine Tr.extract rfl rfl rfl rfl ?_
    refine Tr.alloc (cs := (bytesV (List.replicate 32 0))) rfl Zr47 rfl ?_
    intro n9 hn9 hf9
    first
      | refine Tr.storeAll rfl rfl rfl rfl (by simp [isCell]) Sz47 (by simp [leb_length, words4_length, List.length_replicate, subB_all, padB_all, hz, h256]) (by first | exact mem0 | exact mem1 | exact mem2 | exact mem3 | exact mem4 | exact mem5 | exact mem6 | exact mem7) (by simp [leb_length, words4_length, List.length_replicate, subB_all, padB_all, hz, h256]) (by first | exact upd0 | exact upd1 | exact upd2 | exact upd3 | exact upd4 | exact upd5 | exact upd6 | exact upd7) ?_
      | refine Tr.storeN _ rfl rfl rfl rfl rfl (by simp [isCell]) Sz47 (by simp [leb_length, words4_length, List.length_replicate, subB_all, padB_all, hz, h256]) (by first | exact mem0 | exact mem1 | exact mem2 | exact mem3 | exact mem4 | exact mem5 | exact mem6 | exact mem7) (by simp [leb_length, words4_length, List.length_replicate, subB_all, padB_all, hz, h256]) (by exact rfl) (by first | exact upd0 | exact upd1 | exact upd2 | exact upd3 | exact upd4 | exact upd5 | exact upd6 | exact upd7) ?_
    refine Tr.assign rfl rfl rfl ?_
    refine Tr.nil ?_
    refine at_n ?_
    refine Sat.join (ι := Unit) (fun _u => ⟨[(0, .slice none 0 0), (1, i64 (0 : Int)), (5, ptr n5 0), (6, i64 0), (7, ptr n7 0), (8, i64 0), (9, ptr n9 0), (10, i64 0)], [⟨n9, bytesV (leb 32 (pw (0) * 0 % L)), 47, 32⟩, ⟨n7, bytesV sz, 47, 32⟩, ⟨n5, bytesV sz, 47, 32⟩]⟩) (fun _u => True) ?_ ?_
    ·
      refine Sat.seq ?_
      -- region 10
      refine Sat.region ?_
      refine Tr.assign rfl rfl rfl ?_
      refine Tr.nil ?_
      refine at_n ?_
      refine Sat.block ?_
      refine Sat.loop (ι := Nat) (fun i => ⟨[(0, .slice none 0 0), (1, i64 (0 : Int)), (5, ptr n5 0), (6, i64 0), (7, ptr n7 0), (8, i64 0), (9, ptr n9 0), (10, i64 0), (11, i64 (i : Int))], [⟨n9, bytesV (leb 32 (pw (i) * 0 % L)), 47, 32⟩, ⟨n7, bytesV sz, 47, 32⟩, ⟨n5, bytesV sz, 47, 32⟩]⟩) (fun i => i ≤ 0) (fun i => 0 - i) (0) ?_ ?_ ?_
      · omega
      · exact weak_of (wk1 rfl (wk1 rfl (wk1 rfl (wk1 rfl (wk1 rfl (wk1 rfl (wk1 rfl (wk1 rfl (wk1 rfl wk0))))))))) (wh1 (by rw [Nat.mul_zero, zero_modL, ← ez]; exact mem0) (wh1 (by first | exact mem0 | exact mem1 | exact mem2 | exact mem3 | exact mem4 | exact mem5 | exact mem6 | exact mem7) (wh1 (by first | exact mem0 | exact mem1 | exact mem2 | exact mem3 | exact mem4 | exact mem5 | exact mem6 | exact mem7) wh0))) (by repeat (first | exact ns_nil | refine ns_keep rfl ?_ | refine ns_skip ?_))
      ·
        rintro i hi
        refine Sat.seq ?_
        refine Sat.seq ?_
        -- region 11
        refine Sat.region ?_
        refine Tr.move rfl rfl rfl ?_
        refine Tr.move rfl rfl rfl ?_
        refine Tr.lss rfl rfl rfl rfl (decide_eq_false (by omega)) ?_
        refine Tr.nil ?_
        refine at_n ?_
        refine Sat.cond_f rfl (rfl) ?_
        refine Sat.exit ?_
        refine at_x ?_
        refine at_x ?_
        refine bl_h ?_
        refine at_n ?_
        refine ⟨(), trivial, weak_of (wk1 rfl (wk1 rfl (wk1 rfl (wk1 rfl (wk1 rfl (wk1 rfl (wk1 rfl (wk1 rfl wk0)))))))) (wh1 (by first | exact mem0 | exact mem1 | exact mem2 | exact mem3 | exact mem4 | exact mem5 | exact mem6 | exact mem7) (wh1 (by first | exact mem0 | exact mem1 | exact mem2 | exact mem3 | exact mem4 | exact mem5 | exact mem6 | exact mem7) (wh1 (by first | exact mem0 | exact mem1 | exact mem2 | exact mem3 | exact mem4 | exact mem5 | exact mem6 | exact mem7) wh0))) (by repeat (first | exact ns_nil | refine ns_keep rfl ?_ | refine ns_skip ?_))⟩
    ·
      intro _u hj
      skip
      refine Sat.seq ?_
      -- region 14
      refine Sat.region ?_
      refine Tr.emptySlice rfl rfl Try.underlying27 Sz5 ?_
      intro q0
      refine Tr.move rfl rfl rfl ?_
      refine Tr.appendNil (z := u8 0) (by' := 1) rfl rfl rfl rfl rfl Try.underlying27 Try.underlying27 Sz5 Zr5 (by unfold By; kernel_rfl) rfl rem_here rfl rfl (by omega) (by omega) (by omega) ?_
      intro q1 c1 hq1
      refine Tr.move rfl rfl rfl ?_
      refine Tr.lenSl rfl rfl rfl Try.underlying27 ?_
      refine Tr.sub_i64 rfl rfl rfl rfl (by omega) ?_
      refine Tr.appendMade (z := u8 0) (by' := 1) (m := 64) rfl rfl rfl rfl rfl (by omega) Try.underlying27 Try.underlying3 Sz5 Zr5 (by unfold By; kernel_rfl) rfl rfl rem_here (by omega) (by simp [bytesV]) (by omega) (by omega) (by omega) ?_
      intro q2 c2 hq2
      refine Tr.callV rfl rfl rfl rfl Body21 (scalar_rest q2 0 c2 (0 + 64) (List.replicate 64 0) (by simp) (by omega)) (fun W2 h => by have h9 := sees_own h mem0; rwa [List.nil_append, show List.replicate 64 (u8 0) = bytesV (List.replicate 64 0) by simp [bytesV]] at h9) ?_
      refine Tr.move rfl rfl rfl ?_
      refine Tr.extract rfl rfl rfl rfl ?_
      refine Tr.extract rfl rfl rfl rfl ?_
      refine Tr.alloc (cs := (bytesV (List.replicate 32 0))) rfl Zr47 rfl ?_
      intro n12 hn12 hf12
      first
        | refine Tr.storeAll rfl rfl rfl rfl (by simp [isCell]) Sz47 (by simp [leb_length, words4_length, List.length_replicate, subB_all, padB_all, hz, h256]) (by first | exact mem0 | exact mem1 | exact mem2 | exact mem3 | exact mem4 | exact mem5 | exact mem6 | exact mem7) (by simp [leb_length, words4_length, List.length_replicate, subB_all, padB_all, hz, h256]) (by first | exact upd0 | exact upd1 | exact upd2 | exact upd3 | exact upd4 | exact upd5 | exact upd6 | exact upd7) ?_
        | refine Tr.storeN _ rfl rfl rfl rfl rfl (by simp [isCell]) Sz47 (by simp [leb_length, words4_length, List.length_replicate, subB_all, padB_all, hz, h256]) (by first | exact mem0 | exact mem1 | exact mem2 | exact mem3 | exact mem4 | exact mem5 | exact mem6 | exact mem7) (by simp [leb_length, words4_length, List.length_replicate, subB_all, padB_all, hz, h256]) (by exact rfl) (by first | exact upd0 | exact upd1 | exact upd2 | exact upd3 | exact upd4 | exact upd5 | exact upd6 | exact upd7) ?_
      refine Tr.assign rfl rfl rfl ?_
      refine Tr.nil ?_
      refine at_n ?_
      refine Sat.seq ?_
      -- region 15
      refine Sat.region ?_
      refine Tr.assign rfl rfl rfl ?_
      refine Tr.nil ?_
      refine at_n ?_
      refine Sat.join (ι := Nat) (fun cc => ⟨[(0, .slice none 0 0), (1, i64 (0 : Int)), (5, ptr n5 0), (6, i64 0), (7, ptr n7 0), (8, i64 0), (9, ptr n9 0), (10, i64 0), (12, ptr n12 0), (13, i64 0), (14, i64 (cc : Int))], [⟨n12, bytesV (leb 32 (0 % L)), 47, 32⟩, ⟨n9, bytesV (leb 32 (pw (0) * 0 % L)), 47, 32⟩, ⟨n7, bytesV sz, 47, 32⟩, ⟨n5, bytesV sz, 47, 32⟩]⟩) (fun cc => (cc = 0 ↔ ∀ j, j < 256 → (le sz).testBit j = false)) ?_ ?_
      ·
        refine Sat.seq ?_
        -- region 16
        refine Sat.region ?_
        refine Tr.assign rfl rfl rfl ?_
        refine Tr.nil ?_
        refine at_n ?_
        refine Sat.block ?_
        refine Sat.loop (ι := Nat × Nat) (fun p => ⟨[(0, .slice none 0 0), (1, i64 (0 : Int)), (5, ptr n5 0), (6, i64 0), (7, ptr n7 0), (8, i64 0), (9, ptr n9 0), (10, i64 0), (12, ptr n12 0), (13, i64 0), (14, i64 (p.2 : Int)), (15, i64 (p.1 : Int))], [⟨n12, bytesV (leb 32 (0 % L)), 47, 32⟩, ⟨n9, bytesV (leb 32 (pw (0) * 0 % L)), 47, 32⟩, ⟨n7, bytesV sz, 47, 32⟩, ⟨n5, bytesV sz, 47, 32⟩]⟩) (fun p => p.1 ≤ 256 ∧ p.2 ≤ p.1 ∧ (p.2 = 0 ↔ ∀ j, j < p.1 → (le sz).testBit j = false)) (fun p => 256 - p.1) ((0, 0)) ?_ ?_ ?_
        · exact ⟨by omega, by omega, by simp⟩
        · exact weak_of (wk1 rfl (wk1 rfl (wk1 rfl (wk1 rfl (wk1 rfl (wk1 rfl (wk1 rfl (wk1 rfl (wk1 rfl (wk1 rfl (wk1 rfl (wk1 rfl wk0)))))))))))) (wh1 (by rw [← le_zeros 64]; exact mem0) (wh1 (by first | exact mem0 | exact mem1 | exact mem2 | exact mem3 | exact mem4 | exact mem5 | exact mem6 | exact mem7) (wh1 (by first | exact mem0 | exact mem1 | exact mem2 | exact mem3 | exact mem4 | exact mem5 | exact mem6 | exact mem7) (wh1 (by first | exact mem0 | exact mem1 | exact mem2 | exact mem3 | exact mem4 | exact mem5 | exact mem6 | exact mem7) wh0)))) (by repeat (first | exact ns_nil | refine ns_keep rfl ?_ | refine ns_skip ?_))
        ·
          rintro p ⟨hp1, hp2, hp3⟩
          refine Sat.seq ?_
          refine Sat.seq ?_
          -- region 17
          refine Sat.region ?_
          refine Tr.move rfl rfl rfl ?_
          refine Tr.lss rfl rfl rfl rfl rfl ?_
          refine Tr.nil ?_
          refine at_n ?_
          first
            | refine Sat.condP rfl (fun hc4 => ?_) (fun hc4 => ?_)
            | refine Sat.condNP rfl (fun hc4 => ?_) (fun hc4 => ?_)
            | refine Sat.cond rfl (fun hc4 => ?_) (fun hc4 => ?_)
          ·
            have hk2 : p.1 < 256 := by omega
            refine Sat.skip ?_
            refine at_n ?_
            refine Sat.join (ι := Nat) (fun c9 => ⟨[(0, .slice none 0 0), (1, i64 (0 : Int)), (5, ptr n5 0), (6, i64 0), (7, ptr n7 0), (8, i64 0), (9, ptr n9 0), (10, i64 0), (12, ptr n12 0), (13, i64 0), (14, i64 (c9 : Int)), (15, i64 (p.1 : Int))], [⟨n12, bytesV (leb 32 (0 % L)), 47, 32⟩, ⟨n9, bytesV (leb 32 (pw (0) * 0 % L)), 47, 32⟩, ⟨n7, bytesV sz, 47, 32⟩, ⟨n5, bytesV sz, 47, 32⟩]⟩) (fun c9 => c9 ≤ p.1 + 1 ∧ (c9 = 0 ↔ ∀ j, j < p.1 + 1 → (le sz).testBit j = false)) ?_ ?_
            ·
              refine Sat.block ?_
              refine Sat.seq ?_
              -- region 19
              refine Sat.region ?_
              first
                | refine Tr.loadAll rfl rfl rfl Try.underlying47 rfl Sz47 (by first | exact mem0 | exact mem1 | exact mem2 | exact mem3 | exact mem4 | exact mem5 | exact mem6 | exact mem7) (by simp [leb_length, words4_length, List.length_replicate, subB_all, padB_all, hz, h256]) ?_
                | refine Tr.loadN _ rfl rfl rfl Try.underlying47 rfl Sz47 (by first | exact mem0 | exact mem1 | exact mem2 | exact mem3 | exact mem4 | exact mem5 | exact mem6 | exact mem7) (by exact rfl) (by simp [leb_length, words4_length, List.length_replicate, subB_all, padB_all, hz, h256]) ?_
              refine Tr.move rfl rfl rfl ?_
              refine Tr.callV rfl rfl rfl rfl Body26 (scalar_bit_at sz (by simp [leb_length, words4_length, List.length_replicate, subB_all, padB_all, hz, h256]) p.1 hk2) (fun _ _ => trivial) ?_
              refine Tr.nil ?_
              refine at_n ?_
              refine Sat.cond rfl (fun hc5 => ?_) (fun hc5 => ?_)
              ·
                have hs9 := (cnt_step hp3).1 hc5
                -- region 20
                refine Sat.region ?_
                refine Tr.move rfl rfl rfl ?_
                refine Tr.add_i64 rfl rfl rfl rfl (by omega) ?_
                refine Tr.assign rfl rfl rfl ?_
                refine Tr.nil ?_
                refine bl_n ?_
                refine at_n ?_
                first
                  | exact ⟨p.2 + 1, ⟨by omega, hs9⟩, weak_of (wk1 rfl (wk1 rfl (wk1 rfl (wk1 rfl (wk1 rfl (wk1 rfl (wk1 rfl (wk1 rfl (wk1 rfl (wk1 rfl (wk1 rfl (wk1 rfl wk0)))))))))))) (wh1 (by first | exact mem0 | exact mem1 | exact mem2 | exact mem3 | exact mem4 | exact mem5 | exact mem6 | exact mem7) (wh1 (by first | exact mem0 | exact mem1 | exact mem2 | exact mem3 | exact mem4 | exact mem5 | exact mem6 | exact mem7) (wh1 (by first | exact mem0 | exact mem1 | exact mem2 | exact mem3 | exact mem4 | exact mem5 | exact mem6 | exact mem7) (wh1 (by first | exact mem0 | exact mem1 | exact mem2 | exact mem3 | exact mem4 | exact mem5 | exact mem6 | exact mem7) wh0)))) (by repeat (first | exact ns_nil | refine ns_keep rfl ?_ | refine ns_skip ?_))⟩
                  | exact ⟨p.2, ⟨by omega, hs9⟩, weak_of (wk1 rfl (wk1 rfl (wk1 rfl (wk1 rfl (wk1 rfl (wk1 rfl (wk1 rfl (wk1 rfl (wk1 rfl (wk1 rfl (wk1 rfl (wk1 rfl wk0)))))))))))) (wh1 (by first | exact mem0 | exact mem1 | exact mem2 | exact mem3 | exact mem4 | exact mem5 | exact mem6 | exact mem7) (wh1 (by first | exact mem0 | exact mem1 | exact mem2 | exact mem3 | exact mem4 | exact mem5 | exact mem6 | exact mem7) (wh1 (by first | exact mem0 | exact mem1 | exact mem2 | exact mem3 | exact mem4 | exact mem5 | exact mem6 | exact mem7) (wh1 (by first | exact mem0 | exact mem1 | exact mem2 | exact mem3 | exact mem4 | exact mem5 | exact mem6 | exact mem7) wh0)))) (by repeat (first | exact ns_nil | refine ns_keep rfl ?_ | refine ns_skip ?_))⟩
              ·
                have hs9 := (cnt_step hp3).2 hc5
                refine Sat.skip ?_
                refine bl_n ?_
                refine at_n ?_
                first
                  | exact ⟨p.2 + 1, ⟨by omega, hs9⟩, weak_of (wk1 rfl (wk1 rfl (wk1 rfl (wk1 rfl (wk1 rfl (wk1 rfl (wk1 rfl (wk1 rfl (wk1 rfl (wk1 rfl (wk1 rfl (wk1 rfl wk0)))))))))))) (wh1 (by first | exact mem0 | exact mem1 | exact mem2 | exact mem3 | exact mem4 | exact mem5 | exact mem6 | exact mem7) (wh1 (by first | exact mem0 | exact mem1 | exact mem2 | exact mem3 | exact mem4 | exact mem5 | exact mem6 | exact mem7) (wh1 (by first | exact mem0 | exact mem1 | exact mem2 | exact mem3 | exact mem4 | exact mem5 | exact mem6 | exact mem7) (wh1 (by first | exact mem0 | exact mem1 | exact mem2 | exact mem3 | exact mem4 | exact mem5 | exact mem6 | exact mem7) wh0)))) (by repeat (first | exact ns_nil | refine ns_keep rfl ?_ | refine ns_skip ?_))⟩
                  | exact ⟨p.2, ⟨by omega, hs9⟩, weak_of (wk1 rfl (wk1 rfl (wk1 rfl (wk1 rfl (wk1 rfl (wk1 rfl (wk1 rfl (wk1 rfl (wk1 rfl (wk1 rfl (wk1 rfl (wk1 rfl wk0)))))))))))) (wh1 (by first | exact mem0 | exact mem1 | exact mem2 | exact mem3 | exact mem4 | exact mem5 | exact mem6 | exact mem7) (wh1 (by first | exact mem0 | exact mem1 | exact mem2 | exact mem3 | exact mem4 | exact mem5 | exact mem6 | exact mem7) (wh1 (by first | exact mem0 | exact mem1 | exact mem2 | exact mem3 | exact mem4 | exact mem5 | exact mem6 | exact mem7) (wh1 (by first | exact mem0 | exact mem1 | exact mem2 | exact mem3 | exact mem4 | exact mem5 | exact mem6 | exact mem7) wh0)))) (by repeat (first | exact ns_nil | refine ns_keep rfl ?_ | refine ns_skip ?_))⟩
            ·
              intro c9 hj
              obtain ⟨hc9, hi9⟩ := hj
              -- region 18
              refine Sat.region ?_
              refine Tr.move rfl rfl rfl ?_
              refine Tr.add_i64 rfl rfl rfl rfl (by omega) ?_
              refine Tr.assign rfl rfl rfl ?_
              refine Tr.nil ?_
              refine at_n ?_
              exact ⟨(p.1 + 1, c9), ⟨by omega, by omega, hi9⟩, by simp only []; omega, weak_of (wk1 rfl (wk1 rfl (wk1 rfl (wk1 rfl (wk1 rfl (wk1 rfl (wk1 rfl (wk1 rfl (wk1 rfl (wk1 rfl (wk1 rfl (wk1 rfl wk0)))))))))))) (wh1 (by first | exact mem0 | exact mem1 | exact mem2 | exact mem3 | exact mem4 | exact mem5 | exact mem6 | exact mem7) (wh1 (by first | exact mem0 | exact mem1 | exact mem2 | exact mem3 | exact mem4 | exact mem5 | exact mem6 | exact mem7) (wh1 (by first | exact mem0 | exact mem1 | exact mem2 | exact mem3 | exact mem4 | exact mem5 | exact mem6 | exact mem7) (wh1 (by first | exact mem0 | exact mem1 | exact mem2 | exact mem3 | exact mem4 | exact mem5 | exact mem6 | exact mem7) wh0)))) (by repeat (first | exact ns_nil | refine ns_keep rfl ?_ | refine ns_skip ?_))⟩
          ·
            have e256b : p.1 = 256 := by omega
            rw [e256b] at hp3
            refine Sat.exit ?_
            refine at_x ?_
            refine at_x ?_
            refine bl_h ?_
            refine at_n ?_
            refine ⟨p.2, hp3, weak_of (wk1 rfl (wk1 rfl (wk1 rfl (wk1 rfl (wk1 rfl (wk1 rfl (wk1 rfl (wk1 rfl (wk1 rfl (wk1 rfl (wk1 rfl wk0))))))))))) (wh1 (by first | exact mem0 | exact mem1 | exact mem2 | exact mem3 | exact mem4 | exact mem5 | exact mem6 | exact mem7) (wh1 (by first | exact mem0 | exact mem1 | exact mem2 | exact mem3 | exact mem4 | exact mem5 | exact mem6 | exact mem7) (wh1 (by first | exact mem0 | exact mem1 | exact mem2 | exact mem3 | exact mem4 | exact mem5 | exact mem6 | exact mem7) (wh1 (by first | exact mem0 | exact mem1 | exact mem2 | exact mem3 | exact mem4 | exact mem5 | exact mem6 | exact mem7) wh0)))) (by repeat (first | exact ns_nil | refine ns_keep rfl ?_ | refine ns_skip ?_))⟩
      ·
        intro cc hj
        have hcnt := hj
        refine Sat.seq ?_
        -- region 21
        refine Sat.draw [(0, 0), (0, 1), (0, 2), (0, 3), (0, 4), (0, 5), (0, 6), (0, 7), (0, 8), (0, 9), (0, 10), (0, 11), (0, 12), (0, 13), (0, 14), (1, 15), (1, 16), (1, 17), (3, 18), (0, 19), (0, 20), (0, 21), (1, 22), (1, 23), (0, 24), (0, 25), (0, 26), (0, 27), (0, 28), (1, 29), (0, 30), (0, 31), (0, 32), (0, 33), (0, 34)] Mixed (by kernel_rfl) ?_
        refine Tr.move rfl rfl rfl ?_
        refine Tr.eqi rfl rfl rfl rfl (decide_eq_true (rfl)) ?_
        refine Tr.move rfl rfl rfl ?_
        refine Tr.move rfl rfl rfl ?_
        refine Tr.eqi rfl rfl rfl rfl (decide_eq_true (rfl)) ?_
        refine Tr.pick rfl rfl rfl rfl rfl rfl ?_
        refine Tr.move rfl rfl rfl ?_
        refine Tr.move rfl rfl rfl ?_
        refine Tr.eqi rfl rfl rfl rfl (decide_eq_true (rfl)) ?_
        refine Tr.pick rfl rfl rfl rfl rfl rfl ?_
        refine Tr.move rfl rfl rfl ?_
        refine Tr.move rfl rfl rfl ?_
        refine Tr.eqi rfl rfl rfl rfl (decide_eq_true (rfl)) ?_
        refine Tr.pick rfl rfl rfl rfl rfl rfl ?_
        refine Tr.move rfl rfl rfl ?_
        first
          | refine Tr.loadAll rfl rfl rfl Try.underlying47 rfl Sz47 (by first | exact mem0 | exact mem1 | exact mem2 | exact mem3 | exact mem4 | exact mem5 | exact mem6 | exact mem7) (by simp [leb_length, words4_length, List.length_replicate, subB_all, padB_all, hz, h256]) ?_
          | refine Tr.loadN _ rfl rfl rfl Try.underlying47 rfl Sz47 (by first | exact mem0 | exact mem1 | exact mem2 | exact mem3 | exact mem4 | exact mem5 | exact mem6 | exact mem7) (by exact rfl) (by simp [leb_length, words4_length, List.length_replicate, subB_all, padB_all, hz, h256]) ?_
        first
          | refine Tr.loadAll rfl rfl rfl Try.underlying47 rfl Sz47 (by first | exact mem0 | exact mem1 | exact mem2 | exact mem3 | exact mem4 | exact mem5 | exact mem6 | exact mem7) (by simp [leb_length, words4_length, List.length_replicate, subB_all, padB_all, hz, h256]) ?_
          | refine Tr.loadN _ rfl rfl rfl Try.underlying47 rfl Sz47 (by first | exact mem0 | exact mem1 | exact mem2 | exact mem3 | exact mem4 | exact mem5 | exact mem6 | exact mem7) (by exact rfl) (by simp [leb_length, words4_length, List.length_replicate, subB_all, padB_all, hz, h256]) ?_
        first
          | refine Tr.loadAll rfl rfl rfl Try.underlying47 rfl Sz47 (by first | exact mem0 | exact mem1 | exact mem2 | exact mem3 | exact mem4 | exact mem5 | exact mem6 | exact mem7) (by simp [leb_length, words4_length, List.length_replicate, subB_all, padB_all, hz, h256]) ?_
          | refine Tr.loadN _ rfl rfl rfl Try.underlying47 rfl Sz47 (by first | exact mem0 | exact mem1 | exact mem2 | exact mem3 | exact mem4 | exact mem5 | exact mem6 | exact mem7) (by exact rfl) (by simp [leb_length, words4_length, List.length_replicate, subB_all, padB_all, hz, h256]) ?_
        refine Tr.callV rfl rfl rfl rfl Body28 (scalar_add _ _ (by simp [leb_length, words4_length, List.length_replicate, subB_all, padB_all, hz, h256]) (by simp [leb_length, words4_length, List.length_replicate, subB_all, padB_all, hz, h256])) (fun _ _ => trivial) ?_
        refine Tr.eql_bytes rfl rfl rfl rfl Try.eqGuardType47 Try.underlying47 Try.underlying5 Sz5 (by simp [leb_length, words4_length, List.length_replicate, subB_all, padB_all, hz, h256]) (by simp [leb_length, words4_length, List.length_replicate, subB_all, padB_all, hz, h256]) (decide_eq_true (by rw [Nat.mul_zero, zero_modL, ← ez]; rw [ez, le_leb32 (by decide)]; decide)) ?_
        refine Tr.pick rfl rfl rfl rfl rfl rfl ?_
        refine Tr.move rfl rfl rfl ?_
        first
          | refine Tr.loadAll rfl rfl rfl Try.underlying47 rfl Sz47 (by first | exact mem0 | exact mem1 | exact mem2 | exact mem3 | exact mem4 | exact mem5 | exact mem6 | exact mem7) (by simp [leb_length, words4_length, List.length_replicate, subB_all, padB_all, hz, h256]) ?_
          | refine Tr.loadN _ rfl rfl rfl Try.underlying47 rfl Sz47 (by first | exact mem0 | exact mem1 | exact mem2 | exact mem3 | exact mem4 | exact mem5 | exact mem6 | exact mem7) (by exact rfl) (by simp [leb_length, words4_length, List.length_replicate, subB_all, padB_all, hz, h256]) ?_
        first
          | refine Tr.loadAll rfl rfl rfl Try.underlying47 rfl Sz47 (by first | exact mem0 | exact mem1 | exact mem2 | exact mem3 | exact mem4 | exact mem5 | exact mem6 | exact mem7) (by simp [leb_length, words4_length, List.length_replicate, subB_all, padB_all, hz, h256]) ?_
          | refine Tr.loadN _ rfl rfl rfl Try.underlying47 rfl Sz47 (by first | exact mem0 | exact mem1 | exact mem2 | exact mem3 | exact mem4 | exact mem5 | exact mem6 | exact mem7) (by exact rfl) (by simp [leb_length, words4_length, List.length_replicate, subB_all, padB_all, hz, h256]) ?_
        refine Tr.eql_bytes rfl rfl rfl rfl Try.eqGuardType47 Try.underlying47 Try.underlying5 Sz5 (by simp [leb_length, words4_length, List.length_replicate, subB_all, padB_all, hz, h256]) (by simp [leb_length, words4_length, List.length_replicate, subB_all, padB_all, hz, h256]) (decide_eq_true (by (try rw [zero_modL]); (try rw [ez]))) ?_
        refine Tr.pick rfl rfl rfl rfl rfl rfl ?_
        refine Tr.move rfl rfl rfl ?_
        refine Tr.move rfl rfl rfl ?_
        refine Tr.eqi rfl rfl rfl rfl rfl ?_
        first
          | refine Tr.loadAll rfl rfl rfl Try.underlying47 rfl Sz47 (by first | exact mem0 | exact mem1 | exact mem2 | exact mem3 | exact mem4 | exact mem5 | exact mem6 | exact mem7) (by simp [leb_length, words4_length, List.length_replicate, subB_all, padB_all, hz, h256]) ?_
          | refine Tr.loadN _ rfl rfl rfl Try.underlying47 rfl Sz47 (by first | exact mem0 | exact mem1 | exact mem2 | exact mem3 | exact mem4 | exact mem5 | exact mem6 | exact mem7) (by exact rfl) (by simp [leb_length, words4_length, List.length_replicate, subB_all, padB_all, hz, h256]) ?_
        refine Tr.build (cs := bytesV (List.replicate 32 0)) rfl rfl rfl (fun w => by kernel_rfl) ?_
        refine Tr.eql_bytes rfl rfl rfl rfl Try.eqGuardType47 Try.underlying47 Try.underlying5 Sz5 (by simp [leb_length, words4_length, List.length_replicate, subB_all, padB_all, hz, h256]) (by simp [leb_length, words4_length, List.length_replicate, subB_all, padB_all, hz, h256]) rfl ?_
        refine Tr.eqb (r := true) rfl rfl rfl rfl Try.underlying4 (by rw [ez]; rw [ez] at hcnt; exact cnt_zero cc 0 (by decide) (by rw [le_leb32 (by decide)] at hcnt; exact hcnt)) ?_
        refine Tr.pick rfl rfl rfl rfl rfl rfl ?_
        refine Tr.assign rfl rfl rfl ?_
        refine Tr.nil ?_
        refine at_n ?_
        refine Sat.ret ?_
        refine en_r ?_
        refine ⟨_, [], res_tmp rfl rfl, (by simp), (by simp), ?_, rfl⟩
        rfl

set_option maxRecDepth 100000 in
set_option maxHeartbeats 4000000 in
theorem law_rests_nil_big (t : Int) (ht : (0 : Int) < t) : Meets Try.prog 7 [.slice none 0 0, i64 t] [] (fun _ => True) (fun v out => v = .bool true ∧ out = []) := by
  intro W hW
  obtain ⟨s256, c256, h256, e256⟩ := law_small_ex 256
  have l256 : le s256 = 256 := by rw [e256]; decide
  obtain ⟨k, hk, hkk⟩ : ∃ k : Nat, k ≤ 0 ∧ ((0 : Int) / 2 = (k : Int)) := ⟨0 / 2, by omega, by omega⟩
  obtain rfl : k = 0 := by omega
  obtain ⟨sz, cz, hz, ez⟩ := scalar_rest_nil_ex
  obtain ⟨pw, hpw⟩ : ∃ pw : Nat → Nat, pw = fun k => 256 ^ k := ⟨_, rfl⟩
  have p0 : pw 0 = 1 := by rw [hpw]
  have ps : ∀ k, pw (k + 1) = pw k * 256 := fun k => by rw [hpw]; exact Nat.pow_succ 256 k
  clear hpw
  refine calls_of (hp0 := []) Try.func7 rfl 113 Try.ntmps7 rfl (HRep.nil _) ?_
  refine Sat.seq ?_
  -- region 0
  refine Sat.region ?_
  refine Tr.assign rfl rfl rfl ?_
  refine Tr.nil ?_
  refine at_n ?_
  refine Sat.seq ?_
  refine Sat.seq ?_
  -- region 1
  refine Sat.region ?_
  refine Tr.callV rfl rfl rfl rfl Body22 (law_lives) (fun _ _ => trivial) ?_
  refine Tr.not rfl rfl rfl ?_
  refine Tr.nil ?_
  refine at_n ?_
  refine Sat.cond_f rfl (rfl) ?_
  refine Sat.skip ?_
  refine at_n ?_
  refine Sat.seq ?_
  refine Sat.seq ?_
  -- region 3
  refine Sat.region ?_
  refine Tr.move rfl rfl rfl ?_
  refine Tr.lenSl rfl rfl rfl Try.underlying27 ?_
  refine Tr.gtr rfl rfl rfl rfl (decide_eq_false (by omega)) ?_
  refine Tr.nil ?_
  refine at_n ?_
  refine Sat.cond_f rfl (rfl) ?_
  refine Sat.skip ?_
  refine at_n ?_
  refine Sat.join (ι := Unit) (fun _u => ⟨[(0, .slice none 0 0), (1, i64 (0 : Int))], []⟩) (fun _u => True) ?_ ?_
  ·
    refine Sat.seq ?_
    -- region 5
    refine Sat.region ?_
    refine Tr.move rfl rfl rfl ?_
    refine Tr.lss rfl rfl rfl rfl (decide_eq_false (by omega)) ?_
    refine Tr.move rfl rfl rfl ?_
    refine Tr.move rfl rfl rfl ?_
    refine Tr.move rfl rfl rfl ?_
    refine Tr.lenSl rfl rfl rfl Try.underlying27 ?_
    refine Tr.gtr rfl rfl rfl rfl (decide_eq_true (ht)) ?_
    refine Tr.pick rfl rfl rfl rfl rfl rfl ?_
    refine Tr.nil ?_
    refine at_n ?_
    refine Sat.cond_t rfl (rfl) ?_
    -- region 6
    refine Sat.region ?_
    refine Tr.move rfl rfl rfl ?_
    refine Tr.lenSl rfl rfl rfl Try.underlying27 ?_
    refine Tr.quo_i64 rfl rfl rfl rfl (by omega) ?_
    refine Tr.assign rfl rfl rfl ?_
    refine Tr.nil ?_
    refine at_n ?_
    refine ⟨(), trivial, weak_of (wk1 rfl (wk1 (by rw [← hkk]; rfl) wk0)) wh0 (by repeat (first | exact ns_nil | refine ns_keep rfl ?_ | refine ns_skip ?_))⟩
  ·
    intro _u hj
    skip
    refine Sat.seq ?_
    -- region 7
    refine Sat.region ?_
    refine Tr.move rfl rfl rfl ?_
    refine Tr.callV rfl rfl rfl rfl Body21 (cz) (fun _ _ => trivial) ?_
    refine Tr.move rfl rfl rfl ?_
    refine Tr.extract rfl rfl rfl rfl ?_
    refine Tr.extract rfl rfl rfl rfl ?_
    refine Tr.alloc (cs := (bytesV (List.replicate 32 0))) rfl Zr47 rfl ?_
    intro n5 hn5 hf5
    first
      | refine Tr.storeAll rfl rfl rfl rfl (by simp [isCell]) Sz47 (by simp [leb_length, words4_length, List.length_replicate, subB_all, padB_all, hz, h256]) (by first | exact mem0 | exact mem1 | exact mem2 | exact mem3 | exact mem4 | exact mem5 | exact mem6 | exact mem7) (by simp [leb_length, words4_length, List.length_replicate, subB_all, padB_all, hz, h256]) (by first | exact upd0 | exact upd1 | exact upd2 | exact upd3 | exact upd4 | exact upd5 | exact upd6 | exact upd7) ?_
      | refine Tr.storeN _ rfl rfl rfl rfl rfl (by simp [isCell]) Sz47 (by simp [leb_length, words4_length, List.length_replicate, subB_all, padB_all, hz, h256]) (by first | exact mem0 | exact mem1 | exact mem2 | exact mem3 | exact mem4 | exact mem5 | exact mem6 | exact mem7) (by simp [leb_length, words4_length, List.length_replicate, subB_all, padB_all, hz, h256]) (by exact rfl) (by first | exact upd0 | exact upd1 | exact upd2 | exact upd3 | exact upd4 | exact upd5 | exact upd6 | exact upd7) ?_
    refine Tr.assign rfl rfl rfl ?_
    refine Tr.nil ?_
    refine at_n ?_
    refine Sat.seq ?_
    -- region 8
    refine Sat.region ?_
    refine Tr.move rfl rfl rfl ?_
    refine Tr.move rfl rfl rfl ?_
    refine Tr.sliceHiNil rfl rfl rfl rfl Try.underlying27 Sz5 ?_
    refine Tr.callV rfl rfl rfl rfl Body21 (cz) (fun _ _ => trivial) ?_
    refine Tr.move rfl rfl rfl ?_
    refine Tr.extract rfl rfl rfl rfl ?_
    refine Tr.extract rfl rfl rfl rfl ?_
    refine Tr.alloc (cs := (bytesV (List.replicate 32 0))) rfl Zr47 rfl ?_
    intro n7 hn7 hf7
    first
      | refine Tr.storeAll rfl rfl rfl rfl (by simp [isCell]) Sz47 (by simp [leb_length, words4_length, List.length_replicate, subB_all, padB_all, hz, h256]) (by first | exact mem0 | exact mem1 | exact mem2 | exact mem3 | exact mem4 | exact mem5 | exact mem6 | exact mem7) (by simp [leb_length, words4_length, List.length_replicate, subB_all, padB_all, hz, h256]) (by first | exact upd0 | exact upd1 | exact upd2 | exact upd3 | exact upd4 | exact upd5 | exact upd6 | exact upd7) ?_
      | refine Tr.storeN _ rfl rfl rfl rfl rfl (by simp [isCell]) Sz47 (by simp [leb_length, words4_length, List.length_replicate, subB_all, padB_all, hz, h256]) (by first | exact mem0 | exact mem1 | exact mem2 | exact mem3 | exact mem4 | exact mem5 | exact mem6 | exact mem7) (by simp [leb_length, words4_length, List.length_replicate, subB_all, padB_all, hz, h256]) (by exact rfl) (by first | exact upd0 | exact upd1 | exact upd2 | exact upd3 | exact upd4 | exact upd5 | exact upd6 | exact upd7) ?_
    refine Tr.assign rfl rfl rfl ?_
    refine Tr.nil ?_
    refine at_n ?_
    refine Sat.seq ?_
    -- region 9
    refine Sat.region ?_
    refine Tr.move rfl rfl rfl ?_
    refine Tr.move rfl rfl rfl ?_
    refine Tr.sliceLoNil rfl rfl rfl rfl Try.underlying27 Sz5 ?_
    refine Tr.callV rfl rfl rfl rfl Body21 (cz) (fun _ _ => trivial) ?_
    refine Tr.move rfl rfl rfl ?_
    refine Tr.extract rfl rfl rfl rfl ?_
    refine Tr.extract rfl rfl rfl rfl ?_
    refine Tr.alloc (cs := (bytesV (List.replicate 32 0))) rfl Zr47 rfl ?_
    intro n9 hn9 hf9
    first
      | refine Tr.storeAll rfl rfl rfl rfl (by simp [isCell]) Sz47 (by simp [leb_length, words4_length, List.length_replicate, subB_all, padB_all, hz, h256]) (by first | exact mem0 | exact mem1 | exact mem2 | exact mem3 | exact mem4 | exact mem5 | exact mem6 | exact mem7) (by simp [leb_length, words4_length, List.length_replicate, subB_all, padB_all, hz, h256]) (by first | exact upd0 | exact upd1 | exact upd2 | exact upd3 | exact upd4 | exact upd5 | exact upd6 | exact upd7) ?_
      | refine Tr.storeN _ rfl rfl rfl rfl rfl (by simp [isCell]) Sz47 (by simp [leb_length, words4_length, List.length_replicate, subB_all, padB_all, hz, h256]) (by first | exact mem0 | exact mem1 | exact mem2 | exact mem3 | exact mem4 | exact mem5 | exact mem6 | exact mem7) (by simp [leb_length, words4_length, List.length_replicate, subB_all, padB_all, hz, h256]) (by exact rfl) (by first | exact upd0 | exact upd1 | exact upd2 | exact upd3 | exact upd4 | exact upd5 | exact upd6 | exact upd7) ?_
    refine Tr.assign rfl rfl rfl ?_
    refine Tr.nil ?_
    refine at_n ?_
    refine Sat.join (ι := Unit) (fun _u => ⟨[(0, .slice none 0 0), (1, i64 (0 : Int)), (5, ptr n5 0), (6, i64 0), (7, ptr n7 0), (8, i64 0), (9, ptr n9 0), (10, i64 0)], [⟨n9, bytesV (leb 32 (pw (0) * 0 % L)), 47, 32⟩, ⟨n7, bytesV sz, 47, 32⟩, ⟨n5, bytesV sz, 47, 32⟩]⟩) (fun _u => True) ?_ ?_
    ·
      refine Sat.seq ?_
      -- region 10
      refine Sat.region ?_
      refine Tr.assign rfl rfl rfl ?_
      refine Tr.nil ?_
      refine at_n ?_
      refine Sat.block ?_
      refine Sat.loop (ι := Nat) (fun i => ⟨[(0, .slice none 0 0), (1, i64 (0 : Int)), (5, ptr n5 0), (6, i64 0), (7, ptr n7 0), (8, i64 0), (9, ptr n9 0), (10, i64 0), (11, i64 (i : Int))], [⟨n9, bytesV (leb 32 (pw (i) * 0 % L)), 47, 32⟩, ⟨n7, bytesV sz, 47, 32⟩, ⟨n5, bytesV sz, 47, 32⟩]⟩) (fun i => i ≤ 0) (fun i => 0 - i) (0) ?_ ?_ ?_
      · omega
      · exact weak_of (wk1 rfl (wk1 rfl (wk1 rfl (wk1 rfl (wk1 rfl (wk1 rfl (wk1 rfl (wk1 rfl (wk1 rfl wk0))))))))) (wh1 (by rw [Nat.mul_zero, zero_modL, ← ez]; exact mem0) (wh1 (by first | exact mem0 | exact mem1 | exact mem2 | exact mem3 | exact mem4 | exact mem5 | exact mem6 | exact mem7) (wh1 (by first | exact mem0 | exact mem1 | exact mem2 | exact mem3 | exact mem4 | exact mem5 | exact mem6 | exact mem7) wh0))) (by repeat (first | exact ns_nil | refine ns_keep rfl ?_ | refine ns_skip ?_))
      ·
        rintro i hi
        refine Sat.seq ?_
        refine Sat.seq ?_
        -- region 11
        refine Sat.region ?_
        refine Tr.move rfl rfl rfl ?_
        refine Tr.move rfl rfl rfl ?_
        refine Tr.lss rfl rfl rfl rfl (decide_eq_false (by omega)) ?_
        refine Tr.nil ?_
        refine at_n ?_
        refine Sat.cond_f rfl (rfl) ?_
        refine Sat.exit ?_
        refine at_x ?_
        refine at_x ?_
        refine bl_h ?_
        refine at_n ?_
        refine ⟨(), trivial, weak_of (wk1 rfl (wk1 rfl (wk1 rfl (wk1 rfl (wk1 rfl (wk1 rfl (wk1 rfl (wk1 rfl wk0)))))))) (wh1 (by first | exact mem0 | exact mem1 | exact mem2 | exact mem3 | exact mem4 | exact mem5 | exact mem6 | exact mem7) (wh1 (by first | exact mem0 | exact mem1 | exact mem2 | exact mem3 | exact mem4 | exact mem5 | exact mem6 | exact mem7) (wh1 (by first | exact mem0 | exact mem1 | exact mem2 | exact mem3 | exact mem4 | exact mem5 | exact mem6 | exact mem7) wh0))) (by repeat (first | exact ns_nil | refine ns_keep rfl ?_ | refine ns_skip ?_))⟩
    ·
      intro _u hj
      skip
      refine Sat.seq ?_
      -- region 14
      refine Sat.region ?_
      refine Tr.emptySlice rfl rfl Try.underlying27 Sz5 ?_
      intro q0
      refine Tr.move rfl rfl rfl ?_
      refine Tr.appendNil (z := u8 0) (by' := 1) rfl rfl rfl rfl rfl Try.underlying27 Try.underlying27 Sz5 Zr5 (by unfold By; kernel_rfl) rfl rem_here rfl rfl (by omega) (by omega) (by omega) ?_
      intro q1 c1 hq1
      refine Tr.move rfl rfl rfl ?_
      refine Tr.lenSl rfl rfl rfl Try.underlying27 ?_
      refine Tr.sub_i64 rfl rfl rfl rfl (by omega) ?_
      refine Tr.appendMade (z := u8 0) (by' := 1) (m := 64) rfl rfl rfl rfl rfl (by omega) Try.underlying27 Try.underlying3 Sz5 Zr5 (by unfold By; kernel_rfl) rfl rfl rem_here (by omega) (by simp [bytesV]) (by omega) (by omega) (by omega) ?_
      intro q2 c2 hq2
      refine Tr.callV rfl rfl rfl rfl Body21 (scalar_rest q2 0 c2 (0 + 64) (List.replicate 64 0) (by simp) (by omega)) (fun W2 h => by have h9 := sees_own h mem0; rwa [List.nil_append, show List.replicate 64 (u8 0) = bytesV (List.replicate 64 0) by simp [bytesV]] at h9) ?_
      refine Tr.move rfl rfl rfl ?_
      refine Tr.extract rfl rfl rfl rfl ?_
      refine Tr.extract rfl rfl rfl rfl ?_
      refine Tr.alloc (cs := (bytesV (List.replicate 32 0))) rfl Zr47 rfl ?_
      intro n12 hn12 hf12
      first
        | refine Tr.storeAll rfl rfl rfl rfl (by simp [isCell]) Sz47 (by simp [leb_length, words4_length, List.length_replicate, subB_all, padB_all, hz, h256]) (by first | exact mem0 | exact mem1 | exact mem2 | exact mem3 | exact mem4 | exact mem5 | exact mem6 | exact mem7) (by simp [leb_length, words4_length, List.length_replicate, subB_all, padB_all, hz, h256]) (by first | exact upd0 | exact upd1 | exact upd2 | exact upd3 | exact upd4 | exact upd5 | exact upd6 | exact upd7) ?_
        | refine Tr.storeN _ rfl rfl rfl rfl rfl (by simp [isCell]) Sz47 (by simp [leb_length, words4_length, List.length_replicate, subB_all, padB_all, hz, h256]) (by first | exact mem0 | exact mem1 | exact mem2 | exact mem3 | exact mem4 | exact mem5 | exact mem6 | exact mem7) (by simp [leb_length, words4_length, List.length_replicate, subB_all, padB_all, hz, h256]) (by exact rfl) (by first | exact upd0 | exact upd1 | exact upd2 | exact upd3 | exact upd4 | exact upd5 | exact upd6 | exact upd7) ?_
      refine Tr.assign rfl rfl rfl ?_
      refine Tr.nil ?_
      refine at_n ?_
      refine Sat.seq ?_
      -- region 15
      refine Sat.region ?_
      refine Tr.assign rfl rfl rfl ?_
      refine Tr.nil ?_
      refine at_n ?_
      refine Sat.join (ι := Nat) (fun cc => ⟨[(0, .slice none 0 0), (1, i64 (0 : Int)), (5, ptr n5 0), (6, i64 0), (7, ptr n7 0), (8, i64 0), (9, ptr n9 0), (10, i64 0), (12, ptr n12 0), (13, i64 0), (14, i64 (cc : Int))], [⟨n12, bytesV (leb 32 (0 % L)), 47, 32⟩, ⟨n9, bytesV (leb 32 (pw (0) * 0 % L)), 47, 32⟩, ⟨n7, bytesV sz, 47, 32⟩, ⟨n5, bytesV sz, 47, 32⟩]⟩) (fun cc => (cc = 0 ↔ ∀ j, j < 256 → (le sz).testBit j = false)) ?_ ?_
      ·
        refine Sat.seq ?_
        -- region 16
        refine Sat.region ?_
        refine Tr.assign rfl rfl rfl ?_
        refine Tr.nil ?_
        refine at_n ?_
        refine Sat.block ?_
        refine Sat.loop (ι := Nat × Nat) (fun p => ⟨[(0, .slice none 0 0), (1, i64 (0 : Int)), (5, ptr n5 0), (6, i64 0), (7, ptr n7 0), (8, i64 0), (9, ptr n9 0), (10, i64 0), (12, ptr n12 0), (13, i64 0), (14, i64 (p.2 : Int)), (15, i64 (p.1 : Int))], [⟨n12, bytesV (leb 32 (0 % L)), 47, 32⟩, ⟨n9, bytesV (leb 32 (pw (0) * 0 % L)), 47, 32⟩, ⟨n7, bytesV sz, 47, 32⟩, ⟨n5, bytesV sz, 47, 32⟩]⟩) (fun p => p.1 ≤ 256 ∧ p.2 ≤ p.1 ∧ (p.2 = 0 ↔ ∀ j, j < p.1 → (le sz).testBit j = false)) (fun p => 256 - p.1) ((0, 0)) ?_ ?_ ?_
        · exact ⟨by omega, by omega, by simp⟩
        · exact weak_of (wk1 rfl (wk1 rfl (wk1 rfl (wk1 rfl (wk1 rfl (wk1 rfl (wk1 rfl (wk1 rfl (wk1 rfl (wk1 rfl (wk1 rfl (wk1 rfl wk0)))))))))))) (wh1 (by rw [← le_zeros 64]; exact mem0) (wh1 (by first | exact mem0 | exact mem1 | exact mem2 | exact mem3 | exact mem4 | exact mem5 | exact mem6 | exact mem7) (wh1 (by first | exact mem0 | exact mem1 | exact mem2 | exact mem3 | exact mem4 | exact mem5 | exact mem6 | exact mem7) (wh1 (by first | exact mem0 | exact mem1 | exact mem2 | exact mem3 | exact mem4 | exact mem5 | exact mem6 | exact mem7) wh0)))) (by repeat (first | exact ns_nil | refine ns_keep rfl ?_ | refine ns_skip ?_))
        ·
          rintro p ⟨hp1, hp2, hp3⟩
          refine Sat.seq ?_
          refine Sat.seq ?_
          -- region 17
          refine Sat.region ?_
          refine Tr.move rfl rfl rfl ?_
          refine Tr.lss rfl rfl rfl rfl rfl ?_
          refine Tr.nil ?_
          refine at_n ?_
          first
            | refine Sat.condP rfl (fun hc4 => ?_) (fun hc4 => ?_)
            | refine Sat.condNP rfl (fun hc4 => ?_) (fun hc4 => ?_)
            | refine Sat.cond rfl (fun hc4 => ?_) (fun hc4 => ?_)
          ·
            have hk2 : p.1 < 256 := by omega
            refine Sat.skip ?_
            refine at_n ?_
            refine Sat.join (ι := Nat) (fun c9 => ⟨[(0, .slice none 0 0), (1, i64 (0 : Int)), (5, ptr n5 0), (6, i64 0), (7, ptr n7 0), (8, i64 0), (9, ptr n9 0), (10, i64 0), (12, ptr n12 0), (13, i64 0), (14, i64 (c9 : Int)), (15, i64 (p.1 : Int))], [⟨n12, bytesV (leb 32 (0 % L)), 47, 32⟩, ⟨n9, bytesV (leb 32 (pw (0) * 0 % L)), 47, 32⟩, ⟨n7, bytesV sz, 47, 32⟩, ⟨n5, bytesV sz, 47, 32⟩]⟩) (fun c9 => c9 ≤ p.1 + 1 ∧ (c9 = 0 ↔ ∀ j, j < p.1 + 1 → (le sz).testBit j = false)) ?_ ?_
            ·
              refine Sat.block ?_
              refine Sat.seq ?_
              -- region 19
              refine Sat.region ?_
              first
                | refine Tr.loadAll rfl rfl rfl Try.underlying47 rfl Sz47 (by first | exact mem0 | exact mem1 | exact mem2 | exact mem3 | exact mem4 | exact mem5 | exact mem6 | exact mem7) (by simp [leb_length, words4_length, List.length_replicate, subB_all, padB_all, hz, h256]) ?_
                | refine Tr.loadN _ rfl rfl rfl Try.underlying47 rfl Sz47 (by first | exact mem0 | exact mem1 | exact mem2 | exact mem3 | exact mem4 | exact mem5 | exact mem6 | exact mem7) (by exact rfl) (by simp [leb_length, words4_length, List.length_replicate, subB_all, padB_all, hz, h256]) ?_
              refine Tr.move rfl rfl rfl ?_
              refine Tr.callV rfl rfl rfl rfl Body26 (scalar_bit_at sz (by simp [leb_length, words4_length, List.length_replicate, subB_all, padB_all, hz, h256]) p.1 hk2) (fun _ _ => trivial) ?_
              refine Tr.nil ?_
              refine at_n ?_
              refine Sat.cond rfl (fun hc5 => ?_) (fun hc5 => ?_)
              ·
                have hs9 := (cnt_step hp3).1 hc5
                -- region 20
                refine Sat.region ?_
                refine Tr.move rfl rfl rfl ?_
                refine Tr.add_i64 rfl rfl rfl rfl (by omega) ?_
                refine Tr.assign rfl rfl rfl ?_
                refine Tr.nil ?_
                refine bl_n ?_
                refine at_n ?_
                first
                  | exact ⟨p.2 + 1, ⟨by omega, hs9⟩, weak_of (wk1 rfl (wk1 rfl (wk1 rfl (wk1 rfl (wk1 rfl (wk1 rfl (wk1 rfl (wk1 rfl (wk1 rfl (wk1 rfl (wk1 rfl (wk1 rfl wk0)))))))))))) (wh1 (by first | exact mem0 | exact mem1 | exact mem2 | exact mem3 | exact mem4 | exact mem5 | exact mem6 | exact mem7) (wh1 (by first | exact mem0 | exact mem1 | exact mem2 | exact mem3 | exact mem4 | exact mem5 | exact mem6 | exact mem7) (wh1 (by first | exact mem0 | exact mem1 | exact mem2 | exact mem3 | exact mem4 | exact mem5 | exact mem6 | exact mem7) (wh1 (by first | exact mem0 | exact mem1 | exact mem2 | exact mem3 | exact mem4 | exact mem5 | exact mem6 | exact mem7) wh0)))) (by repeat (first | exact ns_nil | refine ns_keep rfl ?_ | refine ns_skip ?_))⟩
                  | exact ⟨p.2, ⟨by omega, hs9⟩, weak_of (wk1 rfl (wk1 rfl (wk1 rfl (wk1 rfl (wk1 rfl (wk1 rfl (wk1 rfl (wk1 rfl (wk1 rfl (wk1 rfl (wk1 rfl (wk1 rfl wk0)))))))))))) (wh1 (by first | exact mem0 | exact mem1 | exact mem2 | exact mem3 | exact mem4 | exact mem5 | exact mem6 | exact mem7) (wh1 (by first | exact mem0 | exact mem1 | exact mem2 | exact mem3 | exact mem4 | exact mem5 | exact mem6 | exact mem7) (wh1 (by first | exact mem0 | exact mem1 | exact mem2 | exact mem3 | exact mem4 | exact mem5 | exact mem6 | exact mem7) (wh1 (by first | exact mem0 | exact mem1 | exact mem2 | exact mem3 | exact mem4 | exact mem5 | exact mem6 | exact mem7) wh0)))) (by repeat (first | exact ns_nil | refine ns_keep rfl ?_ | refine ns_skip ?_))⟩
              ·
                have hs9 := (cnt_step hp3).2 hc5
                refine Sat.skip ?_
                refine bl_n ?_
                refine at_n ?_
                first
                  | exact ⟨p.2 + 1, ⟨by omega, hs9⟩, weak_of (wk1 rfl (wk1 rfl (wk1 rfl (wk1 rfl (wk1 rfl (wk1 rfl (wk1 rfl (wk1 rfl (wk1 rfl (wk1 rfl (wk1 rfl (wk1 rfl wk0)))))))))))) (wh1 (by first | exact mem0 | exact mem1 | exact mem2 | exact mem3 | exact mem4 | exact mem5 | exact mem6 | exact mem7) (wh1 (by first | exact mem0 | exact mem1 | exact mem2 | exact mem3 | exact mem4 | exact mem5 | exact mem6 | exact mem7) (wh1 (by first | exact mem0 | exact mem1 | exact mem2 | exact mem3 | exact mem4 | exact mem5 | exact mem6 | exact mem7) (wh1 (by first | exact mem0 | exact mem1 | exact mem2 | exact mem3 | exact mem4 | exact mem5 | exact mem6 | exact mem7) wh0)))) (by repeat (first | exact ns_nil | refine ns_keep rfl ?_ | refine ns_skip ?_))⟩
                  | exact ⟨p.2, ⟨by omega, hs9⟩, weak_of (wk1 rfl (wk1 rfl (wk1 rfl (wk1 rfl (wk1 rfl (wk1 rfl (wk1 rfl (wk1 rfl (wk1 rfl (wk1 rfl (wk1 rfl (wk1 rfl wk0)))))))))))) (wh1 (by first | exact mem0 | exact mem1 | exact mem2 | exact mem3 | exact mem4 | exact mem5 | exact mem6 | exact mem7) (wh1 (by first | exact mem0 | exact mem1 | exact mem2 | exact mem3 | exact mem4 | exact mem5 | exact mem6 | exact mem7) (wh1 (by first | exact mem0 | exact mem1 | exact mem2 | exact mem3 | exact mem4 | exact mem5 | exact mem6 | exact mem7) (wh1 (by first | exact mem0 | exact mem1 | exact mem2 | exact mem3 | exact mem4 | exact mem5 | exact mem6 | exact mem7) wh0)))) (by repeat (first | exact ns_nil | refine ns_keep rfl ?_ | refine ns_skip ?_))⟩
            ·
              intro c9 hj
              obtain ⟨hc9, hi9⟩ := hj
              -- region 18
              refine Sat.region ?_
              refine Tr.move rfl rfl rfl ?_
              refine Tr.add_i64 rfl rfl rfl rfl (by omega) ?_
              refine Tr.assign rfl rfl rfl ?_
              refine Tr.nil ?_
              refine at_n ?_
              exact ⟨(p.1 + 1, c9), ⟨by omega, by omega, hi9⟩, by simp only []; omega, weak_of (wk1 rfl (wk1 rfl (wk1 rfl (wk1 rfl (wk1 rfl (wk1 rfl (wk1 rfl (wk1 rfl (wk1 rfl (wk1 rfl (wk1 rfl (wk1 rfl wk0)))))))))))) (wh1 (by first | exact mem0 | exact mem1 | exact mem2 | exact mem3 | exact mem4 | exact mem5 | exact mem6 | exact mem7) (wh1 (by first | exact mem0 | exact mem1 | exact mem2 | exact mem3 | exact mem4 | exact mem5 | exact mem6 | exact mem7) (wh1 (by first | exact mem0 | exact mem1 | exact mem2 | exact mem3 | exact mem4 | exact mem5 | exact mem6 | exact mem7) (wh1 (by first | exact mem0 | exact mem1 | exact mem2 | exact mem3 | exact mem4 | exact mem5 | exact mem6 | exact mem7) wh0)))) (by repeat (first | exact ns_nil | refine ns_keep rfl ?_ | refine ns_skip ?_))⟩
          ·
            have e256b : p.1 = 256 := by omega
            rw [e256b] at hp3
            refine Sat.exit ?_
            refine at_x ?_
            refine at_x ?_
            refine bl_h ?_
            refine at_n ?_
            refine ⟨p.2, hp3, weak_of (wk1 rfl (wk1 rfl (wk1 rfl (wk1 rfl (wk1 rfl (wk1 rfl (wk1 rfl (wk1 rfl (wk1 rfl (wk1 rfl (wk1 rfl wk0))))))))))) (wh1 (by first | exact mem0 | exact mem1 | exact mem2 | exact mem3 | exact mem4 | exact mem5 | exact mem6 | exact mem7) (wh1 (by first | exact mem0 | exact mem1 | exact mem2 | exact mem3 | exact mem4 | exact mem5 | exact mem6 | exact mem7) (wh1 (by first | exact mem0 | exact mem1 | exact mem2 | exact mem3 | exact mem4 | exact mem5 | exact mem6 | exact mem7) (wh1 (by first | exact mem0 | exact mem1 | exact mem2 | exact mem3 | exact mem4 | exact mem5 | exact mem6 | exact mem7) wh0)))) (by repeat (first | exact ns_nil | refine ns_keep rfl ?_ | refine ns_skip ?_))⟩
      ·
        intro cc hj
        have hcnt := hj
        refine Sat.seq ?_
        -- region 21
        refine Sat.draw [(0, 0), (0, 1), (0, 2), (0, 3), (0, 4), (0, 5), (0, 6), (0, 7), (0, 8), (0, 9), (0, 10), (0, 11), (0, 12), (0, 13), (0, 14), (1, 15), (1, 16), (1, 17), (3, 18), (0, 19), (0, 20), (0, 21), (1, 22), (1, 23), (0, 24), (0, 25), (0, 26), (0, 27), (0, 28), (1, 29), (0, 30), (0, 31), (0, 32), (0, 33), (0, 34)] Mixed (by kernel_rfl) ?_
        refine Tr.move rfl rfl rfl ?_
        refine Tr.eqi rfl rfl rfl rfl (decide_eq_true (rfl)) ?_
        refine Tr.move rfl rfl rfl ?_
        refine Tr.move rfl rfl rfl ?_
        refine Tr.eqi rfl rfl rfl rfl (decide_eq_true (rfl)) ?_
        refine Tr.pick rfl rfl rfl rfl rfl rfl ?_
        refine Tr.move rfl rfl rfl ?_
        refine Tr.move rfl rfl rfl ?_
        refine Tr.eqi rfl rfl rfl rfl (decide_eq_true (rfl)) ?_
        refine Tr.pick rfl rfl rfl rfl rfl rfl ?_
        refine Tr.move rfl rfl rfl ?_
        refine Tr.move rfl rfl rfl ?_
        refine Tr.eqi rfl rfl rfl rfl (decide_eq_true (rfl)) ?_
        refine Tr.pick rfl rfl rfl rfl rfl rfl ?_
        refine Tr.move rfl rfl rfl ?_
        first
          | refine Tr.loadAll rfl rfl rfl Try.underlying47 rfl Sz47 (by first | exact mem0 | exact mem1 | exact mem2 | exact mem3 | exact mem4 | exact mem5 | exact mem6 | exact mem7) (by simp [leb_length, words4_length, List.length_replicate, subB_all, padB_all, hz, h256]) ?_
          | refine Tr.loadN _ rfl rfl rfl Try.underlying47 rfl Sz47 (by first | exact mem0 | exact mem1 | exact mem2 | exact mem3 | exact mem4 | exact mem5 | exact mem6 | exact mem7) (by exact rfl) (by simp [leb_length, words4_length, List.length_replicate, subB_all, padB_all, hz, h256]) ?_
        first
          | refine Tr.loadAll rfl rfl rfl Try.underlying47 rfl Sz47 (by first | exact mem0 | exact mem1 | exact mem2 | exact mem3 | exact mem4 | exact mem5 | exact mem6 | exact mem7) (by simp [leb_length, words4_length, List.length_replicate, subB_all, padB_all, hz, h256]) ?_
          | refine Tr.loadN _ rfl rfl rfl Try.underlying47 rfl Sz47 (by first | exact mem0 | exact mem1 | exact mem2 | exact mem3 | exact mem4 | exact mem5 | exact mem6 | exact mem7) (by exact rfl) (by simp [leb_length, words4_length, List.length_replicate, subB_all, padB_all, hz, h256]) ?_
        first
          | refine Tr.loadAll rfl rfl rfl Try.underlying47 rfl Sz47 (by first | exact mem0 | exact mem1 | exact mem2 | exact mem3 | exact mem4 | exact mem5 | exact mem6 | exact mem7) (by simp [leb_length, words4_length, List.length_replicate, subB_all, padB_all, hz, h256]) ?_
          | refine Tr.loadN _ rfl rfl rfl Try.underlying47 rfl Sz47 (by first | exact mem0 | exact mem1 | exact mem2 | exact mem3 | exact mem4 | exact mem5 | exact mem6 | exact mem7) (by exact rfl) (by simp [leb_length, words4_length, List.length_replicate, subB_all, padB_all, hz, h256]) ?_
        refine Tr.callV rfl rfl rfl rfl Body28 (scalar_add _ _ (by simp [leb_length, words4_length, List.length_replicate, subB_all, padB_all, hz, h256]) (by simp [leb_length, words4_length, List.length_replicate, subB_all, padB_all, hz, h256])) (fun _ _ => trivial) ?_
        refine Tr.eql_bytes rfl rfl rfl rfl Try.eqGuardType47 Try.underlying47 Try.underlying5 Sz5 (by simp [leb_length, words4_length, List.length_replicate, subB_all, padB_all, hz, h256]) (by simp [leb_length, words4_length, List.length_replicate, subB_all, padB_all, hz, h256]) (decide_eq_true (by rw [Nat.mul_zero, zero_modL, ← ez]; rw [ez, le_leb32 (by decide)]; decide)) ?_
        refine Tr.pick rfl rfl rfl rfl rfl rfl ?_
        refine Tr.move rfl rfl rfl ?_
        first
          | refine Tr.loadAll rfl rfl rfl Try.underlying47 rfl Sz47 (by first | exact mem0 | exact mem1 | exact mem2 | exact mem3 | exact mem4 | exact mem5 | exact mem6 | exact mem7) (by simp [leb_length, words4_length, List.length_replicate, subB_all, padB_all, hz, h256]) ?_
          | refine Tr.loadN _ rfl rfl rfl Try.underlying47 rfl Sz47 (by first | exact mem0 | exact mem1 | exact mem2 | exact mem3 | exact mem4 | exact mem5 | exact mem6 | exact mem7) (by exact rfl) (by simp [leb_length, words4_length, List.length_replicate, subB_all, padB_all, hz, h256]) ?_
        first
          | refine Tr.loadAll rfl rfl rfl Try.underlying47 rfl Sz47 (by first | exact mem0 | exact mem1 | exact mem2 | exact mem3 | exact mem4 | exact mem5 | exact mem6 | exact mem7) (by simp [leb_length, words4_length, List.length_replicate, subB_all, padB_all, hz, h256]) ?_
          | refine Tr.loadN _ rfl rfl rfl Try.underlying47 rfl Sz47 (by first | exact mem0 | exact mem1 | exact mem2 | exact mem3 | exact mem4 | exact mem5 | exact mem6 | exact mem7) (by exact rfl) (by simp [leb_length, words4_length, List.length_replicate, subB_all, padB_all, hz, h256]) ?_
        refine Tr.eql_bytes rfl rfl rfl rfl Try.eqGuardType47 Try.underlying47 Try.underlying5 Sz5 (by simp [leb_length, words4_length, List.length_replicate, subB_all, padB_all, hz, h256]) (by simp [leb_length, words4_length, List.length_replicate, subB_all, padB_all, hz, h256]) (decide_eq_true (by (try rw [zero_modL]); (try rw [ez]))) ?_
        refine Tr.pick rfl rfl rfl rfl rfl rfl ?_
        refine Tr.move rfl rfl rfl ?_
        refine Tr.move rfl rfl rfl ?_
        refine Tr.eqi rfl rfl rfl rfl rfl ?_
        first
          | refine Tr.loadAll rfl rfl rfl Try.underlying47 rfl Sz47 (by first | exact mem0 | exact mem1 | exact mem2 | exact mem3 | exact mem4 | exact mem5 | exact mem6 | exact mem7) (by simp [leb_length, words4_length, List.length_replicate, subB_all, padB_all, hz, h256]) ?_
          | refine Tr.loadN _ rfl rfl rfl Try.underlying47 rfl Sz47 (by first | exact mem0 | exact mem1 | exact mem2 | exact mem3 | exact mem4 | exact mem5 | exact mem6 | exact mem7) (by exact rfl) (by simp [leb_length, words4_length, List.length_replicate, subB_all, padB_all, hz, h256]) ?_
        refine Tr.build (cs := bytesV (List.replicate 32 0)) rfl rfl rfl (fun w => by kernel_rfl) ?_
        refine Tr.eql_bytes rfl rfl rfl rfl Try.eqGuardType47 Try.underlying47 Try.underlying5 Sz5 (by simp [leb_length, words4_length, List.length_replicate, subB_all, padB_all, hz, h256]) (by simp [leb_length, words4_length, List.length_replicate, subB_all, padB_all, hz, h256]) rfl ?_
        refine Tr.eqb (r := true) rfl rfl rfl rfl Try.underlying4 (by rw [ez]; rw [ez] at hcnt; exact cnt_zero cc 0 (by decide) (by rw [le_leb32 (by decide)] at hcnt; exact hcnt)) ?_
        refine Tr.pick rfl rfl rfl rfl rfl rfl ?_
        refine Tr.assign rfl rfl rfl ?_
        refine Tr.nil ?_
        refine at_n ?_
        refine Sat.ret ?_
        refine en_r ?_
        refine ⟨_, [], res_tmp rfl rfl, (by simp), (by simp), ?_, rfl⟩
        rfl

set_option maxRecDepth 100000 in
set_option maxHeartbeats 1000000 in
theorem law_rests_long (b o c n : Nat) (hn : 64 < n) (t : Int) : Meets Try.prog 7 [.slice (some ⟨b, o, none⟩) n c, i64 t] [] (fun _ => True) (fun v out => v = .bool true ∧ out = []) := by
  intro W hW
  refine calls_of (hp0 := []) Try.func7 rfl 113 Try.ntmps7 rfl (HRep.nil _) ?_
  refine Sat.seq ?_
  -- region 0
  refine Sat.region ?_
  refine Tr.assign rfl rfl rfl ?_
  refine Tr.nil ?_
  refine at_n ?_
  refine Sat.seq ?_
  refine Sat.seq ?_
  -- region 1
  refine Sat.region ?_
  refine Tr.callV rfl rfl rfl rfl Body22 (law_lives) (fun _ _ => trivial) ?_
  refine Tr.not rfl rfl rfl ?_
  refine Tr.nil ?_
  refine at_n ?_
  refine Sat.cond_f rfl (rfl) ?_
  refine Sat.skip ?_
  refine at_n ?_
  refine Sat.seq ?_
  refine Sat.seq ?_
  -- region 3
  refine Sat.region ?_
  refine Tr.move rfl rfl rfl ?_
  refine Tr.lenSl rfl rfl rfl Try.underlying27 ?_
  refine Tr.gtr rfl rfl rfl rfl (decide_eq_true (by omega)) ?_
  refine Tr.nil ?_
  refine at_n ?_
  refine Sat.cond_t rfl (rfl) ?_
  refine Sat.seq ?_
  -- region 4
  refine Sat.region ?_
  refine Tr.assign rfl rfl rfl ?_
  refine Tr.nil ?_
  refine at_n ?_
  refine Sat.ret ?_
  refine at_r ?_
  refine en_r ?_
  refine ⟨_, [], res_tmp rfl rfl, (by simp), (by simp), ?_, rfl⟩
  rfl

end Go.Proofs.Ytjeggfgbcafenaa
