/- Contracts of the reference scalars: Mul, MulAdd, Neg. Conditions: the lengths of arrays. -/
import Derived.Test.YtjeggfgbcafenaaLaw04
import Derived.Test.YtjeggfgbcafenaaMDef
namespace Go.Proofs.Ytjeggfgbcafenaa
open Go Hw
set_option linter.unusedVariables false
set_option linter.unusedSimpArgs false

set_option maxRecDepth 100000 in
set_option maxHeartbeats 4000000 in
theorem ref_mul (a b : List UInt8) (ha : a.length = 32) (hb : b.length = 32) : Meets Try.prog 33 [agg (bytesV a), agg (bytesV b)] [] (fun _ => True) (fun v out => v = agg (bytesV (leb 32 (le a * le b % L))) ∧ out = []) := by
  intro W hW
  refine calls_of (hp0 := []) Try.func33 rfl 58 Try.ntmps33 rfl (HRep.nil _) ?_
  refine Sat.seq ?_
  -- region 0
  refine Sat.region ?_
  refine Tr.boxA rfl rfl ?_
  intro n2 hn2 hf2
  refine Tr.boxA rfl rfl ?_
  intro n3 hn3 hf3
  refine Tr.alloc (cs := (bytesV (List.replicate 32 0))) rfl Zr47 rfl ?_
  intro n4 hn4 hf4
  refine Tr.nil ?_
  refine at_n ?_
  refine Sat.seq ?_
  -- region 1
  refine Sat.region ?_
  refine Tr.alloc (cs := (intsV (List.replicate 64 0))) rfl Zr86 rfl ?_
  intro n5 hn5 hf5
  refine Tr.nil ?_
  refine at_n ?_
  refine Sat.join (ι := Unit) (fun _u => ⟨[(2, ptr n2 0), (3, ptr n3 0), (4, ptr n4 0), (5, ptr n5 0)], [⟨n5, natsV (out a b 32), 86, 64⟩, ⟨n4, bytesV (List.replicate 32 0), 47, 32⟩]⟩) (fun _u => True) ?_ ?_
  ·
    refine Sat.seq ?_
    -- region 2
    refine Sat.region ?_
    refine Tr.assign rfl rfl rfl ?_
    refine Tr.nil ?_
    refine at_n ?_
    refine Sat.block ?_
    refine Sat.loop (ι := Nat) (fun p => ⟨[(2, ptr n2 0), (3, ptr n3 0), (4, ptr n4 0), (5, ptr n5 0), (6, i64 (p : Int))], [⟨n5, natsV (out a b p), 86, 64⟩, ⟨n4, bytesV (List.replicate 32 0), 47, 32⟩, ⟨n3, bytesV b, 47, (bytesV b).length⟩, ⟨n2, bytesV a, 47, (bytesV a).length⟩]⟩) (fun p => p ≤ 32) (fun p => 32 - p) (0) ?_ ?_ ?_
    · omega
    · exact weak_of (wk1 rfl (wk1 rfl (wk1 rfl (wk1 rfl (wk1 rfl wk0))))) (wh1 (by rw [out, natsV_zeros]; exact mem0) (wh1 (by first | exact mem0 | exact mem1 | exact mem2 | exact mem3 | exact mem4 | exact mem5 | exact mem6 | exact mem7) (wh1 (by first | exact mem0 | exact mem1 | exact mem2 | exact mem3 | exact mem4 | exact mem5 | exact mem6 | exact mem7) (wh1 (by first | exact mem0 | exact mem1 | exact mem2 | exact mem3 | exact mem4 | exact mem5 | exact mem6 | exact mem7) wh0)))) (by repeat (first | exact ns_nil | refine ns_keep rfl ?_ | refine ns_skip ?_))
    ·
      rintro p hp
      refine Sat.seq ?_
      refine Sat.seq ?_
      -- region 3
      refine Sat.region ?_
      refine Tr.move rfl rfl rfl ?_
      refine Tr.lss rfl rfl rfl rfl rfl ?_
      refine Tr.nil ?_
      refine at_n ?_
      first
        | refine Sat.condP rfl (fun hc0 => ?_) (fun hc0 => ?_)
        | refine Sat.condNP rfl (fun hc0 => ?_) (fun hc0 => ?_)
        | refine Sat.cond rfl (fun hc0 => ?_) (fun hc0 => ?_)
      ·
        have hp2 : p < 32 := by omega
        refine Sat.skip ?_
        refine at_n ?_
        refine Sat.seq ?_
        refine Sat.block ?_
        refine Sat.seq ?_
        -- region 5
        refine Sat.region ?_
        refine Tr.assign rfl rfl rfl ?_
        refine Tr.nil ?_
        refine at_n ?_
        refine Sat.block ?_
        refine Sat.loop (ι := Nat) (fun q => ⟨[(2, ptr n2 0), (3, ptr n3 0), (4, ptr n4 0), (5, ptr n5 0), (6, i64 (p : Int)), (7, i64 (q : Int))], [⟨n5, natsV (inn a b p (out a b p) q), 86, 64⟩, ⟨n4, bytesV (List.replicate 32 0), 47, 32⟩, ⟨n3, bytesV b, 47, (bytesV b).length⟩, ⟨n2, bytesV a, 47, (bytesV a).length⟩]⟩) (fun q => q ≤ 32) (fun q => 32 - q) (0) ?_ ?_ ?_
        · omega
        · exact weak_of (wk1 rfl (wk1 rfl (wk1 rfl (wk1 rfl (wk1 rfl (wk1 rfl wk0)))))) (wh1 (by first | exact mem0 | exact mem1 | exact mem2 | exact mem3 | exact mem4 | exact mem5 | exact mem6 | exact mem7) (wh1 (by first | exact mem0 | exact mem1 | exact mem2 | exact mem3 | exact mem4 | exact mem5 | exact mem6 | exact mem7) (wh1 (by first | exact mem0 | exact mem1 | exact mem2 | exact mem3 | exact mem4 | exact mem5 | exact mem6 | exact mem7) (wh1 (by first | exact mem0 | exact mem1 | exact mem2 | exact mem3 | exact mem4 | exact mem5 | exact mem6 | exact mem7) wh0)))) (by repeat (first | exact ns_nil | refine ns_keep rfl ?_ | refine ns_skip ?_))
        ·
          rintro q hq
          refine Sat.seq ?_
          refine Sat.seq ?_
          -- region 6
          refine Sat.region ?_
          refine Tr.move rfl rfl rfl ?_
          refine Tr.lss rfl rfl rfl rfl rfl ?_
          refine Tr.nil ?_
          refine at_n ?_
          first
            | refine Sat.condP rfl (fun hc1 => ?_) (fun hc1 => ?_)
            | refine Sat.condNP rfl (fun hc1 => ?_) (fun hc1 => ?_)
            | refine Sat.cond rfl (fun hc1 => ?_) (fun hc1 => ?_)
          ·
            have hq2 : q < 32 := by omega
            obtain ⟨hm0, hm1⟩ := natCast_mul_le (a.getD p 0).toNat_lt (b.getD q 0).toNat_lt
            have hcl : (inn a b p (out a b p) q).getD (p + q) 0 ≤ 2080800 * p + 65025 * q := inn_le a b p _ _ (out_le a b p) q (p + q)
            refine Sat.skip ?_
            refine at_n ?_
            refine Sat.seq ?_
            refine Sat.block ?_
            -- region 8
            refine Sat.draw [(0, 0), (0, 1), (0, 2), (0, 3), (0, 4), (0, 5), (0, 6), (1, 7), (0, 8), (0, 9), (1, 10), (0, 11), (0, 12), (0, 13), (1, 14), (0, 15), (0, 16), (0, 17), (0, 18), (4, 19)] Mixed (by kernel_rfl) ?_
            refine Tr.move rfl rfl rfl ?_
            refine Tr.move rfl rfl rfl ?_
            refine Tr.add_i64 rfl rfl rfl rfl (by omega) ?_
            refine Tr.move rfl rfl rfl ?_
            refine Tr.move rfl rfl rfl ?_
            refine Tr.add_i64 rfl rfl rfl rfl (by omega) ?_
            first
              | refine Tr.idxArr1 rfl rfl rfl rfl Try.underlying86 Sz3 (p + q) (by omega) (by omega) ?_
              | refine Tr.idxArrO rfl rfl rfl rfl Try.underlying86 Sz3 (p + q) (by omega) (by omega) ?_
            refine Tr.load1 rfl rfl rfl Try.underlying3 rfl (by first | exact mem0 | exact mem1 | exact mem2 | exact mem3 | exact mem4 | exact mem5 | exact mem6 | exact mem7) (get_nats (by simp [leb_length, words4_length, List.length_replicate, subB_all, padB_all, natsV_length, inn_length, out_length, ha, hb]; omega)) ?_
            refine Tr.move rfl rfl rfl ?_
            first
              | refine Tr.idxArr1 rfl rfl rfl rfl Try.underlying47 Sz5 _ rfl (by omega) ?_
              | refine Tr.idxArrO rfl rfl rfl rfl Try.underlying47 Sz5 _ rfl (by omega) ?_
              | refine Tr.idxArr1 rfl rfl rfl rfl Try.underlying47 Sz5 _ (toNat_back (by omega)) (by omega) ?_
              | refine Tr.idxArrO rfl rfl rfl rfl Try.underlying47 Sz5 _ (toNat_back (by omega)) (by omega) ?_
            refine Tr.load1 rfl rfl rfl Try.underlying5 rfl (by first | exact mem0 | exact mem1 | exact mem2 | exact mem3 | exact mem4 | exact mem5 | exact mem6 | exact mem7) (by first | rfl | exact get_words (by first | omega | (simp [leb_length, words4_length, List.length_replicate, subB_all, padB_all, natsV_length, inn_length, out_length, ha, hb]; done) | (simp [leb_length, words4_length, List.length_replicate, subB_all, padB_all, natsV_length, inn_length, out_length, ha, hb]; omega)) | exact get_bytes (by first | omega | (simp [leb_length, words4_length, List.length_replicate, subB_all, padB_all, natsV_length, inn_length, out_length, ha, hb]; done) | (simp [leb_length, words4_length, List.length_replicate, subB_all, padB_all, natsV_length, inn_length, out_length, ha, hb]; omega)) | exact get_ints (by first | omega | (simp [leb_length, words4_length, List.length_replicate, subB_all, padB_all, natsV_length, inn_length, out_length, ha, hb]; done) | (simp [leb_length, words4_length, List.length_replicate, subB_all, padB_all, natsV_length, inn_length, out_length, ha, hb]; omega))) ?_
            refine Tr.conv rfl rfl rfl Try.underlying5 Try.underlying3 (cv_u8_i64 _) ?_
            refine Tr.move rfl rfl rfl ?_
            first
              | refine Tr.idxArr1 rfl rfl rfl rfl Try.underlying47 Sz5 _ rfl (by omega) ?_
              | refine Tr.idxArrO rfl rfl rfl rfl Try.underlying47 Sz5 _ rfl (by omega) ?_
              | refine Tr.idxArr1 rfl rfl rfl rfl Try.underlying47 Sz5 _ (toNat_back (by omega)) (by omega) ?_
              | refine Tr.idxArrO rfl rfl rfl rfl Try.underlying47 Sz5 _ (toNat_back (by omega)) (by omega) ?_
            refine Tr.load1 rfl rfl rfl Try.underlying5 rfl (by first | exact mem0 | exact mem1 | exact mem2 | exact mem3 | exact mem4 | exact mem5 | exact mem6 | exact mem7) (by first | rfl | exact get_words (by first | omega | (simp [leb_length, words4_length, List.length_replicate, subB_all, padB_all, natsV_length, inn_length, out_length, ha, hb]; done) | (simp [leb_length, words4_length, List.length_replicate, subB_all, padB_all, natsV_length, inn_length, out_length, ha, hb]; omega)) | exact get_bytes (by first | omega | (simp [leb_length, words4_length, List.length_replicate, subB_all, padB_all, natsV_length, inn_length, out_length, ha, hb]; done) | (simp [leb_length, words4_length, List.length_replicate, subB_all, padB_all, natsV_length, inn_length, out_length, ha, hb]; omega)) | exact get_ints (by first | omega | (simp [leb_length, words4_length, List.length_replicate, subB_all, padB_all, natsV_length, inn_length, out_length, ha, hb]; done) | (simp [leb_length, words4_length, List.length_replicate, subB_all, padB_all, natsV_length, inn_length, out_length, ha, hb]; omega))) ?_
            refine Tr.conv rfl rfl rfl Try.underlying5 Try.underlying3 (cv_u8_i64 _) ?_
            refine Tr.mul_i64 rfl rfl rfl rfl (by omega) ?_
            refine Tr.add_i64 rfl rfl rfl rfl (by omega) ?_
            first
              | refine Tr.idxArr1 rfl rfl rfl rfl Try.underlying86 Sz3 (p + q) (by omega) (by omega) ?_
              | refine Tr.idxArrO rfl rfl rfl rfl Try.underlying86 Sz3 (p + q) (by omega) (by omega) ?_
            refine Tr.store1 rfl rfl rfl rfl rfl Sz3 (by first | exact mem0 | exact mem1 | exact mem2 | exact mem3 | exact mem4 | exact mem5 | exact mem6 | exact mem7) (by first | (simp [leb_length, words4_length, List.length_replicate, subB_all, padB_all, natsV_length, inn_length, out_length, ha, hb]; done) | (simp [leb_length, words4_length, List.length_replicate, subB_all, padB_all, natsV_length, inn_length, out_length, ha, hb]; omega)) (by first | exact set_words _ _ _ | exact set_bytes _ _ _ | exact set_ints _ _ _ | rfl) (by first | exact upd0 | exact upd1 | exact upd2 | exact upd3 | exact upd4 | exact upd5 | exact upd6 | exact upd7) ?_
            refine Tr.nil ?_
            refine bl_n ?_
            refine at_n ?_
            -- region 7
            refine Sat.region ?_
            refine Tr.move rfl rfl rfl ?_
            refine Tr.add_i64 rfl rfl rfl rfl (by omega) ?_
            refine Tr.assign rfl rfl rfl ?_
            refine Tr.nil ?_
            refine at_n ?_
            exact ⟨q + 1, by omega, by omega, weak_of (wk1 rfl (wk1 rfl (wk1 rfl (wk1 rfl (wk1 rfl (wk1 rfl wk0)))))) (wh1 (by rw [inn, addC_set]; exact mem0) (wh1 (by first | exact mem0 | exact mem1 | exact mem2 | exact mem3 | exact mem4 | exact mem5 | exact mem6 | exact mem7) (wh1 (by first | exact mem0 | exact mem1 | exact mem2 | exact mem3 | exact mem4 | exact mem5 | exact mem6 | exact mem7) (wh1 (by first | exact mem0 | exact mem1 | exact mem2 | exact mem3 | exact mem4 | exact mem5 | exact mem6 | exact mem7) wh0)))) (by repeat (first | exact ns_nil | refine ns_keep rfl ?_ | refine ns_skip ?_))⟩
          ·
            obtain rfl : q = 32 := by omega
            refine Sat.exit ?_
            refine at_x ?_
            refine at_x ?_
            refine bl_h ?_
            refine bl_n ?_
            refine at_n ?_
            -- region 4
            refine Sat.region ?_
            refine Tr.move rfl rfl rfl ?_
            refine Tr.add_i64 rfl rfl rfl rfl (by omega) ?_
            refine Tr.assign rfl rfl rfl ?_
            refine Tr.nil ?_
            refine at_n ?_
            exact ⟨p + 1, by omega, by omega, weak_of (wk1 rfl (wk1 rfl (wk1 rfl (wk1 rfl (wk1 rfl wk0))))) (wh1 (by first | exact mem0 | exact mem1 | exact mem2 | exact mem3 | exact mem4 | exact mem5 | exact mem6 | exact mem7) (wh1 (by first | exact mem0 | exact mem1 | exact mem2 | exact mem3 | exact mem4 | exact mem5 | exact mem6 | exact mem7) (wh1 (by first | exact mem0 | exact mem1 | exact mem2 | exact mem3 | exact mem4 | exact mem5 | exact mem6 | exact mem7) (wh1 (by first | exact mem0 | exact mem1 | exact mem2 | exact mem3 | exact mem4 | exact mem5 | exact mem6 | exact mem7) wh0)))) (by repeat (first | exact ns_nil | refine ns_keep rfl ?_ | refine ns_skip ?_))⟩
      ·
        obtain rfl : p = 32 := by omega
        refine Sat.exit ?_
        refine at_x ?_
        refine at_x ?_
        refine bl_h ?_
        refine at_n ?_
        refine ⟨(), trivial, weak_of (wk1 rfl (wk1 rfl (wk1 rfl (wk1 rfl wk0)))) (wh1 (by first | exact mem0 | exact mem1 | exact mem2 | exact mem3 | exact mem4 | exact mem5 | exact mem6 | exact mem7) (wh1 (by first | exact mem0 | exact mem1 | exact mem2 | exact mem3 | exact mem4 | exact mem5 | exact mem6 | exact mem7) wh0)) (by repeat (first | exact ns_nil | refine ns_keep rfl ?_ | refine ns_skip ?_))⟩
  ·
    intro _u hj
    skip
    refine Sat.seq ?_
    -- region 9
    refine Sat.region ?_
    refine Tr.mkSlice (z := u8 0) (by' := 1) 64 rfl rfl rfl rfl Try.underlying27 Sz5 Zr5 (by unfold By; kernel_rfl) rfl (by omega) (by omega) (by omega) ?_
    intro n38
    refine Tr.assign rfl rfl rfl ?_
    refine Tr.nil ?_
    refine at_n ?_
    refine Sat.seq ?_
    -- region 10
    refine Sat.region ?_
    refine Tr.assign rfl rfl rfl ?_
    refine Tr.nil ?_
    refine at_n ?_
    refine Sat.join (ι := Unit) (fun _u => ⟨[(4, ptr n4 0), (8, .slice (some ⟨n38, 0, none⟩) 64 64)], [⟨n38, bytesV (leb 64 (le a * le b)), 5, 64⟩, ⟨n4, bytesV (List.replicate 32 0), 47, 32⟩]⟩) (fun _u => True) ?_ ?_
    ·
      refine Sat.seq ?_
      -- region 11
      refine Sat.region ?_
      refine Tr.assign rfl rfl rfl ?_
      refine Tr.nil ?_
      refine at_n ?_
      refine Sat.block ?_
      refine Sat.loop (ι := Nat) (fun k => ⟨[(4, ptr n4 0), (5, ptr n5 0), (8, .slice (some ⟨n38, 0, none⟩) 64 64), (9, i64 ((ev ((out a b 32).take k) / 256 ^ k : Nat) : Int)), (10, i64 (k : Int))], [⟨n38, bytesV (padB 64 (ev ((out a b 32).take k)) k), 5, 64⟩, ⟨n5, natsV (out a b 32), 86, 64⟩, ⟨n4, bytesV (List.replicate 32 0), 47, 32⟩]⟩) (fun k => k ≤ 64) (fun k => 64 - k) (0) ?_ ?_ ?_
      · omega
      · exact weak_of (wk1 rfl (wk1 rfl (wk1 rfl (wk1 (by rw [List.take_zero]; rfl) (wk1 rfl wk0))))) (wh1 (by rw [padB_zero]; exact mem0) (wh1 (by first | exact mem0 | exact mem1 | exact mem2 | exact mem3 | exact mem4 | exact mem5 | exact mem6 | exact mem7) (wh1 (by first | exact mem0 | exact mem1 | exact mem2 | exact mem3 | exact mem4 | exact mem5 | exact mem6 | exact mem7) wh0))) (by repeat (first | exact ns_nil | refine ns_keep rfl ?_ | refine ns_skip ?_))
      ·
        rintro k hk
        have hpl := padB_length 64 (ev ((out a b 32).take k)) k hk
        have hcb := ev_take_le (out a b 32) _ (out_le a b 32) k
        have hcn : (0 : Int) ≤ ((ev ((out a b 32).take k) / 256 ^ k : Nat) : Int) := Int.natCast_nonneg _
        have hcb2 : ((ev ((out a b 32).take k) / 256 ^ k : Nat) : Int) ≤ ((2080800 * 32 : Nat) : Int) := Int.ofNat_le.2 hcb
        refine Sat.seq ?_
        refine Sat.seq ?_
        -- region 12
        refine Sat.region ?_
        refine Tr.move rfl rfl rfl ?_
        refine Tr.lss rfl rfl rfl rfl rfl ?_
        refine Tr.nil ?_
        refine at_n ?_
        first
          | refine Sat.condP rfl (fun hc2 => ?_) (fun hc2 => ?_)
          | refine Sat.condNP rfl (fun hc2 => ?_) (fun hc2 => ?_)
          | refine Sat.cond rfl (fun hc2 => ?_) (fun hc2 => ?_)
        ·
          have hk2 : k < 64 := by omega
          have hco := out_le a b 32 k
          have hs : ((ev ((out a b 32).take k) / 256 ^ k : Nat) : Int) + (((out a b 32).getD k 0 : Nat) : Int) = ((ev ((out a b 32).take k) / 256 ^ k + (out a b 32).getD k 0 : Nat) : Int) := by rw [Int.natCast_add]
          refine Sat.skip ?_
          refine at_n ?_
          refine Sat.seq ?_
          refine Sat.block ?_
          refine Sat.seq ?_
          -- region 14
          refine Sat.region ?_
          refine Tr.move rfl rfl rfl ?_
          refine Tr.move rfl rfl rfl ?_
          first
            | refine Tr.idxArr1 rfl rfl rfl rfl Try.underlying86 Sz3 _ rfl (by omega) ?_
            | refine Tr.idxArrO rfl rfl rfl rfl Try.underlying86 Sz3 _ rfl (by omega) ?_
            | refine Tr.idxArr1 rfl rfl rfl rfl Try.underlying86 Sz3 _ (toNat_back (by omega)) (by omega) ?_
            | refine Tr.idxArrO rfl rfl rfl rfl Try.underlying86 Sz3 _ (toNat_back (by omega)) (by omega) ?_
          refine Tr.load1 rfl rfl rfl Try.underlying3 rfl (by first | exact mem0 | exact mem1 | exact mem2 | exact mem3 | exact mem4 | exact mem5 | exact mem6 | exact mem7) (get_nats (by simp [leb_length, words4_length, List.length_replicate, subB_all, padB_all, natsV_length, inn_length, out_length, ha, hb]; omega)) ?_
          refine Tr.add_i64 rfl rfl rfl rfl (by omega) ?_
          refine Tr.assign rfl rfl rfl ?_
          refine Tr.nil ?_
          refine at_n ?_
          refine Sat.seq ?_
          -- region 15
          refine Sat.region ?_
          refine Tr.move rfl rfl rfl ?_
          refine Tr.move rfl rfl rfl ?_
          refine Tr.move rfl rfl rfl ?_
          refine Tr.rem_i64 rfl rfl rfl rfl (by omega) ?_
          refine Tr.conv rfl rfl rfl Try.underlying3 Try.underlying5 (cv_i64_u8 _) ?_
          first
            | refine Tr.idxSl1 rfl rfl rfl rfl Try.underlying27 Sz5 _ rfl (by omega) ?_
            | refine Tr.idxSlO rfl rfl rfl rfl Try.underlying27 Sz5 _ rfl (by omega) ?_
            | refine Tr.idxSl1 rfl rfl rfl rfl Try.underlying27 Sz5 _ (toNat_back (by omega)) (by omega) ?_
            | refine Tr.idxSlO rfl rfl rfl rfl Try.underlying27 Sz5 _ (toNat_back (by omega)) (by omega) ?_
          refine Tr.store1 rfl rfl rfl rfl rfl Sz5 (by first | exact mem0 | exact mem1 | exact mem2 | exact mem3 | exact mem4 | exact mem5 | exact mem6 | exact mem7) (by first | (simp [leb_length, words4_length, List.length_replicate, subB_all, padB_all, natsV_length, inn_length, out_length, ha, hb]; done) | (simp [leb_length, words4_length, List.length_replicate, subB_all, padB_all, natsV_length, inn_length, out_length, ha, hb]; omega)) (by first | exact set_words _ _ _ | exact set_bytes _ _ _ | exact set_ints _ _ _ | rfl) (by first | exact upd0 | exact upd1 | exact upd2 | exact upd3 | exact upd4 | exact upd5 | exact upd6 | exact upd7) ?_
          refine Tr.nil ?_
          refine at_n ?_
          -- region 16
          refine Sat.region ?_
          refine Tr.move rfl rfl rfl ?_
          refine Tr.quo_i64 rfl rfl rfl rfl (by omega) ?_
          refine Tr.assign rfl rfl rfl ?_
          refine Tr.nil ?_
          refine bl_n ?_
          refine at_n ?_
          -- region 13
          refine Sat.region ?_
          refine Tr.move rfl rfl rfl ?_
          refine Tr.add_i64 rfl rfl rfl rfl (by omega) ?_
          refine Tr.assign rfl rfl rfl ?_
          refine Tr.nil ?_
          refine at_n ?_
          have hst := ev_take_succ (out a b 32) k (by rw [out_length]; omega)
          exact ⟨k + 1, by omega, by omega, weak_of (wk1 rfl (wk1 rfl (wk1 rfl (wk1 (by rw [hst, ← carry_step _ _ _ _ hs]; rfl) (wk1 rfl wk0))))) (wh1 (by rw [hst, ← padB_step 64 _ _ k (by omega) _ hs, byteOf_mod]; exact mem0) (wh1 (by first | exact mem0 | exact mem1 | exact mem2 | exact mem3 | exact mem4 | exact mem5 | exact mem6 | exact mem7) (wh1 (by first | exact mem0 | exact mem1 | exact mem2 | exact mem3 | exact mem4 | exact mem5 | exact mem6 | exact mem7) wh0))) (by repeat (first | exact ns_nil | refine ns_keep rfl ?_ | refine ns_skip ?_))⟩
        ·
          obtain rfl : k = 64 := by omega
          refine Sat.exit ?_
          refine at_x ?_
          refine at_x ?_
          refine bl_h ?_
          refine at_n ?_
          refine ⟨(), trivial, weak_of (wk1 rfl (wk1 rfl wk0)) (wh1 (by rw [← padB_all, ← ev_all a b ha hb]; exact mem0) (wh1 (by first | exact mem0 | exact mem1 | exact mem2 | exact mem3 | exact mem4 | exact mem5 | exact mem6 | exact mem7) wh0)) (by repeat (first | exact ns_nil | refine ns_keep rfl ?_ | refine ns_skip ?_))⟩
    ·
      intro _u hj
      skip
      refine Sat.seq ?_
      -- region 17
      refine Sat.region ?_
      refine Tr.move rfl rfl rfl ?_
      refine Tr.callV rfl rfl rfl rfl Body52 (ref_rest _ 0 _ 64 (leb 64 (le a * le b)) (by simp [leb_length, words4_length, List.length_replicate, subB_all, padB_all, natsV_length, inn_length, out_length, ha, hb]) (by omega)) (fun W h => sees_own h (by first | exact mem0 | exact mem1 | exact mem2 | exact mem3 | exact mem4 | exact mem5 | exact mem6 | exact mem7)) ?_
      first
        | refine Tr.storeAll rfl rfl rfl rfl (by simp [isCell]) Sz47 (by simp [leb_length, words4_length, List.length_replicate, subB_all, padB_all, natsV_length, inn_length, out_length, ha, hb]) (by first | exact mem0 | exact mem1 | exact mem2 | exact mem3 | exact mem4 | exact mem5 | exact mem6 | exact mem7) (by simp [leb_length, words4_length, List.length_replicate, subB_all, padB_all, natsV_length, inn_length, out_length, ha, hb]) (by first | exact upd0 | exact upd1 | exact upd2 | exact upd3 | exact upd4 | exact upd5 | exact upd6 | exact upd7) ?_
        | refine Tr.storeN _ rfl rfl rfl rfl rfl (by simp [isCell]) Sz47 (by simp [leb_length, words4_length, List.length_replicate, subB_all, padB_all, natsV_length, inn_length, out_length, ha, hb]) (by first | exact mem0 | exact mem1 | exact mem2 | exact mem3 | exact mem4 | exact mem5 | exact mem6 | exact mem7) (by simp [leb_length, words4_length, List.length_replicate, subB_all, padB_all, natsV_length, inn_length, out_length, ha, hb]) (by exact rfl) (by first | exact upd0 | exact upd1 | exact upd2 | exact upd3 | exact upd4 | exact upd5 | exact upd6 | exact upd7) ?_
      refine Tr.nil ?_
      refine at_n ?_
      refine Sat.ret ?_
      refine en_r ?_
      refine ⟨_, [], res_cell rfl rfl Try.underlying47 rfl Sz47 (by first | exact mem0 | exact mem1 | exact mem2 | exact mem3 | exact mem4 | exact mem5 | exact mem6 | exact mem7) (by simp [leb_length, words4_length, List.length_replicate, subB_all, padB_all, natsV_length, inn_length, out_length, ha, hb]), (by simp), (by simp), ?_, rfl⟩
      rw [le_leb, Nat.mod_eq_of_lt (le512 ha hb)]

set_option maxRecDepth 100000 in
set_option maxHeartbeats 1000000 in
theorem ref_muladd (a b c : List UInt8) (ha : a.length = 32) (hb : b.length = 32) (hc : c.length = 32) : Meets Try.prog 34 [agg (bytesV a), agg (bytesV b), agg (bytesV c)] [] (fun _ => True) (fun v out => v = agg (bytesV (leb 32 ((le a * le b + le c) % L))) ∧ out = []) := by
  intro W hW
  refine calls_of (hp0 := []) Try.func34 rfl 13 Try.ntmps34 rfl (HRep.nil _) ?_
  refine Sat.seq ?_
  -- region 0
  refine Sat.region ?_
  refine Tr.boxA rfl rfl ?_
  intro n3 hn3 hf3
  refine Tr.boxA rfl rfl ?_
  intro n4 hn4 hf4
  refine Tr.boxA rfl rfl ?_
  intro n5 hn5 hf5
  refine Tr.alloc (cs := (bytesV (List.replicate 32 0))) rfl Zr47 rfl ?_
  intro n6 hn6 hf6
  refine Tr.nil ?_
  refine at_n ?_
  refine Sat.seq ?_
  -- region 1
  refine Sat.draw [(1, 0), (1, 1), (0, 3), (3, 2), (3, 4), (3, 5), (4, 6)] Mixed (by kernel_rfl) ?_
  first
    | refine Tr.loadAll rfl rfl rfl Try.underlying47 rfl Sz47 (by first | exact mem0 | exact mem1 | exact mem2 | exact mem3 | exact mem4 | exact mem5 | exact mem6 | exact mem7) (by simp [leb_length, words4_length, List.length_replicate, subB_all, padB_all, natsV_length, inn_length, out_length, ha, hb, hc]) ?_
    | refine Tr.loadN _ rfl rfl rfl Try.underlying47 rfl Sz47 (by first | exact mem0 | exact mem1 | exact mem2 | exact mem3 | exact mem4 | exact mem5 | exact mem6 | exact mem7) (by exact rfl) (by simp [leb_length, words4_length, List.length_replicate, subB_all, padB_all, natsV_length, inn_length, out_length, ha, hb, hc]) ?_
  first
    | refine Tr.loadAll rfl rfl rfl Try.underlying47 rfl Sz47 (by first | exact mem0 | exact mem1 | exact mem2 | exact mem3 | exact mem4 | exact mem5 | exact mem6 | exact mem7) (by simp [leb_length, words4_length, List.length_replicate, subB_all, padB_all, natsV_length, inn_length, out_length, ha, hb, hc]) ?_
    | refine Tr.loadN _ rfl rfl rfl Try.underlying47 rfl Sz47 (by first | exact mem0 | exact mem1 | exact mem2 | exact mem3 | exact mem4 | exact mem5 | exact mem6 | exact mem7) (by exact rfl) (by simp [leb_length, words4_length, List.length_replicate, subB_all, padB_all, natsV_length, inn_length, out_length, ha, hb, hc]) ?_
  refine Tr.sliceArr rfl rfl rfl Try.underlying47 Sz5 ?_
  refine Tr.callV rfl rfl rfl rfl Body33 (ref_mul a b ha hb) (fun _ _ => trivial) ?_
  refine Tr.callV rfl rfl rfl rfl Body52 (ref_rest _ 0 _ 32 c (by simp [leb_length, words4_length, List.length_replicate, subB_all, padB_all, natsV_length, inn_length, out_length, ha, hb, hc]) (by omega)) (fun W h => sees_own h (by first | exact mem0 | exact mem1 | exact mem2 | exact mem3 | exact mem4 | exact mem5 | exact mem6 | exact mem7)) ?_
  refine Tr.callV rfl rfl rfl rfl Body55 (ref_plus_n _ _ (Nat.mod_lt _ L_pos) (Nat.mod_lt _ L_pos)) (fun _ _ => trivial) ?_
  first
    | refine Tr.storeAll rfl rfl rfl rfl (by simp [isCell]) Sz47 (by simp [leb_length, words4_length, List.length_replicate, subB_all, padB_all, natsV_length, inn_length, out_length, ha, hb, hc]) (by first | exact mem0 | exact mem1 | exact mem2 | exact mem3 | exact mem4 | exact mem5 | exact mem6 | exact mem7) (by simp [leb_length, words4_length, List.length_replicate, subB_all, padB_all, natsV_length, inn_length, out_length, ha, hb, hc]) (by first | exact upd0 | exact upd1 | exact upd2 | exact upd3 | exact upd4 | exact upd5 | exact upd6 | exact upd7) ?_
    | refine Tr.storeN _ rfl rfl rfl rfl rfl (by simp [isCell]) Sz47 (by simp [leb_length, words4_length, List.length_replicate, subB_all, padB_all, natsV_length, inn_length, out_length, ha, hb, hc]) (by first | exact mem0 | exact mem1 | exact mem2 | exact mem3 | exact mem4 | exact mem5 | exact mem6 | exact mem7) (by simp [leb_length, words4_length, List.length_replicate, subB_all, padB_all, natsV_length, inn_length, out_length, ha, hb, hc]) (by exact rfl) (by first | exact upd0 | exact upd1 | exact upd2 | exact upd3 | exact upd4 | exact upd5 | exact upd6 | exact upd7) ?_
  refine Tr.nil ?_
  refine at_n ?_
  refine Sat.ret ?_
  refine en_r ?_
  refine ⟨_, [], res_cell rfl rfl Try.underlying47 rfl Sz47 (by first | exact mem0 | exact mem1 | exact mem2 | exact mem3 | exact mem4 | exact mem5 | exact mem6 | exact mem7) (by simp [leb_length, words4_length, List.length_replicate, subB_all, padB_all, natsV_length, inn_length, out_length, ha, hb, hc]), (by simp), (by simp), ?_, rfl⟩
  rw [← Nat.add_mod]


theorem ref_L_ex : ∃ s : List UInt8, Meets Try.prog 54 [] [] (fun _ => True) (fun v out => v = agg (bytesV s) ∧ out = []) ∧ s.length = 32 ∧ s.set 0 (s.getD 0 0 - 1) = leb 32 (L - 1) :=
  ⟨_, ref_L, leb_length 32 _, L_less⟩


set_option maxRecDepth 100000 in
set_option maxHeartbeats 1000000 in
theorem ref_neg (a : List UInt8) (ha : a.length = 32) : Meets Try.prog 35 [agg (bytesV a)] [] (fun _ => True) (fun v out => v = agg (bytesV (leb 32 ((L - le a % L) % L))) ∧ out = []) := by
  intro W hW
  obtain ⟨l, cl, hl, el⟩ := ref_L_ex
  have e2 : le (leb 32 (L - 1)) = L - 1 := le_leb32 (Nat.lt_of_le_of_lt (Nat.sub_le _ _) L_lt)
  refine calls_of (hp0 := []) Try.func35 rfl 12 Try.ntmps35 rfl (HRep.nil _) ?_
  refine Sat.seq ?_
  -- region 0
  refine Sat.region ?_
  refine Tr.boxA rfl rfl ?_
  intro n1 hn1 hf1
  refine Tr.alloc (cs := (bytesV (List.replicate 32 0))) rfl Zr47 rfl ?_
  intro n2 hn2 hf2
  refine Tr.nil ?_
  refine at_n ?_
  refine Sat.seq ?_
  -- region 1
  refine Sat.region ?_
  refine Tr.callV rfl rfl rfl rfl Body54 (cl) (fun _ _ => trivial) ?_
  refine Tr.alloc (cs := (bytesV (List.replicate 32 0))) rfl Zr47 rfl ?_
  intro n3 hn3 hf3
  first
    | refine Tr.storeAll rfl rfl rfl rfl (by simp [isCell]) Sz47 (by simp [leb_length, words4_length, List.length_replicate, subB_all, padB_all, natsV_length, inn_length, out_length, ha, hl]) (by first | exact mem0 | exact mem1 | exact mem2 | exact mem3 | exact mem4 | exact mem5 | exact mem6 | exact mem7) (by simp [leb_length, words4_length, List.length_replicate, subB_all, padB_all, natsV_length, inn_length, out_length, ha, hl]) (by first | exact upd0 | exact upd1 | exact upd2 | exact upd3 | exact upd4 | exact upd5 | exact upd6 | exact upd7) ?_
    | refine Tr.storeN _ rfl rfl rfl rfl rfl (by simp [isCell]) Sz47 (by simp [leb_length, words4_length, List.length_replicate, subB_all, padB_all, natsV_length, inn_length, out_length, ha, hl]) (by first | exact mem0 | exact mem1 | exact mem2 | exact mem3 | exact mem4 | exact mem5 | exact mem6 | exact mem7) (by simp [leb_length, words4_length, List.length_replicate, subB_all, padB_all, natsV_length, inn_length, out_length, ha, hl]) (by exact rfl) (by first | exact upd0 | exact upd1 | exact upd2 | exact upd3 | exact upd4 | exact upd5 | exact upd6 | exact upd7) ?_
  refine Tr.nil ?_
  refine at_n ?_
  refine Sat.seq ?_
  -- region 2
  refine Sat.region ?_
  first
    | refine Tr.idxArr1 rfl rfl rfl rfl Try.underlying47 Sz5 0 rfl (by decide) ?_
    | refine Tr.idxArrO rfl rfl rfl rfl Try.underlying47 Sz5 0 rfl (by decide) ?_
  refine Tr.load1 rfl rfl rfl Try.underlying5 rfl (by first | exact mem0 | exact mem1 | exact mem2 | exact mem3 | exact mem4 | exact mem5 | exact mem6 | exact mem7) (by first | rfl | exact get_words (by first | omega | (simp [leb_length, words4_length, List.length_replicate, subB_all, padB_all, natsV_length, inn_length, out_length, ha, hl]; done) | (simp [leb_length, words4_length, List.length_replicate, subB_all, padB_all, natsV_length, inn_length, out_length, ha, hl]; omega)) | exact get_bytes (by first | omega | (simp [leb_length, words4_length, List.length_replicate, subB_all, padB_all, natsV_length, inn_length, out_length, ha, hl]; done) | (simp [leb_length, words4_length, List.length_replicate, subB_all, padB_all, natsV_length, inn_length, out_length, ha, hl]; omega)) | exact get_ints (by first | omega | (simp [leb_length, words4_length, List.length_replicate, subB_all, padB_all, natsV_length, inn_length, out_length, ha, hl]; done) | (simp [leb_length, words4_length, List.length_replicate, subB_all, padB_all, natsV_length, inn_length, out_length, ha, hl]; omega))) ?_
  refine Tr.sub_u8 rfl rfl rfl (show evIn _ _ = some (u8 1) from rfl) ?_
  first
    | refine Tr.idxArr1 rfl rfl rfl rfl Try.underlying47 Sz5 0 rfl (by decide) ?_
    | refine Tr.idxArrO rfl rfl rfl rfl Try.underlying47 Sz5 0 rfl (by decide) ?_
  refine Tr.store1 rfl rfl rfl rfl rfl Sz5 (by first | exact mem0 | exact mem1 | exact mem2 | exact mem3 | exact mem4 | exact mem5 | exact mem6 | exact mem7) (by first | (simp [leb_length, words4_length, List.length_replicate, subB_all, padB_all, natsV_length, inn_length, out_length, ha, hl]; done) | (simp [leb_length, words4_length, List.length_replicate, subB_all, padB_all, natsV_length, inn_length, out_length, ha, hl]; omega)) (by first | exact set_words _ _ _ | exact set_bytes _ _ _ | exact set_ints _ _ _ | rfl) (by first | exact upd0 | exact upd1 | exact upd2 | exact upd3 | exact upd4 | exact upd5 | exact upd6 | exact upd7) ?_
  refine Tr.nil ?_
  refine at_n ?_
  refine Sat.seq ?_
  -- region 3
  refine Sat.region ?_
  first
    | refine Tr.loadAll rfl rfl rfl Try.underlying47 rfl Sz47 (by first | exact mem0 | exact mem1 | exact mem2 | exact mem3 | exact mem4 | exact mem5 | exact mem6 | exact mem7) (by simp [leb_length, words4_length, List.length_replicate, subB_all, padB_all, natsV_length, inn_length, out_length, ha, hl]) ?_
    | refine Tr.loadN _ rfl rfl rfl Try.underlying47 rfl Sz47 (by first | exact mem0 | exact mem1 | exact mem2 | exact mem3 | exact mem4 | exact mem5 | exact mem6 | exact mem7) (by exact rfl) (by simp [leb_length, words4_length, List.length_replicate, subB_all, padB_all, natsV_length, inn_length, out_length, ha, hl]) ?_
  first
    | refine Tr.loadAll rfl rfl rfl Try.underlying47 rfl Sz47 (by first | exact mem0 | exact mem1 | exact mem2 | exact mem3 | exact mem4 | exact mem5 | exact mem6 | exact mem7) (by simp [leb_length, words4_length, List.length_replicate, subB_all, padB_all, natsV_length, inn_length, out_length, ha, hl]) ?_
    | refine Tr.loadN _ rfl rfl rfl Try.underlying47 rfl Sz47 (by first | exact mem0 | exact mem1 | exact mem2 | exact mem3 | exact mem4 | exact mem5 | exact mem6 | exact mem7) (by exact rfl) (by simp [leb_length, words4_length, List.length_replicate, subB_all, padB_all, natsV_length, inn_length, out_length, ha, hl]) ?_
  refine Tr.callV rfl rfl rfl rfl Body33 (ref_mul _ a (by simp [leb_length, words4_length, List.length_replicate, subB_all, padB_all, natsV_length, inn_length, out_length, ha, hl]) ha) (fun _ _ => trivial) ?_
  first
    | refine Tr.storeAll rfl rfl rfl rfl (by simp [isCell]) Sz47 (by simp [leb_length, words4_length, List.length_replicate, subB_all, padB_all, natsV_length, inn_length, out_length, ha, hl]) (by first | exact mem0 | exact mem1 | exact mem2 | exact mem3 | exact mem4 | exact mem5 | exact mem6 | exact mem7) (by simp [leb_length, words4_length, List.length_replicate, subB_all, padB_all, natsV_length, inn_length, out_length, ha, hl]) (by first | exact upd0 | exact upd1 | exact upd2 | exact upd3 | exact upd4 | exact upd5 | exact upd6 | exact upd7) ?_
    | refine Tr.storeN _ rfl rfl rfl rfl rfl (by simp [isCell]) Sz47 (by simp [leb_length, words4_length, List.length_replicate, subB_all, padB_all, natsV_length, inn_length, out_length, ha, hl]) (by first | exact mem0 | exact mem1 | exact mem2 | exact mem3 | exact mem4 | exact mem5 | exact mem6 | exact mem7) (by simp [leb_length, words4_length, List.length_replicate, subB_all, padB_all, natsV_length, inn_length, out_length, ha, hl]) (by exact rfl) (by first | exact upd0 | exact upd1 | exact upd2 | exact upd3 | exact upd4 | exact upd5 | exact upd6 | exact upd7) ?_
  refine Tr.nil ?_
  refine at_n ?_
  refine Sat.ret ?_
  refine en_r ?_
  refine ⟨_, [], res_cell rfl rfl Try.underlying47 rfl Sz47 (by first | exact mem0 | exact mem1 | exact mem2 | exact mem3 | exact mem4 | exact mem5 | exact mem6 | exact mem7) (by simp [leb_length, words4_length, List.length_replicate, subB_all, padB_all, natsV_length, inn_length, out_length, ha, hl]), (by simp), (by simp), ?_, rfl⟩
  rw [el, e2, neg_ref]

end Go.Proofs.Ytjeggfgbcafenaa
