/- Contracts of the reference scalars: what each call returns. Conditions: the lengths of arrays, and sums below 2L. -/
import Derived.Test.YtjeggfgbcafenaaScal3
import Derived.Test.YtjeggfgbcafenaaRDef
namespace Go.Proofs.Ytjeggfgbcafenaa
open Go Hw
set_option linter.unusedVariables false
set_option linter.unusedSimpArgs false

set_option maxRecDepth 100000 in
set_option maxHeartbeats 1000000 in
theorem ref_L  : Meets Try.prog 54 [] [] (fun _ => True) (fun v out => v = agg (bytesV (leb 32 L)) ∧ out = []) := by
  intro W hW
  refine calls_of (hp0 := []) Try.func54 rfl 2 Try.ntmps54 rfl (HRep.nil _) ?_
  refine Sat.seq ?_
  -- region 0
  refine Sat.region ?_
  refine Tr.alloc (cs := (bytesV (List.replicate 32 0))) rfl Zr47 rfl ?_
  intro n0 hn0 hf0
  refine Tr.nil ?_
  refine at_n ?_
  refine Sat.seq ?_
  -- region 1
  refine Sat.region ?_
  refine Tr.build (cs := bytesV (leb 32 L)) rfl rfl rfl (fun w => by kernel_rfl) ?_
  first
    | refine Tr.storeAll rfl rfl rfl rfl (by simp [isCell]) Sz47 (by simp [leb_length, words4_length, List.length_replicate, subB_all, padB_all]) (by first | exact mem0 | exact mem1 | exact mem2 | exact mem3 | exact mem4 | exact mem5 | exact mem6 | exact mem7) (by simp [leb_length, words4_length, List.length_replicate, subB_all, padB_all]) (by first | exact upd0 | exact upd1 | exact upd2 | exact upd3 | exact upd4 | exact upd5 | exact upd6 | exact upd7) ?_
    | refine Tr.storeN _ rfl rfl rfl rfl rfl (by simp [isCell]) Sz47 (by simp [leb_length, words4_length, List.length_replicate, subB_all, padB_all]) (by first | exact mem0 | exact mem1 | exact mem2 | exact mem3 | exact mem4 | exact mem5 | exact mem6 | exact mem7) (by simp [leb_length, words4_length, List.length_replicate, subB_all, padB_all]) (by exact rfl) (by first | exact upd0 | exact upd1 | exact upd2 | exact upd3 | exact upd4 | exact upd5 | exact upd6 | exact upd7) ?_
  refine Tr.nil ?_
  refine at_n ?_
  refine Sat.ret ?_
  refine en_r ?_
  refine ⟨_, [], res_cell rfl rfl Try.underlying47 rfl Sz47 (by first | exact mem0 | exact mem1 | exact mem2 | exact mem3 | exact mem4 | exact mem5 | exact mem6 | exact mem7) (by simp [leb_length, words4_length, List.length_replicate, subB_all, padB_all]), (by simp), (by simp), ?_, rfl⟩
  rfl

set_option maxRecDepth 100000 in
set_option maxHeartbeats 1000000 in
theorem ref_below (a b : List UInt8) (ha : a.length = 32) (hb : b.length = 32) : Meets Try.prog 53 [agg (bytesV a), agg (bytesV b)] [] (fun _ => True) (fun v out => v = .bool (decide (le a < le b)) ∧ out = []) := by
  intro W hW
  refine calls_of (hp0 := []) Try.func53 rfl 24 Try.ntmps53 rfl (HRep.nil _) ?_
  refine Sat.seq ?_
  -- region 0
  refine Sat.region ?_
  refine Tr.boxA rfl rfl ?_
  intro n2 hn2 hf2
  refine Tr.boxA rfl rfl ?_
  intro n3 hn3 hf3
  refine Tr.assign rfl rfl rfl ?_
  refine Tr.nil ?_
  refine at_n ?_
  refine Sat.seq ?_
  refine Sat.seq ?_
  -- region 1
  refine Sat.region ?_
  refine Tr.assign rfl rfl rfl ?_
  refine Tr.nil ?_
  refine at_n ?_
  refine Sat.block ?_
  refine Sat.loop (ι := Nat) (fun k => ⟨[(2, ptr n2 0), (3, ptr n3 0), (5, i64 (31 - (k : Int)))], [⟨n3, bytesV b, 47, (bytesV b).length⟩, ⟨n2, bytesV a, 47, (bytesV a).length⟩]⟩) (fun k => k ≤ 32 ∧ a.drop (32 - k) = b.drop (32 - k)) (fun k => 32 - k) (0) ?_ ?_ ?_
  · exact ⟨by omega, by rw [List.drop_of_length_le (by omega), List.drop_of_length_le (by omega)]⟩
  · exact weak_of (wk1 rfl (wk1 rfl (wk1 rfl wk0))) (wh1 (by first | exact mem0 | exact mem1 | exact mem2 | exact mem3 | exact mem4 | exact mem5 | exact mem6 | exact mem7) (wh1 (by first | exact mem0 | exact mem1 | exact mem2 | exact mem3 | exact mem4 | exact mem5 | exact mem6 | exact mem7) wh0)) (by repeat (first | exact ns_nil | refine ns_keep rfl ?_ | refine ns_skip ?_))
  ·
    rintro k ⟨hk, hd⟩
    refine Sat.seq ?_
    refine Sat.seq ?_
    -- region 2
    refine Sat.region ?_
    refine Tr.move rfl rfl rfl ?_
    refine Tr.geq rfl rfl rfl rfl rfl ?_
    refine Tr.nil ?_
    refine at_n ?_
    first
      | refine Sat.condP rfl (fun hc0 => ?_) (fun hc0 => ?_)
      | refine Sat.condNP rfl (fun hc0 => ?_) (fun hc0 => ?_)
      | refine Sat.cond rfl (fun hc0 => ?_) (fun hc0 => ?_)
    ·
      have hk2 : k < 32 := by omega
      refine Sat.skip ?_
      refine at_n ?_
      refine Sat.seq ?_
      refine Sat.block ?_
      refine Sat.seq ?_
      -- region 4
      refine Sat.draw [(0, 0), (0, 1), (1, 2), (0, 3), (0, 4), (1, 5), (0, 6)] Mixed (by kernel_rfl) ?_
      refine Tr.move rfl rfl rfl ?_
      first
        | refine Tr.idxArr1 rfl rfl rfl rfl Try.underlying47 Sz5 (31 - k) (by omega) (by omega) ?_
        | refine Tr.idxArrO rfl rfl rfl rfl Try.underlying47 Sz5 (31 - k) (by omega) (by omega) ?_
      refine Tr.load1 rfl rfl rfl Try.underlying5 rfl (by first | exact mem0 | exact mem1 | exact mem2 | exact mem3 | exact mem4 | exact mem5 | exact mem6 | exact mem7) (by first | rfl | exact get_words (by first | omega | (simp [leb_length, words4_length, List.length_replicate, subB_all, padB_all, ha, hb]; done) | (simp [leb_length, words4_length, List.length_replicate, subB_all, padB_all, ha, hb]; omega)) | exact get_bytes (by first | omega | (simp [leb_length, words4_length, List.length_replicate, subB_all, padB_all, ha, hb]; done) | (simp [leb_length, words4_length, List.length_replicate, subB_all, padB_all, ha, hb]; omega)) | exact get_ints (by first | omega | (simp [leb_length, words4_length, List.length_replicate, subB_all, padB_all, ha, hb]; done) | (simp [leb_length, words4_length, List.length_replicate, subB_all, padB_all, ha, hb]; omega))) ?_
      refine Tr.move rfl rfl rfl ?_
      first
        | refine Tr.idxArr1 rfl rfl rfl rfl Try.underlying47 Sz5 (31 - k) (by omega) (by omega) ?_
        | refine Tr.idxArrO rfl rfl rfl rfl Try.underlying47 Sz5 (31 - k) (by omega) (by omega) ?_
      refine Tr.load1 rfl rfl rfl Try.underlying5 rfl (by first | exact mem0 | exact mem1 | exact mem2 | exact mem3 | exact mem4 | exact mem5 | exact mem6 | exact mem7) (by first | rfl | exact get_words (by first | omega | (simp [leb_length, words4_length, List.length_replicate, subB_all, padB_all, ha, hb]; done) | (simp [leb_length, words4_length, List.length_replicate, subB_all, padB_all, ha, hb]; omega)) | exact get_bytes (by first | omega | (simp [leb_length, words4_length, List.length_replicate, subB_all, padB_all, ha, hb]; done) | (simp [leb_length, words4_length, List.length_replicate, subB_all, padB_all, ha, hb]; omega)) | exact get_ints (by first | omega | (simp [leb_length, words4_length, List.length_replicate, subB_all, padB_all, ha, hb]; done) | (simp [leb_length, words4_length, List.length_replicate, subB_all, padB_all, ha, hb]; omega))) ?_
      refine Tr.nei rfl rfl rfl rfl rfl ?_
      refine Tr.nil ?_
      refine at_n ?_
      first
        | refine Sat.condP rfl (fun hc1 => ?_) (fun hc1 => ?_)
        | refine Sat.condNP rfl (fun hc1 => ?_) (fun hc1 => ?_)
        | refine Sat.cond rfl (fun hc1 => ?_) (fun hc1 => ?_)
      ·
        have hlt := le_lt_at ha hb (i := 31 - k) (by omega) (by rw [show 31 - k + 1 = 32 - k by omega]; exact hd) (by omega)
        refine Sat.seq ?_
        -- region 5
        refine Sat.draw [(0, 0), (0, 1), (1, 2), (0, 3), (0, 4), (1, 5), (0, 6), (0, 7)] Mixed (by kernel_rfl) ?_
        refine Tr.move rfl rfl rfl ?_
        first
          | refine Tr.idxArr1 rfl rfl rfl rfl Try.underlying47 Sz5 (31 - k) (by omega) (by omega) ?_
          | refine Tr.idxArrO rfl rfl rfl rfl Try.underlying47 Sz5 (31 - k) (by omega) (by omega) ?_
        refine Tr.load1 rfl rfl rfl Try.underlying5 rfl (by first | exact mem0 | exact mem1 | exact mem2 | exact mem3 | exact mem4 | exact mem5 | exact mem6 | exact mem7) (by first | rfl | exact get_words (by first | omega | (simp [leb_length, words4_length, List.length_replicate, subB_all, padB_all, ha, hb]; done) | (simp [leb_length, words4_length, List.length_replicate, subB_all, padB_all, ha, hb]; omega)) | exact get_bytes (by first | omega | (simp [leb_length, words4_length, List.length_replicate, subB_all, padB_all, ha, hb]; done) | (simp [leb_length, words4_length, List.length_replicate, subB_all, padB_all, ha, hb]; omega)) | exact get_ints (by first | omega | (simp [leb_length, words4_length, List.length_replicate, subB_all, padB_all, ha, hb]; done) | (simp [leb_length, words4_length, List.length_replicate, subB_all, padB_all, ha, hb]; omega))) ?_
        refine Tr.move rfl rfl rfl ?_
        first
          | refine Tr.idxArr1 rfl rfl rfl rfl Try.underlying47 Sz5 (31 - k) (by omega) (by omega) ?_
          | refine Tr.idxArrO rfl rfl rfl rfl Try.underlying47 Sz5 (31 - k) (by omega) (by omega) ?_
        refine Tr.load1 rfl rfl rfl Try.underlying5 rfl (by first | exact mem0 | exact mem1 | exact mem2 | exact mem3 | exact mem4 | exact mem5 | exact mem6 | exact mem7) (by first | rfl | exact get_words (by first | omega | (simp [leb_length, words4_length, List.length_replicate, subB_all, padB_all, ha, hb]; done) | (simp [leb_length, words4_length, List.length_replicate, subB_all, padB_all, ha, hb]; omega)) | exact get_bytes (by first | omega | (simp [leb_length, words4_length, List.length_replicate, subB_all, padB_all, ha, hb]; done) | (simp [leb_length, words4_length, List.length_replicate, subB_all, padB_all, ha, hb]; omega)) | exact get_ints (by first | omega | (simp [leb_length, words4_length, List.length_replicate, subB_all, padB_all, ha, hb]; done) | (simp [leb_length, words4_length, List.length_replicate, subB_all, padB_all, ha, hb]; omega))) ?_
        refine Tr.lss rfl rfl rfl rfl rfl ?_
        refine Tr.assign rfl rfl rfl ?_
        refine Tr.nil ?_
        refine at_n ?_
        refine Sat.ret ?_
        refine bl_r ?_
        refine at_r ?_
        refine at_r ?_
        refine bl_r ?_
        refine at_r ?_
        refine en_r ?_
        refine ⟨_, [], res_tmp rfl rfl, (by simp), (by simp), ?_, rfl⟩
        first
          | (rw [show decide (le a < le b) = decide (((a.getD (31 - k) 0).toNat : Int) < ((b.getD (31 - k) 0).toNat : Int)) from decide_eq_decide.2 (hlt.symm.trans (by omega))])
          | (have he : a = b := by simpa using hd
             rw [he, decide_eq_false (Nat.lt_irrefl _)])
      ·
        refine Sat.skip ?_
        refine bl_n ?_
        refine at_n ?_
        -- region 3
        refine Sat.region ?_
        refine Tr.move rfl rfl rfl ?_
        refine Tr.sub_i64 rfl rfl rfl rfl (by omega) ?_
        refine Tr.assign rfl rfl rfl ?_
        refine Tr.nil ?_
        refine at_n ?_
        exact ⟨k + 1, ⟨by omega, drop_step ha hb (by omega) (by rw [show 32 - (k + 1) + 1 = 32 - k by omega]; exact hd) (by rw [show 32 - (k + 1) = 31 - k by omega]; omega)⟩, by omega, weak_of (wk1 rfl (wk1 rfl (wk1 (by rw [show (31 - ((k + 1 : Nat) : Int)) = 31 - (k : Int) - 1 by omega]; rfl) wk0))) (wh1 (by first | exact mem0 | exact mem1 | exact mem2 | exact mem3 | exact mem4 | exact mem5 | exact mem6 | exact mem7) (wh1 (by first | exact mem0 | exact mem1 | exact mem2 | exact mem3 | exact mem4 | exact mem5 | exact mem6 | exact mem7) wh0)) (by repeat (first | exact ns_nil | refine ns_keep rfl ?_ | refine ns_skip ?_))⟩
    ·
      obtain rfl : k = 32 := by omega
      refine Sat.exit ?_
      refine at_x ?_
      refine at_x ?_
      refine bl_h ?_
      refine at_n ?_
      refine Sat.seq ?_
      -- region 6
      refine Sat.region ?_
      refine Tr.assign rfl rfl rfl ?_
      refine Tr.nil ?_
      refine at_n ?_
      refine Sat.ret ?_
      refine en_r ?_
      refine ⟨_, [], res_tmp rfl rfl, (by simp), (by simp), ?_, rfl⟩
      first
        | (rw [show decide (le a < le b) = decide (((a.getD (31 - k) 0).toNat : Int) < ((b.getD (31 - k) 0).toNat : Int)) from decide_eq_decide.2 (hlt.symm.trans (by omega))])
        | (have he : a = b := by simpa using hd
           rw [he, decide_eq_false (Nat.lt_irrefl _)])

set_option maxRecDepth 100000 in
set_option maxHeartbeats 2000000 in
theorem ref_plus (a b : List UInt8) (ha : a.length = 32) (hb : b.length = 32) (hla : le a < L) (hlb : le b < L) : Meets Try.prog 55 [agg (bytesV a), agg (bytesV b)] [] (fun _ => True) (fun v out => v = agg (bytesV (leb 32 ((le a + le b) % L))) ∧ out = []) := by
  intro W hW
  have hL : L < 2 ^ 253 := by decide
  refine calls_of (hp0 := []) Try.func55 rfl 61 Try.ntmps55 rfl (HRep.nil _) ?_
  refine Sat.seq ?_
  -- region 0
  refine Sat.region ?_
  refine Tr.boxA rfl rfl ?_
  intro n2 hn2 hf2
  refine Tr.boxA rfl rfl ?_
  intro n3 hn3 hf3
  refine Tr.alloc (cs := (bytesV (List.replicate 32 0))) rfl Zr47 rfl ?_
  intro n4 hn4 hf4
  refine Tr.nil ?_
  refine at_n ?_
  refine Sat.seq ?_
  -- region 1
  refine Sat.region ?_
  refine Tr.alloc (cs := (bytesV (List.replicate 32 0))) rfl Zr47 rfl ?_
  intro n5 hn5 hf5
  refine Tr.nil ?_
  refine at_n ?_
  refine Sat.seq ?_
  -- region 2
  refine Sat.region ?_
  refine Tr.assign rfl rfl rfl ?_
  refine Tr.nil ?_
  refine at_n ?_
  refine Sat.join (ι := Unit) (fun _u => ⟨[(4, ptr n4 0), (5, ptr n5 0)], [⟨n5, bytesV (leb 32 (le a + le b)), 47, 32⟩, ⟨n4, bytesV (List.replicate 32 0), 47, 32⟩]⟩) (fun _u => True) ?_ ?_
  ·
    refine Sat.seq ?_
    -- region 3
    refine Sat.region ?_
    refine Tr.assign rfl rfl rfl ?_
    refine Tr.nil ?_
    refine at_n ?_
    refine Sat.block ?_
    refine Sat.loop (ι := Nat) (fun k => ⟨[(2, ptr n2 0), (3, ptr n3 0), (4, ptr n4 0), (5, ptr n5 0), (6, i64 (((le (a.take k) + le (b.take k)) / 256 ^ k : Nat) : Int)), (7, i64 (k : Int))], [⟨n5, bytesV (padB 32 (le (a.take k) + le (b.take k)) k), 47, 32⟩, ⟨n4, bytesV (List.replicate 32 0), 47, 32⟩, ⟨n3, bytesV b, 47, (bytesV b).length⟩, ⟨n2, bytesV a, 47, (bytesV a).length⟩]⟩) (fun k => k ≤ 32) (fun k => 32 - k) (0) ?_ ?_ ?_
    · omega
    · exact weak_of (wk1 rfl (wk1 rfl (wk1 rfl (wk1 rfl (wk1 (by rw [List.take_zero, List.take_zero]; rfl) (wk1 rfl wk0)))))) (wh1 (by rw [padB_zero]; exact mem0) (wh1 (by first | exact mem0 | exact mem1 | exact mem2 | exact mem3 | exact mem4 | exact mem5 | exact mem6 | exact mem7) (wh1 (by first | exact mem0 | exact mem1 | exact mem2 | exact mem3 | exact mem4 | exact mem5 | exact mem6 | exact mem7) (wh1 (by first | exact mem0 | exact mem1 | exact mem2 | exact mem3 | exact mem4 | exact mem5 | exact mem6 | exact mem7) wh0)))) (by repeat (first | exact ns_nil | refine ns_keep rfl ?_ | refine ns_skip ?_))
    ·
      rintro k hk
      have hpl := padB_length 32 (le (a.take k) + le (b.take k)) k hk
      have hcb : (le (a.take k) + le (b.take k)) / 256 ^ k ≤ 1 := by
        have h1 := le_take_lt a k
        have h2 := le_take_lt b k
        rw [← Nat.lt_succ_iff, Nat.div_lt_iff_lt_mul (Nat.pow_pos (by decide))]
        omega
      have hcn : (0 : Int) ≤ (((le (a.take k) + le (b.take k)) / 256 ^ k : Nat) : Int) := Int.natCast_nonneg _
      have hcb2 : (((le (a.take k) + le (b.take k)) / 256 ^ k : Nat) : Int) ≤ 1 := Int.ofNat_le.2 hcb
      refine Sat.seq ?_
      refine Sat.seq ?_
      -- region 4
      refine Sat.region ?_
      refine Tr.move rfl rfl rfl ?_
      refine Tr.lss rfl rfl rfl rfl rfl ?_
      refine Tr.nil ?_
      refine at_n ?_
      first
        | refine Sat.condP rfl (fun hc0 => ?_) (fun hc0 => ?_)
        | refine Sat.condNP rfl (fun hc0 => ?_) (fun hc0 => ?_)
        | refine Sat.cond rfl (fun hc0 => ?_) (fun hc0 => ?_)
      ·
        have hk2 : k < 32 := by omega
        have ha8 := (a.getD k 0).toNat_lt
        have hb8 := (b.getD k 0).toNat_lt
        have hs : (((le (a.take k) + le (b.take k)) / 256 ^ k : Nat) : Int) + ((a.getD k 0).toNat : Int) + ((b.getD k 0).toNat : Int) = (((le (a.take k) + le (b.take k)) / 256 ^ k + ((a.getD k 0).toNat + (b.getD k 0).toNat) : Nat) : Int) := by rw [Int.natCast_add, Int.natCast_add, Int.add_assoc]
        refine Sat.skip ?_
        refine at_n ?_
        refine Sat.seq ?_
        refine Sat.block ?_
        refine Sat.seq ?_
        -- region 6
        refine Sat.draw [(0, 0), (0, 1), (0, 2), (1, 3), (0, 4), (0, 5), (0, 6), (0, 7), (1, 8), (0, 9), (0, 10), (0, 11)] Mixed (by kernel_rfl) ?_
        refine Tr.move rfl rfl rfl ?_
        refine Tr.move rfl rfl rfl ?_
        first
          | refine Tr.idxArr1 rfl rfl rfl rfl Try.underlying47 Sz5 _ rfl (by omega) ?_
          | refine Tr.idxArrO rfl rfl rfl rfl Try.underlying47 Sz5 _ rfl (by omega) ?_
          | refine Tr.idxArr1 rfl rfl rfl rfl Try.underlying47 Sz5 _ (toNat_back (by omega)) (by omega) ?_
          | refine Tr.idxArrO rfl rfl rfl rfl Try.underlying47 Sz5 _ (toNat_back (by omega)) (by omega) ?_
        refine Tr.load1 rfl rfl rfl Try.underlying5 rfl (by first | exact mem0 | exact mem1 | exact mem2 | exact mem3 | exact mem4 | exact mem5 | exact mem6 | exact mem7) (by first | rfl | exact get_words (by first | omega | (simp [leb_length, words4_length, List.length_replicate, subB_all, padB_all, ha, hb]; done) | (simp [leb_length, words4_length, List.length_replicate, subB_all, padB_all, ha, hb]; omega)) | exact get_bytes (by first | omega | (simp [leb_length, words4_length, List.length_replicate, subB_all, padB_all, ha, hb]; done) | (simp [leb_length, words4_length, List.length_replicate, subB_all, padB_all, ha, hb]; omega)) | exact get_ints (by first | omega | (simp [leb_length, words4_length, List.length_replicate, subB_all, padB_all, ha, hb]; done) | (simp [leb_length, words4_length, List.length_replicate, subB_all, padB_all, ha, hb]; omega))) ?_
        refine Tr.conv rfl rfl rfl Try.underlying5 Try.underlying3 (cv_u8_i64 _) ?_
        refine Tr.add_i64 rfl rfl rfl rfl (by omega) ?_
        refine Tr.move rfl rfl rfl ?_
        first
          | refine Tr.idxArr1 rfl rfl rfl rfl Try.underlying47 Sz5 _ rfl (by omega) ?_
          | refine Tr.idxArrO rfl rfl rfl rfl Try.underlying47 Sz5 _ rfl (by omega) ?_
          | refine Tr.idxArr1 rfl rfl rfl rfl Try.underlying47 Sz5 _ (toNat_back (by omega)) (by omega) ?_
          | refine Tr.idxArrO rfl rfl rfl rfl Try.underlying47 Sz5 _ (toNat_back (by omega)) (by omega) ?_
        refine Tr.load1 rfl rfl rfl Try.underlying5 rfl (by first | exact mem0 | exact mem1 | exact mem2 | exact mem3 | exact mem4 | exact mem5 | exact mem6 | exact mem7) (by first | rfl | exact get_words (by first | omega | (simp [leb_length, words4_length, List.length_replicate, subB_all, padB_all, ha, hb]; done) | (simp [leb_length, words4_length, List.length_replicate, subB_all, padB_all, ha, hb]; omega)) | exact get_bytes (by first | omega | (simp [leb_length, words4_length, List.length_replicate, subB_all, padB_all, ha, hb]; done) | (simp [leb_length, words4_length, List.length_replicate, subB_all, padB_all, ha, hb]; omega)) | exact get_ints (by first | omega | (simp [leb_length, words4_length, List.length_replicate, subB_all, padB_all, ha, hb]; done) | (simp [leb_length, words4_length, List.length_replicate, subB_all, padB_all, ha, hb]; omega))) ?_
        refine Tr.conv rfl rfl rfl Try.underlying5 Try.underlying3 (cv_u8_i64 _) ?_
        refine Tr.add_i64 rfl rfl rfl rfl (by omega) ?_
        refine Tr.assign rfl rfl rfl ?_
        refine Tr.nil ?_
        refine at_n ?_
        refine Sat.seq ?_
        -- region 7
        refine Sat.region ?_
        refine Tr.move rfl rfl rfl ?_
        refine Tr.move rfl rfl rfl ?_
        refine Tr.rem_i64 rfl rfl rfl rfl (by omega) ?_
        refine Tr.conv rfl rfl rfl Try.underlying3 Try.underlying5 (cv_i64_u8 _) ?_
        first
          | refine Tr.idxArr1 rfl rfl rfl rfl Try.underlying47 Sz5 _ rfl (by omega) ?_
          | refine Tr.idxArrO rfl rfl rfl rfl Try.underlying47 Sz5 _ rfl (by omega) ?_
          | refine Tr.idxArr1 rfl rfl rfl rfl Try.underlying47 Sz5 _ (toNat_back (by omega)) (by omega) ?_
          | refine Tr.idxArrO rfl rfl rfl rfl Try.underlying47 Sz5 _ (toNat_back (by omega)) (by omega) ?_
        refine Tr.store1 rfl rfl rfl rfl rfl Sz5 (by first | exact mem0 | exact mem1 | exact mem2 | exact mem3 | exact mem4 | exact mem5 | exact mem6 | exact mem7) (by first | (simp [leb_length, words4_length, List.length_replicate, subB_all, padB_all, ha, hb]; done) | (simp [leb_length, words4_length, List.length_replicate, subB_all, padB_all, ha, hb]; omega)) (by first | exact set_words _ _ _ | exact set_bytes _ _ _ | exact set_ints _ _ _ | rfl) (by first | exact upd0 | exact upd1 | exact upd2 | exact upd3 | exact upd4 | exact upd5 | exact upd6 | exact upd7) ?_
        refine Tr.nil ?_
        refine at_n ?_
        -- region 8
        refine Sat.region ?_
        refine Tr.move rfl rfl rfl ?_
        refine Tr.quo_i64 rfl rfl rfl rfl (by omega) ?_
        refine Tr.assign rfl rfl rfl ?_
        refine Tr.nil ?_
        refine bl_n ?_
        refine at_n ?_
        -- region 5
        refine Sat.region ?_
        refine Tr.move rfl rfl rfl ?_
        refine Tr.add_i64 rfl rfl rfl rfl (by omega) ?_
        refine Tr.assign rfl rfl rfl ?_
        refine Tr.nil ?_
        refine at_n ?_
        have hst : le (a.take (k + 1)) + le (b.take (k + 1)) = (le (a.take k) + le (b.take k)) + 256 ^ k * ((a.getD k 0).toNat + (b.getD k 0).toNat) := by
          rw [le_take_succ a k (by omega), le_take_succ b k (by omega), Nat.mul_add]; omega
        exact ⟨k + 1, by omega, by omega, weak_of (wk1 rfl (wk1 rfl (wk1 rfl (wk1 rfl (wk1 (by rw [hst, ← carry_step _ _ _ _ hs]; rfl) (wk1 rfl wk0)))))) (wh1 (by rw [hst, ← padB_step 32 _ _ k (by omega) _ hs, byteOf_mod]; exact mem0) (wh1 (by first | exact mem0 | exact mem1 | exact mem2 | exact mem3 | exact mem4 | exact mem5 | exact mem6 | exact mem7) (wh1 (by first | exact mem0 | exact mem1 | exact mem2 | exact mem3 | exact mem4 | exact mem5 | exact mem6 | exact mem7) (wh1 (by first | exact mem0 | exact mem1 | exact mem2 | exact mem3 | exact mem4 | exact mem5 | exact mem6 | exact mem7) wh0)))) (by repeat (first | exact ns_nil | refine ns_keep rfl ?_ | refine ns_skip ?_))⟩
      ·
        obtain rfl : k = 32 := by omega
        have hta : le (a.take 32) = le a := by rw [List.take_of_length_le (by omega)]
        have htb : le (b.take 32) = le b := by rw [List.take_of_length_le (by omega)]
        refine Sat.exit ?_
        refine at_x ?_
        refine at_x ?_
        refine bl_h ?_
        refine at_n ?_
        refine ⟨(), trivial, weak_of (wk1 rfl (wk1 rfl wk0)) (wh1 (by rw [← padB_all, ← hta, ← htb]; exact mem0) (wh1 (by first | exact mem0 | exact mem1 | exact mem2 | exact mem3 | exact mem4 | exact mem5 | exact mem6 | exact mem7) wh0)) (by repeat (first | exact ns_nil | refine ns_keep rfl ?_ | refine ns_skip ?_))⟩
  ·
    intro _u hj
    skip
    refine Sat.seq ?_
    refine Sat.seq ?_
    -- region 9
    refine Sat.draw [(1, 0), (3, 1), (3, 2)] Mixed (by kernel_rfl) ?_
    first
      | refine Tr.loadAll rfl rfl rfl Try.underlying47 rfl Sz47 (by first | exact mem0 | exact mem1 | exact mem2 | exact mem3 | exact mem4 | exact mem5 | exact mem6 | exact mem7) (by simp [leb_length, words4_length, List.length_replicate, subB_all, padB_all, ha, hb]) ?_
      | refine Tr.loadN _ rfl rfl rfl Try.underlying47 rfl Sz47 (by first | exact mem0 | exact mem1 | exact mem2 | exact mem3 | exact mem4 | exact mem5 | exact mem6 | exact mem7) (by exact rfl) (by simp [leb_length, words4_length, List.length_replicate, subB_all, padB_all, ha, hb]) ?_
    refine Tr.callV rfl rfl rfl rfl Body54 (ref_L) (fun _ _ => trivial) ?_
    refine Tr.callV rfl rfl rfl rfl Body53 (ref_below _ _ (by simp [leb_length, words4_length, List.length_replicate, subB_all, padB_all, ha, hb]) (by simp [leb_length, words4_length, List.length_replicate, subB_all, padB_all, ha, hb])) (fun _ _ => trivial) ?_
    refine Tr.nil ?_
    refine at_n ?_
    first
      | refine Sat.condP rfl (fun hc1 => ?_) (fun hc1 => ?_)
      | refine Sat.condNP rfl (fun hc1 => ?_) (fun hc1 => ?_)
      | refine Sat.cond rfl (fun hc1 => ?_) (fun hc1 => ?_)
    ·
      have hS : le a + le b < L := by rw [le_leb32 (by omega), le_leb32 L_lt] at hc1; exact hc1
      refine Sat.seq ?_
      -- region 10
      refine Sat.region ?_
      first
        | refine Tr.loadAll rfl rfl rfl Try.underlying47 rfl Sz47 (by first | exact mem0 | exact mem1 | exact mem2 | exact mem3 | exact mem4 | exact mem5 | exact mem6 | exact mem7) (by simp [leb_length, words4_length, List.length_replicate, subB_all, padB_all, ha, hb]) ?_
        | refine Tr.loadN _ rfl rfl rfl Try.underlying47 rfl Sz47 (by first | exact mem0 | exact mem1 | exact mem2 | exact mem3 | exact mem4 | exact mem5 | exact mem6 | exact mem7) (by exact rfl) (by simp [leb_length, words4_length, List.length_replicate, subB_all, padB_all, ha, hb]) ?_
      first
        | refine Tr.storeAll rfl rfl rfl rfl (by simp [isCell]) Sz47 (by simp [leb_length, words4_length, List.length_replicate, subB_all, padB_all, ha, hb]) (by first | exact mem0 | exact mem1 | exact mem2 | exact mem3 | exact mem4 | exact mem5 | exact mem6 | exact mem7) (by simp [leb_length, words4_length, List.length_replicate, subB_all, padB_all, ha, hb]) (by first | exact upd0 | exact upd1 | exact upd2 | exact upd3 | exact upd4 | exact upd5 | exact upd6 | exact upd7) ?_
        | refine Tr.storeN _ rfl rfl rfl rfl rfl (by simp [isCell]) Sz47 (by simp [leb_length, words4_length, List.length_replicate, subB_all, padB_all, ha, hb]) (by first | exact mem0 | exact mem1 | exact mem2 | exact mem3 | exact mem4 | exact mem5 | exact mem6 | exact mem7) (by simp [leb_length, words4_length, List.length_replicate, subB_all, padB_all, ha, hb]) (by exact rfl) (by first | exact upd0 | exact upd1 | exact upd2 | exact upd3 | exact upd4 | exact upd5 | exact upd6 | exact upd7) ?_
      refine Tr.nil ?_
      refine at_n ?_
      refine Sat.ret ?_
      refine at_r ?_
      refine en_r ?_
      refine ⟨_, [], res_cell rfl rfl Try.underlying47 rfl Sz47 (by first | exact mem0 | exact mem1 | exact mem2 | exact mem3 | exact mem4 | exact mem5 | exact mem6 | exact mem7) (by simp [leb_length, words4_length, List.length_replicate, subB_all, padB_all, ha, hb]), (by simp), (by simp), ?_, rfl⟩
      first
        | (rw [Nat.mod_eq_of_lt hS]; done)
        | (rw [subB_all, Nat.mod_eq_sub_mod hge, Nat.mod_eq_of_lt (a := le a + le b - L) (by omega)])
    ·
      have hge : L ≤ le a + le b := by rw [le_leb32 (by omega), le_leb32 L_lt] at hc1; exact Nat.le_of_not_lt hc1
      refine Sat.skip ?_
      refine at_n ?_
      refine Sat.seq ?_
      -- region 11
      refine Sat.region ?_
      refine Tr.callV rfl rfl rfl rfl Body54 (ref_L) (fun _ _ => trivial) ?_
      refine Tr.alloc (cs := (bytesV (List.replicate 32 0))) rfl Zr47 rfl ?_
      intro n8 hn8 hf8
      first
        | refine Tr.storeAll rfl rfl rfl rfl (by simp [isCell]) Sz47 (by simp [leb_length, words4_length, List.length_replicate, subB_all, padB_all, ha, hb]) (by first | exact mem0 | exact mem1 | exact mem2 | exact mem3 | exact mem4 | exact mem5 | exact mem6 | exact mem7) (by simp [leb_length, words4_length, List.length_replicate, subB_all, padB_all, ha, hb]) (by first | exact upd0 | exact upd1 | exact upd2 | exact upd3 | exact upd4 | exact upd5 | exact upd6 | exact upd7) ?_
        | refine Tr.storeN _ rfl rfl rfl rfl rfl (by simp [isCell]) Sz47 (by simp [leb_length, words4_length, List.length_replicate, subB_all, padB_all, ha, hb]) (by first | exact mem0 | exact mem1 | exact mem2 | exact mem3 | exact mem4 | exact mem5 | exact mem6 | exact mem7) (by simp [leb_length, words4_length, List.length_replicate, subB_all, padB_all, ha, hb]) (by exact rfl) (by first | exact upd0 | exact upd1 | exact upd2 | exact upd3 | exact upd4 | exact upd5 | exact upd6 | exact upd7) ?_
      refine Tr.nil ?_
      refine at_n ?_
      refine Sat.seq ?_
      -- region 12
      refine Sat.region ?_
      refine Tr.assign rfl rfl rfl ?_
      refine Tr.nil ?_
      refine at_n ?_
      refine Sat.seq ?_
      refine Sat.seq ?_
      -- region 13
      refine Sat.region ?_
      refine Tr.assign rfl rfl rfl ?_
      refine Tr.nil ?_
      refine at_n ?_
      refine Sat.block ?_
      refine Sat.loop (ι := Nat) (fun k => ⟨[(4, ptr n4 0), (5, ptr n5 0), (8, ptr n8 0), (6, i64 (-((bor (le a + le b - L) L k : Nat) : Int))), (9, i64 (k : Int))], [⟨n8, bytesV (leb 32 L), 47, 32⟩, ⟨n5, bytesV (subB (le a + le b - L) L k), 47, 32⟩, ⟨n4, bytesV (List.replicate 32 0), 47, 32⟩]⟩) (fun k => k ≤ 32) (fun k => 32 - k) (0) ?_ ?_ ?_
      · omega
      · exact weak_of (wk1 rfl (wk1 rfl (wk1 rfl (wk1 (by rw [bor_zero]; rfl) (wk1 rfl wk0))))) (wh1 (by first | exact mem0 | exact mem1 | exact mem2 | exact mem3 | exact mem4 | exact mem5 | exact mem6 | exact mem7) (wh1 (by rw [subB_zero, Nat.sub_add_cancel hge]; exact mem1) (wh1 (by first | exact mem0 | exact mem1 | exact mem2 | exact mem3 | exact mem4 | exact mem5 | exact mem6 | exact mem7) wh0))) (by repeat (first | exact ns_nil | refine ns_keep rfl ?_ | refine ns_skip ?_))
      ·
        rintro k hk
        have hpl := subB_length (le a + le b - L) L k hk
        have hbl := bor_le (le a + le b - L) L k
        refine Sat.seq ?_
        refine Sat.seq ?_
        -- region 14
        refine Sat.region ?_
        refine Tr.move rfl rfl rfl ?_
        refine Tr.lss rfl rfl rfl rfl rfl ?_
        refine Tr.nil ?_
        refine at_n ?_
        first
          | refine Sat.condP rfl (fun hc2 => ?_) (fun hc2 => ?_)
          | refine Sat.condNP rfl (fun hc2 => ?_) (fun hc2 => ?_)
          | refine Sat.cond rfl (fun hc2 => ?_) (fun hc2 => ?_)
        ·
          have hk3 : k < 32 := by omega
          have hx8 := ((subB (le a + le b - L) L k).getD k 0).toNat_lt
          have hy8 := ((leb 32 L).getD k 0).toNat_lt
          have hJ : (((subB (le a + le b - L) L k).getD k 0).toNat : Int) - (((leb 32 L).getD k 0).toNat : Int) + -((bor (le a + le b - L) L k : Nat) : Int) = (((le a + le b - L + L) / 256 ^ k % 256 : Nat) : Int) - ((L / 256 ^ k % 256 : Nat) : Int) + -((bor (le a + le b - L) L k : Nat) : Int) := by rw [subB_get _ _ k hk3, leb_getD 32 L k hk3, ofNat8_toNat, ofNat8_toNat]
          have hbn := bor_next _ _ k _ hJ
          refine Sat.skip ?_
          refine at_n ?_
          refine Sat.join (ι := Unit) (fun _u => ⟨[(4, ptr n4 0), (5, ptr n5 0), (8, ptr n8 0), (6, i64 (-((bor (le a + le b - L) L (k + 1) : Nat) : Int))), (9, i64 (k : Int))], [⟨n8, bytesV (leb 32 L), 47, 32⟩, ⟨n5, bytesV (subB (le a + le b - L) L (k + 1)), 47, 32⟩, ⟨n4, bytesV (List.replicate 32 0), 47, 32⟩]⟩) (fun _u => True) ?_ ?_
          ·
            refine Sat.block ?_
            refine Sat.seq ?_
            -- region 16
            refine Sat.draw [(0, 0), (0, 1), (1, 2), (0, 3), (0, 4), (0, 5), (1, 6), (0, 7), (0, 8), (0, 9), (0, 10), (0, 11)] Mixed (by kernel_rfl) ?_
            refine Tr.move rfl rfl rfl ?_
            first
              | refine Tr.idxArr1 rfl rfl rfl rfl Try.underlying47 Sz5 _ rfl (by omega) ?_
              | refine Tr.idxArrO rfl rfl rfl rfl Try.underlying47 Sz5 _ rfl (by omega) ?_
              | refine Tr.idxArr1 rfl rfl rfl rfl Try.underlying47 Sz5 _ (toNat_back (by omega)) (by omega) ?_
              | refine Tr.idxArrO rfl rfl rfl rfl Try.underlying47 Sz5 _ (toNat_back (by omega)) (by omega) ?_
            refine Tr.load1 rfl rfl rfl Try.underlying5 rfl (by first | exact mem0 | exact mem1 | exact mem2 | exact mem3 | exact mem4 | exact mem5 | exact mem6 | exact mem7) (by first | rfl | exact get_words (by first | omega | (simp [leb_length, words4_length, List.length_replicate, subB_all, padB_all, ha, hb]; done) | (simp [leb_length, words4_length, List.length_replicate, subB_all, padB_all, ha, hb]; omega)) | exact get_bytes (by first | omega | (simp [leb_length, words4_length, List.length_replicate, subB_all, padB_all, ha, hb]; done) | (simp [leb_length, words4_length, List.length_replicate, subB_all, padB_all, ha, hb]; omega)) | exact get_ints (by first | omega | (simp [leb_length, words4_length, List.length_replicate, subB_all, padB_all, ha, hb]; done) | (simp [leb_length, words4_length, List.length_replicate, subB_all, padB_all, ha, hb]; omega))) ?_
            refine Tr.conv rfl rfl rfl Try.underlying5 Try.underlying3 (cv_u8_i64 _) ?_
            refine Tr.move rfl rfl rfl ?_
            first
              | refine Tr.idxArr1 rfl rfl rfl rfl Try.underlying47 Sz5 _ rfl (by omega) ?_
              | refine Tr.idxArrO rfl rfl rfl rfl Try.underlying47 Sz5 _ rfl (by omega) ?_
              | refine Tr.idxArr1 rfl rfl rfl rfl Try.underlying47 Sz5 _ (toNat_back (by omega)) (by omega) ?_
              | refine Tr.idxArrO rfl rfl rfl rfl Try.underlying47 Sz5 _ (toNat_back (by omega)) (by omega) ?_
            refine Tr.load1 rfl rfl rfl Try.underlying5 rfl (by first | exact mem0 | exact mem1 | exact mem2 | exact mem3 | exact mem4 | exact mem5 | exact mem6 | exact mem7) (by first | rfl | exact get_words (by first | omega | (simp [leb_length, words4_length, List.length_replicate, subB_all, padB_all, ha, hb]; done) | (simp [leb_length, words4_length, List.length_replicate, subB_all, padB_all, ha, hb]; omega)) | exact get_bytes (by first | omega | (simp [leb_length, words4_length, List.length_replicate, subB_all, padB_all, ha, hb]; done) | (simp [leb_length, words4_length, List.length_replicate, subB_all, padB_all, ha, hb]; omega)) | exact get_ints (by first | omega | (simp [leb_length, words4_length, List.length_replicate, subB_all, padB_all, ha, hb]; done) | (simp [leb_length, words4_length, List.length_replicate, subB_all, padB_all, ha, hb]; omega))) ?_
            refine Tr.conv rfl rfl rfl Try.underlying5 Try.underlying3 (cv_u8_i64 _) ?_
            refine Tr.sub_i64 rfl rfl rfl rfl (by omega) ?_
            refine Tr.move rfl rfl rfl ?_
            refine Tr.add_i64 rfl rfl rfl rfl (by omega) ?_
            refine Tr.assign rfl rfl rfl ?_
            refine Tr.nil ?_
            refine at_n ?_
            refine Sat.seq ?_
            -- region 17
            refine Sat.region ?_
            refine Tr.move rfl rfl rfl ?_
            refine Tr.move rfl rfl rfl ?_
            refine Tr.add_i64 rfl rfl rfl rfl (by omega) ?_
            refine Tr.rem_i64 rfl rfl rfl rfl (by omega) ?_
            refine Tr.conv rfl rfl rfl Try.underlying3 Try.underlying5 (cv_i64_u8 _) ?_
            first
              | refine Tr.idxArr1 rfl rfl rfl rfl Try.underlying47 Sz5 _ rfl (by omega) ?_
              | refine Tr.idxArrO rfl rfl rfl rfl Try.underlying47 Sz5 _ rfl (by omega) ?_
              | refine Tr.idxArr1 rfl rfl rfl rfl Try.underlying47 Sz5 _ (toNat_back (by omega)) (by omega) ?_
              | refine Tr.idxArrO rfl rfl rfl rfl Try.underlying47 Sz5 _ (toNat_back (by omega)) (by omega) ?_
            refine Tr.store1 rfl rfl rfl rfl rfl Sz5 (by first | exact mem0 | exact mem1 | exact mem2 | exact mem3 | exact mem4 | exact mem5 | exact mem6 | exact mem7) (by first | (simp [leb_length, words4_length, List.length_replicate, subB_all, padB_all, ha, hb]; done) | (simp [leb_length, words4_length, List.length_replicate, subB_all, padB_all, ha, hb]; omega)) (by first | exact set_words _ _ _ | exact set_bytes _ _ _ | exact set_ints _ _ _ | rfl) (by first | exact upd0 | exact upd1 | exact upd2 | exact upd3 | exact upd4 | exact upd5 | exact upd6 | exact upd7) ?_
            refine Tr.nil ?_
            refine at_n ?_
            refine Sat.seq ?_
            -- region 18
            refine Sat.region ?_
            refine Tr.move rfl rfl rfl ?_
            refine Tr.lss rfl rfl rfl rfl rfl ?_
            refine Tr.nil ?_
            refine at_n ?_
            first
              | refine Sat.condP rfl (fun hc3 => ?_) (fun hc3 => ?_)
              | refine Sat.condNP rfl (fun hc3 => ?_) (fun hc3 => ?_)
              | refine Sat.cond rfl (fun hc3 => ?_) (fun hc3 => ?_)
            ·
              have hn3 := hbn.1 hc3
              -- region 19
              refine Sat.region ?_
              refine Tr.assign rfl rfl rfl ?_
              refine Tr.nil ?_
              refine bl_n ?_
              refine at_n ?_
              refine ⟨(), trivial, weak_of (wk1 rfl (wk1 rfl (wk1 rfl (wk1 (by rw [hn3]; rfl) (wk1 rfl wk0))))) (wh1 (by first | exact mem0 | exact mem1 | exact mem2 | exact mem3 | exact mem4 | exact mem5 | exact mem6 | exact mem7) (wh1 (by rw [← subB_step _ _ k hk3 _ hJ, byteOf_mod]; exact mem1) (wh1 (by first | exact mem0 | exact mem1 | exact mem2 | exact mem3 | exact mem4 | exact mem5 | exact mem6 | exact mem7) wh0))) (by repeat (first | exact ns_nil | refine ns_keep rfl ?_ | refine ns_skip ?_))⟩
            ·
              have hn3 := hbn.2 hc3
              -- region 20
              refine Sat.region ?_
              refine Tr.assign rfl rfl rfl ?_
              refine Tr.nil ?_
              refine bl_n ?_
              refine at_n ?_
              refine ⟨(), trivial, weak_of (wk1 rfl (wk1 rfl (wk1 rfl (wk1 (by rw [hn3]; rfl) (wk1 rfl wk0))))) (wh1 (by first | exact mem0 | exact mem1 | exact mem2 | exact mem3 | exact mem4 | exact mem5 | exact mem6 | exact mem7) (wh1 (by rw [← subB_step _ _ k hk3 _ hJ, byteOf_mod]; exact mem1) (wh1 (by first | exact mem0 | exact mem1 | exact mem2 | exact mem3 | exact mem4 | exact mem5 | exact mem6 | exact mem7) wh0))) (by repeat (first | exact ns_nil | refine ns_keep rfl ?_ | refine ns_skip ?_))⟩
          ·
            intro _u hj
            skip
            -- region 15
            refine Sat.region ?_
            refine Tr.move rfl rfl rfl ?_
            refine Tr.add_i64 rfl rfl rfl rfl (by omega) ?_
            refine Tr.assign rfl rfl rfl ?_
            refine Tr.nil ?_
            refine at_n ?_
            exact ⟨k + 1, by omega, by omega, weak_of (wk1 rfl (wk1 rfl (wk1 rfl (wk1 rfl (wk1 rfl wk0))))) (wh1 (by first | exact mem0 | exact mem1 | exact mem2 | exact mem3 | exact mem4 | exact mem5 | exact mem6 | exact mem7) (wh1 (by first | exact mem0 | exact mem1 | exact mem2 | exact mem3 | exact mem4 | exact mem5 | exact mem6 | exact mem7) (wh1 (by first | exact mem0 | exact mem1 | exact mem2 | exact mem3 | exact mem4 | exact mem5 | exact mem6 | exact mem7) wh0))) (by repeat (first | exact ns_nil | refine ns_keep rfl ?_ | refine ns_skip ?_))⟩
        ·
          obtain rfl : k = 32 := by omega
          refine Sat.exit ?_
          refine at_x ?_
          refine at_x ?_
          refine bl_h ?_
          refine at_n ?_
          refine Sat.seq ?_
          -- region 21
          refine Sat.region ?_
          first
            | refine Tr.loadAll rfl rfl rfl Try.underlying47 rfl Sz47 (by first | exact mem0 | exact mem1 | exact mem2 | exact mem3 | exact mem4 | exact mem5 | exact mem6 | exact mem7) (by simp [leb_length, words4_length, List.length_replicate, subB_all, padB_all, ha, hb]) ?_
            | refine Tr.loadN _ rfl rfl rfl Try.underlying47 rfl Sz47 (by first | exact mem0 | exact mem1 | exact mem2 | exact mem3 | exact mem4 | exact mem5 | exact mem6 | exact mem7) (by exact rfl) (by simp [leb_length, words4_length, List.length_replicate, subB_all, padB_all, ha, hb]) ?_
          first
            | refine Tr.storeAll rfl rfl rfl rfl (by simp [isCell]) Sz47 (by simp [leb_length, words4_length, List.length_replicate, subB_all, padB_all, ha, hb]) (by first | exact mem0 | exact mem1 | exact mem2 | exact mem3 | exact mem4 | exact mem5 | exact mem6 | exact mem7) (by simp [leb_length, words4_length, List.length_replicate, subB_all, padB_all, ha, hb]) (by first | exact upd0 | exact upd1 | exact upd2 | exact upd3 | exact upd4 | exact upd5 | exact upd6 | exact upd7) ?_
            | refine Tr.storeN _ rfl rfl rfl rfl rfl (by simp [isCell]) Sz47 (by simp [leb_length, words4_length, List.length_replicate, subB_all, padB_all, ha, hb]) (by first | exact mem0 | exact mem1 | exact mem2 | exact mem3 | exact mem4 | exact mem5 | exact mem6 | exact mem7) (by simp [leb_length, words4_length, List.length_replicate, subB_all, padB_all, ha, hb]) (by exact rfl) (by first | exact upd0 | exact upd1 | exact upd2 | exact upd3 | exact upd4 | exact upd5 | exact upd6 | exact upd7) ?_
          refine Tr.nil ?_
          refine at_n ?_
          refine Sat.ret ?_
          refine en_r ?_
          refine ⟨_, [], res_cell rfl rfl Try.underlying47 rfl Sz47 (by first | exact mem0 | exact mem1 | exact mem2 | exact mem3 | exact mem4 | exact mem5 | exact mem6 | exact mem7) (by simp [leb_length, words4_length, List.length_replicate, subB_all, padB_all, ha, hb]), (by simp), (by simp), ?_, rfl⟩
          first
            | (rw [Nat.mod_eq_of_lt hS]; done)
            | (rw [subB_all, Nat.mod_eq_sub_mod hge, Nat.mod_eq_of_lt (a := le a + le b - L) (by omega)])


theorem ref_plus_n (x y : Nat) (hx : x < L) (hy : y < L) : Meets Try.prog 55 [agg (bytesV (leb 32 x)), agg (bytesV (leb 32 y))] [] (fun _ => True) (fun v out => v = agg (bytesV (leb 32 ((x + y) % L))) ∧ out = []) := by
  have e1 := le_leb32 (Nat.lt_trans hx L_lt)
  have e2 := le_leb32 (Nat.lt_trans hy L_lt)
  have := ref_plus (leb 32 x) (leb 32 y) (leb_length 32 x) (leb_length 32 y) (by rw [e1]; exact hx) (by rw [e2]; exact hy)
  rw [e1, e2] at this
  exact this
theorem ref_plus_one (x : Nat) (hx : x < L) : Meets Try.prog 55 [agg (bytesV (leb 32 x)), agg (bytesV ((List.replicate 32 0).set 0 1))] [] (fun _ => True) (fun v out => v = agg (bytesV (leb 32 ((x + 1) % L))) ∧ out = []) := by
  have e1 := le_leb32 (Nat.lt_trans hx L_lt)
  have := ref_plus (leb 32 x) ((List.replicate 32 0).set 0 1) (leb_length 32 x) (by simp) (by rw [e1]; exact hx) (by rw [le_one']; decide)
  rw [e1, le_one'] at this
  exact this


set_option maxRecDepth 100000 in
set_option maxHeartbeats 1000000 in
theorem ref_rest (b o c n : Nat) (xs : List UInt8) (hx : xs.length = n) (hn : n ≤ 1000000) : Meets Try.prog 52 [.slice (some ⟨b, o, none⟩) n c] [] (fun W => Sees W b o (bytesV xs)) (fun v out => v = agg (bytesV (leb 32 (le xs % L))) ∧ out = []) := by
  intro W hW
  refine calls_of (hp0 := []) Try.func52 rfl 33 Try.ntmps52 rfl (HRep.nil _) ?_
  refine Sat.seq ?_
  -- region 0
  refine Sat.region ?_
  refine Tr.alloc (cs := (bytesV (List.replicate 32 0))) rfl Zr47 rfl ?_
  intro n2 hn2 hf2
  refine Tr.nil ?_
  refine at_n ?_
  refine Sat.seq ?_
  -- region 1
  refine Sat.region ?_
  refine Tr.alloc (cs := (bytesV (List.replicate 32 0))) rfl Zr47 rfl ?_
  intro n3 hn3 hf3
  refine Tr.alloc (cs := (bytesV (List.replicate 32 0))) rfl Zr47 rfl ?_
  intro n4 hn4 hf4
  refine Tr.nil ?_
  refine at_n ?_
  refine Sat.seq ?_
  -- region 2
  refine Sat.region ?_
  first
    | refine Tr.idxArr1 rfl rfl rfl rfl Try.underlying47 Sz5 0 rfl (by decide) ?_
    | refine Tr.idxArrO rfl rfl rfl rfl Try.underlying47 Sz5 0 rfl (by decide) ?_
  refine Tr.store1 rfl rfl rfl (show evIn _ _ = some (u8 1) from rfl) rfl Sz5 (by first | exact mem0 | exact mem1 | exact mem2 | exact mem3 | exact mem4 | exact mem5 | exact mem6 | exact mem7) (by first | (simp [leb_length, words4_length, List.length_replicate, subB_all, padB_all, hx]; done) | (simp [leb_length, words4_length, List.length_replicate, subB_all, padB_all, hx]; omega)) (by first | exact set_words _ _ _ | exact set_bytes _ _ _ | exact set_ints _ _ _ | rfl) (by first | exact upd0 | exact upd1 | exact upd2 | exact upd3 | exact upd4 | exact upd5 | exact upd6 | exact upd7) ?_
  refine Tr.nil ?_
  refine at_n ?_
  refine Sat.seq ?_
  refine Sat.seq ?_
  -- region 3
  refine Sat.region ?_
  refine Tr.move rfl rfl rfl ?_
  refine Tr.lenSl rfl rfl rfl Try.underlying27 ?_
  refine Tr.mul_i64 rfl rfl rfl rfl (by omega) ?_
  refine Tr.sub_i64 rfl rfl rfl rfl (by omega) ?_
  refine Tr.assign rfl rfl rfl ?_
  refine Tr.nil ?_
  refine at_n ?_
  refine Sat.block ?_
  refine Sat.loop (ι := Nat) (fun k => ⟨[(0, .slice (some ⟨b, o, none⟩) n c), (2, ptr n2 0), (3, ptr n3 0), (4, ptr n4 0), (5, i64 (8 * (n : Int) - 1 - (k : Int)))], [⟨n4, bytesV ((List.replicate 32 0).set 0 1), 47, 32⟩, ⟨n3, bytesV (leb 32 ((le xs / 2 ^ (8 * n - k)) % L)), 47, 32⟩, ⟨n2, bytesV (List.replicate 32 0), 47, 32⟩]⟩) (fun k => k ≤ 8 * n) (fun k => 8 * n - k) (0) ?_ ?_ ?_
  · omega
  · exact weak_of (wk1 rfl (wk1 rfl (wk1 rfl (wk1 rfl (wk1 (by rw [show (8 * (n : Int) - 1 - ((0 : Nat) : Int)) = 8 * (n : Int) - 1 by omega]; rfl) wk0))))) (wh1 (by first | exact mem0 | exact mem1 | exact mem2 | exact mem3 | exact mem4 | exact mem5 | exact mem6 | exact mem7) (wh1 (by rw [Nat.sub_zero, le_zero_div xs n hx, zero_modL, leb_zero32]; exact mem1) (wh1 (by first | exact mem0 | exact mem1 | exact mem2 | exact mem3 | exact mem4 | exact mem5 | exact mem6 | exact mem7) wh0))) (by repeat (first | exact ns_nil | refine ns_keep rfl ?_ | refine ns_skip ?_))
  ·
    rintro k hk
    refine Sat.seq ?_
    refine Sat.seq ?_
    -- region 4
    refine Sat.region ?_
    refine Tr.move rfl rfl rfl ?_
    refine Tr.geq rfl rfl rfl rfl rfl ?_
    refine Tr.nil ?_
    refine at_n ?_
    first
      | refine Sat.condP rfl (fun hc0 => ?_) (fun hc0 => ?_)
      | refine Sat.condNP rfl (fun hc0 => ?_) (fun hc0 => ?_)
      | refine Sat.cond rfl (fun hc0 => ?_) (fun hc0 => ?_)
    ·
      have hk2 : k < 8 * n := by omega
      have hdv := div_bit (le xs) (8 * n - (k + 1))
      rw [show 8 * n - (k + 1) + 1 = 8 * n - k by omega] at hdv
      have hbr := bit_rem xs (8 * n - (k + 1))
      rw [show 8 * n - (k + 1) = 8 * n - 1 - k by omega] at hbr hdv
      refine Sat.skip ?_
      refine at_n ?_
      refine Sat.join (ι := Unit) (fun _u => ⟨[(0, .slice (some ⟨b, o, none⟩) n c), (2, ptr n2 0), (3, ptr n3 0), (4, ptr n4 0), (5, i64 (8 * (n : Int) - 1 - (k : Int)))], [⟨n4, bytesV ((List.replicate 32 0).set 0 1), 47, 32⟩, ⟨n3, bytesV (leb 32 ((le xs / 2 ^ (8 * n - (k + 1))) % L)), 47, 32⟩, ⟨n2, bytesV (List.replicate 32 0), 47, 32⟩]⟩) (fun _u => True) ?_ ?_
      ·
        refine Sat.block ?_
        refine Sat.seq ?_
        -- region 6
        refine Sat.region ?_
        first
          | refine Tr.loadAll rfl rfl rfl Try.underlying47 rfl Sz47 (by first | exact mem0 | exact mem1 | exact mem2 | exact mem3 | exact mem4 | exact mem5 | exact mem6 | exact mem7) (by simp [leb_length, words4_length, List.length_replicate, subB_all, padB_all, hx]) ?_
          | refine Tr.loadN _ rfl rfl rfl Try.underlying47 rfl Sz47 (by first | exact mem0 | exact mem1 | exact mem2 | exact mem3 | exact mem4 | exact mem5 | exact mem6 | exact mem7) (by exact rfl) (by simp [leb_length, words4_length, List.length_replicate, subB_all, padB_all, hx]) ?_
        first
          | refine Tr.loadAll rfl rfl rfl Try.underlying47 rfl Sz47 (by first | exact mem0 | exact mem1 | exact mem2 | exact mem3 | exact mem4 | exact mem5 | exact mem6 | exact mem7) (by simp [leb_length, words4_length, List.length_replicate, subB_all, padB_all, hx]) ?_
          | refine Tr.loadN _ rfl rfl rfl Try.underlying47 rfl Sz47 (by first | exact mem0 | exact mem1 | exact mem2 | exact mem3 | exact mem4 | exact mem5 | exact mem6 | exact mem7) (by exact rfl) (by simp [leb_length, words4_length, List.length_replicate, subB_all, padB_all, hx]) ?_
        refine Tr.callV rfl rfl rfl rfl Body55 (ref_plus_n _ _ (Nat.mod_lt _ L_pos) (Nat.mod_lt _ L_pos)) (fun _ _ => trivial) ?_
        first
          | refine Tr.storeAll rfl rfl rfl rfl (by simp [isCell]) Sz47 (by simp [leb_length, words4_length, List.length_replicate, subB_all, padB_all, hx]) (by first | exact mem0 | exact mem1 | exact mem2 | exact mem3 | exact mem4 | exact mem5 | exact mem6 | exact mem7) (by simp [leb_length, words4_length, List.length_replicate, subB_all, padB_all, hx]) (by first | exact upd0 | exact upd1 | exact upd2 | exact upd3 | exact upd4 | exact upd5 | exact upd6 | exact upd7) ?_
          | refine Tr.storeN _ rfl rfl rfl rfl rfl (by simp [isCell]) Sz47 (by simp [leb_length, words4_length, List.length_replicate, subB_all, padB_all, hx]) (by first | exact mem0 | exact mem1 | exact mem2 | exact mem3 | exact mem4 | exact mem5 | exact mem6 | exact mem7) (by simp [leb_length, words4_length, List.length_replicate, subB_all, padB_all, hx]) (by exact rfl) (by first | exact upd0 | exact upd1 | exact upd2 | exact upd3 | exact upd4 | exact upd5 | exact upd6 | exact upd7) ?_
        refine Tr.nil ?_
        refine at_n ?_
        refine Sat.seq ?_
        -- region 7
        refine Sat.region ?_
        refine Tr.move rfl rfl rfl ?_
        refine Tr.move rfl rfl rfl ?_
        refine Tr.quo_i64 rfl rfl rfl rfl (by omega) ?_
        first
          | refine Tr.idxSl1 rfl rfl rfl rfl Try.underlying27 Sz5 ((8 * n - 1 - k) / 8) (by omega) (by omega) ?_
          | refine Tr.idxSlO rfl rfl rfl rfl Try.underlying27 Sz5 ((8 * n - 1 - k) / 8) (by omega) (by omega) ?_
        refine Tr.loadE rfl rfl rfl Try.underlying5 rfl (by simp) (hW _ _ (get_bytes (by omega))) ?_
        refine Tr.move rfl rfl rfl ?_
        refine Tr.rem_i64 rfl rfl rfl rfl (by omega) ?_
        refine Tr.conv rfl rfl rfl Try.underlying3 Try.underlying80 (cv_i64_u64 _) ?_
        refine Tr.shr_u8 rfl rfl rfl rfl ((8 * n - 1 - k) % 8) (by rw [wordOf_id _ (by omega)]; omega) (by omega) ?_
        refine Tr.rem_u8 rfl rfl rfl rfl 2 rfl (by decide) ?_
        refine Tr.eqi rfl rfl rfl rfl rfl ?_
        refine Tr.nil ?_
        refine at_n ?_
        first
          | refine Sat.condP rfl (fun hc1 => ?_) (fun hc1 => ?_)
          | refine Sat.condNP rfl (fun hc1 => ?_) (fun hc1 => ?_)
          | refine Sat.cond rfl (fun hc1 => ?_) (fun hc1 => ?_)
        ·
          have hdb : le xs / 2 ^ (8 * n - (k + 1)) = 2 * (le xs / 2 ^ (8 * n - k)) + 1 := by rw [show 8 * n - (k + 1) = 8 * n - 1 - k by omega, hdv, ← hbr, if_pos (decide_eq_true hc1)]
          -- region 8
          refine Sat.region ?_
          first
            | refine Tr.loadAll rfl rfl rfl Try.underlying47 rfl Sz47 (by first | exact mem0 | exact mem1 | exact mem2 | exact mem3 | exact mem4 | exact mem5 | exact mem6 | exact mem7) (by simp [leb_length, words4_length, List.length_replicate, subB_all, padB_all, hx]) ?_
            | refine Tr.loadN _ rfl rfl rfl Try.underlying47 rfl Sz47 (by first | exact mem0 | exact mem1 | exact mem2 | exact mem3 | exact mem4 | exact mem5 | exact mem6 | exact mem7) (by exact rfl) (by simp [leb_length, words4_length, List.length_replicate, subB_all, padB_all, hx]) ?_
          first
            | refine Tr.loadAll rfl rfl rfl Try.underlying47 rfl Sz47 (by first | exact mem0 | exact mem1 | exact mem2 | exact mem3 | exact mem4 | exact mem5 | exact mem6 | exact mem7) (by simp [leb_length, words4_length, List.length_replicate, subB_all, padB_all, hx]) ?_
            | refine Tr.loadN _ rfl rfl rfl Try.underlying47 rfl Sz47 (by first | exact mem0 | exact mem1 | exact mem2 | exact mem3 | exact mem4 | exact mem5 | exact mem6 | exact mem7) (by exact rfl) (by simp [leb_length, words4_length, List.length_replicate, subB_all, padB_all, hx]) ?_
          refine Tr.callV rfl rfl rfl rfl Body55 (ref_plus_one _ (Nat.mod_lt _ L_pos)) (fun _ _ => trivial) ?_
          first
            | refine Tr.storeAll rfl rfl rfl rfl (by simp [isCell]) Sz47 (by simp [leb_length, words4_length, List.length_replicate, subB_all, padB_all, hx]) (by first | exact mem0 | exact mem1 | exact mem2 | exact mem3 | exact mem4 | exact mem5 | exact mem6 | exact mem7) (by simp [leb_length, words4_length, List.length_replicate, subB_all, padB_all, hx]) (by first | exact upd0 | exact upd1 | exact upd2 | exact upd3 | exact upd4 | exact upd5 | exact upd6 | exact upd7) ?_
            | refine Tr.storeN _ rfl rfl rfl rfl rfl (by simp [isCell]) Sz47 (by simp [leb_length, words4_length, List.length_replicate, subB_all, padB_all, hx]) (by first | exact mem0 | exact mem1 | exact mem2 | exact mem3 | exact mem4 | exact mem5 | exact mem6 | exact mem7) (by simp [leb_length, words4_length, List.length_replicate, subB_all, padB_all, hx]) (by exact rfl) (by first | exact upd0 | exact upd1 | exact upd2 | exact upd3 | exact upd4 | exact upd5 | exact upd6 | exact upd7) ?_
          refine Tr.nil ?_
          refine bl_n ?_
          refine at_n ?_
          refine ⟨(), trivial, weak_of (wk1 rfl (wk1 rfl (wk1 rfl (wk1 rfl (wk1 rfl wk0))))) (wh1 (by first | exact mem0 | exact mem1 | exact mem2 | exact mem3 | exact mem4 | exact mem5 | exact mem6 | exact mem7) (wh1 (by first | (rw [hdb, ← dbl_mod]; exact mem1) | (rw [hdb, ← dbl_mod1]; exact mem1)) (wh1 (by first | exact mem0 | exact mem1 | exact mem2 | exact mem3 | exact mem4 | exact mem5 | exact mem6 | exact mem7) wh0))) (by repeat (first | exact ns_nil | refine ns_keep rfl ?_ | refine ns_skip ?_))⟩
        ·
          have hdb : le xs / 2 ^ (8 * n - (k + 1)) = 2 * (le xs / 2 ^ (8 * n - k)) := by rw [show 8 * n - (k + 1) = 8 * n - 1 - k by omega, hdv, ← hbr, if_neg (by simpa using hc1), Nat.add_zero]
          refine Sat.skip ?_
          refine bl_n ?_
          refine at_n ?_
          refine ⟨(), trivial, weak_of (wk1 rfl (wk1 rfl (wk1 rfl (wk1 rfl (wk1 rfl wk0))))) (wh1 (by first | exact mem0 | exact mem1 | exact mem2 | exact mem3 | exact mem4 | exact mem5 | exact mem6 | exact mem7) (wh1 (by first | (rw [hdb, ← dbl_mod]; exact mem1) | (rw [hdb, ← dbl_mod1]; exact mem1)) (wh1 (by first | exact mem0 | exact mem1 | exact mem2 | exact mem3 | exact mem4 | exact mem5 | exact mem6 | exact mem7) wh0))) (by repeat (first | exact ns_nil | refine ns_keep rfl ?_ | refine ns_skip ?_))⟩
      ·
        intro _u hj
        skip
        -- region 5
        refine Sat.region ?_
        refine Tr.move rfl rfl rfl ?_
        refine Tr.sub_i64 rfl rfl rfl rfl (by omega) ?_
        refine Tr.assign rfl rfl rfl ?_
        refine Tr.nil ?_
        refine at_n ?_
        exact ⟨k + 1, by omega, by omega, weak_of (wk1 rfl (wk1 rfl (wk1 rfl (wk1 rfl (wk1 (by rw [show (8 * (n : Int) - 1 - ((k + 1 : Nat) : Int)) = 8 * (n : Int) - 1 - (k : Int) - 1 by omega]; rfl) wk0))))) (wh1 (by first | exact mem0 | exact mem1 | exact mem2 | exact mem3 | exact mem4 | exact mem5 | exact mem6 | exact mem7) (wh1 (by first | exact mem0 | exact mem1 | exact mem2 | exact mem3 | exact mem4 | exact mem5 | exact mem6 | exact mem7) (wh1 (by first | exact mem0 | exact mem1 | exact mem2 | exact mem3 | exact mem4 | exact mem5 | exact mem6 | exact mem7) wh0))) (by repeat (first | exact ns_nil | refine ns_keep rfl ?_ | refine ns_skip ?_))⟩
    ·
      obtain rfl : k = 8 * n := by omega
      refine Sat.exit ?_
      refine at_x ?_
      refine at_x ?_
      refine bl_h ?_
      refine at_n ?_
      refine Sat.seq ?_
      -- region 9
      refine Sat.region ?_
      first
        | refine Tr.loadAll rfl rfl rfl Try.underlying47 rfl Sz47 (by first | exact mem0 | exact mem1 | exact mem2 | exact mem3 | exact mem4 | exact mem5 | exact mem6 | exact mem7) (by simp [leb_length, words4_length, List.length_replicate, subB_all, padB_all, hx]) ?_
        | refine Tr.loadN _ rfl rfl rfl Try.underlying47 rfl Sz47 (by first | exact mem0 | exact mem1 | exact mem2 | exact mem3 | exact mem4 | exact mem5 | exact mem6 | exact mem7) (by exact rfl) (by simp [leb_length, words4_length, List.length_replicate, subB_all, padB_all, hx]) ?_
      first
        | refine Tr.storeAll rfl rfl rfl rfl (by simp [isCell]) Sz47 (by simp [leb_length, words4_length, List.length_replicate, subB_all, padB_all, hx]) (by first | exact mem0 | exact mem1 | exact mem2 | exact mem3 | exact mem4 | exact mem5 | exact mem6 | exact mem7) (by simp [leb_length, words4_length, List.length_replicate, subB_all, padB_all, hx]) (by first | exact upd0 | exact upd1 | exact upd2 | exact upd3 | exact upd4 | exact upd5 | exact upd6 | exact upd7) ?_
        | refine Tr.storeN _ rfl rfl rfl rfl rfl (by simp [isCell]) Sz47 (by simp [leb_length, words4_length, List.length_replicate, subB_all, padB_all, hx]) (by first | exact mem0 | exact mem1 | exact mem2 | exact mem3 | exact mem4 | exact mem5 | exact mem6 | exact mem7) (by simp [leb_length, words4_length, List.length_replicate, subB_all, padB_all, hx]) (by exact rfl) (by first | exact upd0 | exact upd1 | exact upd2 | exact upd3 | exact upd4 | exact upd5 | exact upd6 | exact upd7) ?_
      refine Tr.nil ?_
      refine at_n ?_
      refine Sat.ret ?_
      refine en_r ?_
      refine ⟨_, [], res_cell rfl rfl Try.underlying47 rfl Sz47 (by first | exact mem0 | exact mem1 | exact mem2 | exact mem3 | exact mem4 | exact mem5 | exact mem6 | exact mem7) (by simp [leb_length, words4_length, List.length_replicate, subB_all, padB_all, hx]), (by simp), (by simp), ?_, rfl⟩
      rw [Nat.sub_self, Nat.pow_zero, Nat.div_one]

set_option maxRecDepth 100000 in
set_option maxHeartbeats 1000000 in
theorem ref_rest_nil  : Meets Try.prog 52 [.slice none 0 0] [] (fun _ => True) (fun v out => v = agg (bytesV (leb 32 0)) ∧ out = []) := by
  intro W hW
  refine calls_of (hp0 := []) Try.func52 rfl 33 Try.ntmps52 rfl (HRep.nil _) ?_
  refine Sat.seq ?_
  -- region 0
  refine Sat.region ?_
  refine Tr.alloc (cs := (bytesV (List.replicate 32 0))) rfl Zr47 rfl ?_
  intro n2 hn2 hf2
  refine Tr.nil ?_
  refine at_n ?_
  refine Sat.seq ?_
  -- region 1
  refine Sat.region ?_
  refine Tr.alloc (cs := (bytesV (List.replicate 32 0))) rfl Zr47 rfl ?_
  intro n3 hn3 hf3
  refine Tr.alloc (cs := (bytesV (List.replicate 32 0))) rfl Zr47 rfl ?_
  intro n4 hn4 hf4
  refine Tr.nil ?_
  refine at_n ?_
  refine Sat.seq ?_
  -- region 2
  refine Sat.region ?_
  first
    | refine Tr.idxArr1 rfl rfl rfl rfl Try.underlying47 Sz5 0 rfl (by decide) ?_
    | refine Tr.idxArrO rfl rfl rfl rfl Try.underlying47 Sz5 0 rfl (by decide) ?_
  refine Tr.store1 rfl rfl rfl (show evIn _ _ = some (u8 1) from rfl) rfl Sz5 (by first | exact mem0 | exact mem1 | exact mem2 | exact mem3 | exact mem4 | exact mem5 | exact mem6 | exact mem7) (by first | (simp [leb_length, words4_length, List.length_replicate, subB_all, padB_all]; done) | (simp [leb_length, words4_length, List.length_replicate, subB_all, padB_all]; omega)) (by first | exact set_words _ _ _ | exact set_bytes _ _ _ | exact set_ints _ _ _ | rfl) (by first | exact upd0 | exact upd1 | exact upd2 | exact upd3 | exact upd4 | exact upd5 | exact upd6 | exact upd7) ?_
  refine Tr.nil ?_
  refine at_n ?_
  refine Sat.seq ?_
  refine Sat.seq ?_
  -- region 3
  refine Sat.region ?_
  refine Tr.move rfl rfl rfl ?_
  refine Tr.lenSl rfl rfl rfl Try.underlying27 ?_
  refine Tr.mul_i64 rfl rfl rfl rfl (by omega) ?_
  refine Tr.sub_i64 rfl rfl rfl rfl (by omega) ?_
  refine Tr.assign rfl rfl rfl ?_
  refine Tr.nil ?_
  refine at_n ?_
  refine Sat.block ?_
  refine Sat.loop (ι := Unit) (fun _u => ⟨[(2, ptr n2 0), (3, ptr n3 0), (5, i64 (-1))], [⟨n3, bytesV (List.replicate 32 0), 47, 32⟩, ⟨n2, bytesV (List.replicate 32 0), 47, 32⟩]⟩) (fun _u => True) (fun _u => 0) (()) ?_ ?_ ?_
  · trivial
  · exact weak_of (wk1 rfl (wk1 rfl (wk1 rfl wk0))) (wh1 (by first | exact mem0 | exact mem1 | exact mem2 | exact mem3 | exact mem4 | exact mem5 | exact mem6 | exact mem7) (wh1 (by first | exact mem0 | exact mem1 | exact mem2 | exact mem3 | exact mem4 | exact mem5 | exact mem6 | exact mem7) wh0)) (by repeat (first | exact ns_nil | refine ns_keep rfl ?_ | refine ns_skip ?_))
  ·
    rintro _ _
    refine Sat.seq ?_
    refine Sat.seq ?_
    -- region 4
    refine Sat.region ?_
    refine Tr.move rfl rfl rfl ?_
    refine Tr.geq rfl rfl rfl rfl rfl ?_
    refine Tr.nil ?_
    refine at_n ?_
    refine Sat.cond_f rfl (rfl) ?_
    refine Sat.exit ?_
    refine at_x ?_
    refine at_x ?_
    refine bl_h ?_
    refine at_n ?_
    refine Sat.seq ?_
    -- region 9
    refine Sat.region ?_
    first
      | refine Tr.loadAll rfl rfl rfl Try.underlying47 rfl Sz47 (by first | exact mem0 | exact mem1 | exact mem2 | exact mem3 | exact mem4 | exact mem5 | exact mem6 | exact mem7) (by simp [leb_length, words4_length, List.length_replicate, subB_all, padB_all]) ?_
      | refine Tr.loadN _ rfl rfl rfl Try.underlying47 rfl Sz47 (by first | exact mem0 | exact mem1 | exact mem2 | exact mem3 | exact mem4 | exact mem5 | exact mem6 | exact mem7) (by exact rfl) (by simp [leb_length, words4_length, List.length_replicate, subB_all, padB_all]) ?_
    first
      | refine Tr.storeAll rfl rfl rfl rfl (by simp [isCell]) Sz47 (by simp [leb_length, words4_length, List.length_replicate, subB_all, padB_all]) (by first | exact mem0 | exact mem1 | exact mem2 | exact mem3 | exact mem4 | exact mem5 | exact mem6 | exact mem7) (by simp [leb_length, words4_length, List.length_replicate, subB_all, padB_all]) (by first | exact upd0 | exact upd1 | exact upd2 | exact upd3 | exact upd4 | exact upd5 | exact upd6 | exact upd7) ?_
      | refine Tr.storeN _ rfl rfl rfl rfl rfl (by simp [isCell]) Sz47 (by simp [leb_length, words4_length, List.length_replicate, subB_all, padB_all]) (by first | exact mem0 | exact mem1 | exact mem2 | exact mem3 | exact mem4 | exact mem5 | exact mem6 | exact mem7) (by simp [leb_length, words4_length, List.length_replicate, subB_all, padB_all]) (by exact rfl) (by first | exact upd0 | exact upd1 | exact upd2 | exact upd3 | exact upd4 | exact upd5 | exact upd6 | exact upd7) ?_
    refine Tr.nil ?_
    refine at_n ?_
    refine Sat.ret ?_
    refine en_r ?_
    refine ⟨_, [], res_cell rfl rfl Try.underlying47 rfl Sz47 (by first | exact mem0 | exact mem1 | exact mem2 | exact mem3 | exact mem4 | exact mem5 | exact mem6 | exact mem7) (by simp [leb_length, words4_length, List.length_replicate, subB_all, padB_all]), (by simp), (by simp), ?_, rfl⟩
    rw [leb_zero32]

set_option maxRecDepth 100000 in
set_option maxHeartbeats 1000000 in
theorem ref_Rest (b o c n : Nat) (xs : List UInt8) (hx : xs.length = n) (hn : n ≤ 64) : Meets Try.prog 30 [.slice (some ⟨b, o, none⟩) n c] [] (fun W => Sees W b o (bytesV xs)) (fun v out => v = .tuple #[agg (bytesV (leb 32 (le xs % L))), i64 0] ∧ out = []) := by
  intro W hW
  refine calls_of (hp0 := []) Try.func30 rfl 10 Try.ntmps30 rfl (HRep.nil _) ?_
  refine Sat.seq ?_
  -- region 0
  refine Sat.region ?_
  refine Tr.alloc (cs := (bytesV (List.replicate 32 0))) rfl Zr47 rfl ?_
  intro n2 hn2 hf2
  refine Tr.assign rfl rfl rfl ?_
  refine Tr.nil ?_
  refine at_n ?_
  refine Sat.seq ?_
  refine Sat.seq ?_
  -- region 1
  refine Sat.region ?_
  refine Tr.move rfl rfl rfl ?_
  refine Tr.lenSl rfl rfl rfl Try.underlying27 ?_
  refine Tr.gtr rfl rfl rfl rfl (decide_eq_false (by omega)) ?_
  refine Tr.nil ?_
  refine at_n ?_
  refine Sat.cond_f rfl (rfl) ?_
  refine Sat.skip ?_
  refine at_n ?_
  refine Sat.seq ?_
  -- region 3
  refine Sat.region ?_
  refine Tr.move rfl rfl rfl ?_
  refine Tr.callV rfl rfl rfl rfl Body52 (ref_rest _ _ _ n xs hx (by omega)) (fun W h => sees_ext h (by simp) hW) ?_
  first
    | refine Tr.storeAll rfl rfl rfl rfl (by simp [isCell]) Sz47 (by simp [leb_length, words4_length, List.length_replicate, subB_all, padB_all, hx]) (by first | exact mem0 | exact mem1 | exact mem2 | exact mem3 | exact mem4 | exact mem5 | exact mem6 | exact mem7) (by simp [leb_length, words4_length, List.length_replicate, subB_all, padB_all, hx]) (by first | exact upd0 | exact upd1 | exact upd2 | exact upd3 | exact upd4 | exact upd5 | exact upd6 | exact upd7) ?_
    | refine Tr.storeN _ rfl rfl rfl rfl rfl (by simp [isCell]) Sz47 (by simp [leb_length, words4_length, List.length_replicate, subB_all, padB_all, hx]) (by first | exact mem0 | exact mem1 | exact mem2 | exact mem3 | exact mem4 | exact mem5 | exact mem6 | exact mem7) (by simp [leb_length, words4_length, List.length_replicate, subB_all, padB_all, hx]) (by exact rfl) (by first | exact upd0 | exact upd1 | exact upd2 | exact upd3 | exact upd4 | exact upd5 | exact upd6 | exact upd7) ?_
  refine Tr.assign rfl rfl rfl ?_
  refine Tr.nil ?_
  refine at_n ?_
  refine Sat.ret ?_
  refine en_r ?_
  refine ⟨_, [], res_cell_tmp rfl rfl rfl Try.underlying47 rfl Sz47 (by first | exact mem0 | exact mem1 | exact mem2 | exact mem3 | exact mem4 | exact mem5 | exact mem6 | exact mem7) (by simp [leb_length, words4_length, List.length_replicate, subB_all, padB_all, hx]), (by simp), (by simp), ?_, rfl⟩
  rfl

set_option maxRecDepth 100000 in
set_option maxHeartbeats 1000000 in
theorem ref_Rest_nil  : Meets Try.prog 30 [.slice none 0 0] [] (fun _ => True) (fun v out => v = .tuple #[agg (bytesV (leb 32 0)), i64 0] ∧ out = []) := by
  intro W hW
  refine calls_of (hp0 := []) Try.func30 rfl 10 Try.ntmps30 rfl (HRep.nil _) ?_
  refine Sat.seq ?_
  -- region 0
  refine Sat.region ?_
  refine Tr.alloc (cs := (bytesV (List.replicate 32 0))) rfl Zr47 rfl ?_
  intro n2 hn2 hf2
  refine Tr.assign rfl rfl rfl ?_
  refine Tr.nil ?_
  refine at_n ?_
  refine Sat.seq ?_
  refine Sat.seq ?_
  -- region 1
  refine Sat.region ?_
  refine Tr.move rfl rfl rfl ?_
  refine Tr.lenSl rfl rfl rfl Try.underlying27 ?_
  refine Tr.gtr rfl rfl rfl rfl (decide_eq_false (by decide)) ?_
  refine Tr.nil ?_
  refine at_n ?_
  refine Sat.cond_f rfl (rfl) ?_
  refine Sat.skip ?_
  refine at_n ?_
  refine Sat.seq ?_
  -- region 3
  refine Sat.region ?_
  refine Tr.move rfl rfl rfl ?_
  refine Tr.callV rfl rfl rfl rfl Body52 (ref_rest_nil) (fun _ _ => trivial) ?_
  first
    | refine Tr.storeAll rfl rfl rfl rfl (by simp [isCell]) Sz47 (by simp [leb_length, words4_length, List.length_replicate, subB_all, padB_all]) (by first | exact mem0 | exact mem1 | exact mem2 | exact mem3 | exact mem4 | exact mem5 | exact mem6 | exact mem7) (by simp [leb_length, words4_length, List.length_replicate, subB_all, padB_all]) (by first | exact upd0 | exact upd1 | exact upd2 | exact upd3 | exact upd4 | exact upd5 | exact upd6 | exact upd7) ?_
    | refine Tr.storeN _ rfl rfl rfl rfl rfl (by simp [isCell]) Sz47 (by simp [leb_length, words4_length, List.length_replicate, subB_all, padB_all]) (by first | exact mem0 | exact mem1 | exact mem2 | exact mem3 | exact mem4 | exact mem5 | exact mem6 | exact mem7) (by simp [leb_length, words4_length, List.length_replicate, subB_all, padB_all]) (by exact rfl) (by first | exact upd0 | exact upd1 | exact upd2 | exact upd3 | exact upd4 | exact upd5 | exact upd6 | exact upd7) ?_
  refine Tr.assign rfl rfl rfl ?_
  refine Tr.nil ?_
  refine at_n ?_
  refine Sat.ret ?_
  refine en_r ?_
  refine ⟨_, [], res_cell_tmp rfl rfl rfl Try.underlying47 rfl Sz47 (by first | exact mem0 | exact mem1 | exact mem2 | exact mem3 | exact mem4 | exact mem5 | exact mem6 | exact mem7) (by simp [leb_length, words4_length, List.length_replicate, subB_all, padB_all]), (by simp), (by simp), ?_, rfl⟩
  rfl

set_option maxRecDepth 100000 in
set_option maxHeartbeats 1000000 in
theorem ref_Rest_big (b o c n : Nat) (hn : 64 < n) : Meets Try.prog 30 [.slice (some ⟨b, o, none⟩) n c] [] (fun _ => True) (fun v out => v = .tuple #[agg (bytesV (List.replicate 32 0)), i64 3] ∧ out = []) := by
  intro W hW
  refine calls_of (hp0 := []) Try.func30 rfl 10 Try.ntmps30 rfl (HRep.nil _) ?_
  refine Sat.seq ?_
  -- region 0
  refine Sat.region ?_
  refine Tr.alloc (cs := (bytesV (List.replicate 32 0))) rfl Zr47 rfl ?_
  intro n2 hn2 hf2
  refine Tr.assign rfl rfl rfl ?_
  refine Tr.nil ?_
  refine at_n ?_
  refine Sat.seq ?_
  refine Sat.seq ?_
  -- region 1
  refine Sat.region ?_
  refine Tr.move rfl rfl rfl ?_
  refine Tr.lenSl rfl rfl rfl Try.underlying27 ?_
  refine Tr.gtr rfl rfl rfl rfl (decide_eq_true (by omega)) ?_
  refine Tr.nil ?_
  refine at_n ?_
  refine Sat.cond_t rfl (rfl) ?_
  refine Sat.seq ?_
  -- region 2
  refine Sat.region ?_
  refine Tr.build (cs := bytesV (List.replicate 32 0)) rfl rfl rfl (fun w => by kernel_rfl) ?_
  first
    | refine Tr.storeAll rfl rfl rfl rfl (by simp [isCell]) Sz47 (by simp [leb_length, words4_length, List.length_replicate, subB_all, padB_all]) (by first | exact mem0 | exact mem1 | exact mem2 | exact mem3 | exact mem4 | exact mem5 | exact mem6 | exact mem7) (by simp [leb_length, words4_length, List.length_replicate, subB_all, padB_all]) (by first | exact upd0 | exact upd1 | exact upd2 | exact upd3 | exact upd4 | exact upd5 | exact upd6 | exact upd7) ?_
    | refine Tr.storeN _ rfl rfl rfl rfl rfl (by simp [isCell]) Sz47 (by simp [leb_length, words4_length, List.length_replicate, subB_all, padB_all]) (by first | exact mem0 | exact mem1 | exact mem2 | exact mem3 | exact mem4 | exact mem5 | exact mem6 | exact mem7) (by simp [leb_length, words4_length, List.length_replicate, subB_all, padB_all]) (by exact rfl) (by first | exact upd0 | exact upd1 | exact upd2 | exact upd3 | exact upd4 | exact upd5 | exact upd6 | exact upd7) ?_
  refine Tr.assign rfl rfl rfl ?_
  refine Tr.nil ?_
  refine at_n ?_
  refine Sat.ret ?_
  refine at_r ?_
  refine en_r ?_
  refine ⟨_, [], res_cell_tmp rfl rfl rfl Try.underlying47 rfl Sz47 (by first | exact mem0 | exact mem1 | exact mem2 | exact mem3 | exact mem4 | exact mem5 | exact mem6 | exact mem7) (by simp [leb_length, words4_length, List.length_replicate, subB_all, padB_all]), (by simp), (by simp), ?_, rfl⟩
  rfl

set_option maxRecDepth 100000 in
set_option maxHeartbeats 1000000 in
theorem ref_canon (a : List UInt8) (ha : a.length = 32)  : Meets Try.prog 31 [agg (bytesV a)] [] (fun _ => True) (fun v out => v = .bool (decide (le a < L)) ∧ out = []) := by
  intro W hW
  refine calls_of (hp0 := []) Try.func31 rfl 6 Try.ntmps31 rfl (HRep.nil _) ?_
  refine Sat.seq ?_
  -- region 0
  refine Sat.region ?_
  refine Tr.boxA rfl rfl ?_
  intro n1 hn1 hf1
  refine Tr.assign rfl rfl rfl ?_
  refine Tr.nil ?_
  refine at_n ?_
  refine Sat.seq ?_
  -- region 1
  refine Sat.draw [(1, 0), (3, 1), (3, 2), (0, 3)] Mixed (by kernel_rfl) ?_
  first
    | refine Tr.loadAll rfl rfl rfl Try.underlying47 rfl Sz47 (by first | exact mem0 | exact mem1 | exact mem2 | exact mem3 | exact mem4 | exact mem5 | exact mem6 | exact mem7) (by simp [leb_length, words4_length, List.length_replicate, subB_all, padB_all, ha]) ?_
    | refine Tr.loadN _ rfl rfl rfl Try.underlying47 rfl Sz47 (by first | exact mem0 | exact mem1 | exact mem2 | exact mem3 | exact mem4 | exact mem5 | exact mem6 | exact mem7) (by exact rfl) (by simp [leb_length, words4_length, List.length_replicate, subB_all, padB_all, ha]) ?_
  refine Tr.callV rfl rfl rfl rfl Body54 (ref_L) (fun _ _ => trivial) ?_
  refine Tr.callV rfl rfl rfl rfl Body53 (ref_below _ _ (by simp [leb_length, words4_length, List.length_replicate, subB_all, padB_all, ha]) (by simp [leb_length, words4_length, List.length_replicate, subB_all, padB_all, ha])) (fun _ _ => trivial) ?_
  refine Tr.assign rfl rfl rfl ?_
  refine Tr.nil ?_
  refine at_n ?_
  refine Sat.ret ?_
  refine en_r ?_
  refine ⟨_, [], res_tmp rfl rfl, (by simp), (by simp), ?_, rfl⟩
  rw [le_leb32 L_lt]

set_option maxRecDepth 100000 in
set_option maxHeartbeats 1000000 in
theorem ref_add (a b : List UInt8) (ha : a.length = 32) (hb : b.length = 32) : Meets Try.prog 32 [agg (bytesV a), agg (bytesV b)] [] (fun _ => True) (fun v out => v = agg (bytesV (leb 32 ((le a + le b) % L))) ∧ out = []) := by
  intro W hW
  refine calls_of (hp0 := []) Try.func32 rfl 10 Try.ntmps32 rfl (HRep.nil _) ?_
  refine Sat.seq ?_
  -- region 0
  refine Sat.region ?_
  refine Tr.boxA rfl rfl ?_
  intro n2 hn2 hf2
  refine Tr.boxA rfl rfl ?_
  intro n3 hn3 hf3
  refine Tr.alloc (cs := (bytesV (List.replicate 32 0))) rfl Zr47 rfl ?_
  intro n4 hn4 hf4
  refine Tr.nil ?_
  refine at_n ?_
  refine Sat.seq ?_
  -- region 1
  refine Sat.draw [(0, 0), (0, 2), (3, 1), (3, 3), (3, 4), (4, 5)] Mixed (by kernel_rfl) ?_
  refine Tr.sliceArr rfl rfl rfl Try.underlying47 Sz5 ?_
  refine Tr.sliceArr rfl rfl rfl Try.underlying47 Sz5 ?_
  refine Tr.callV rfl rfl rfl rfl Body52 (ref_rest _ 0 _ 32 a (by simp [leb_length, words4_length, List.length_replicate, subB_all, padB_all, ha, hb]) (by omega)) (fun W h => sees_own h (by first | exact mem0 | exact mem1 | exact mem2 | exact mem3 | exact mem4 | exact mem5 | exact mem6 | exact mem7)) ?_
  refine Tr.callV rfl rfl rfl rfl Body52 (ref_rest _ 0 _ 32 b (by simp [leb_length, words4_length, List.length_replicate, subB_all, padB_all, ha, hb]) (by omega)) (fun W h => sees_own h (by first | exact mem0 | exact mem1 | exact mem2 | exact mem3 | exact mem4 | exact mem5 | exact mem6 | exact mem7)) ?_
  refine Tr.callV rfl rfl rfl rfl Body55 (ref_plus_n _ _ (Nat.mod_lt _ L_pos) (Nat.mod_lt _ L_pos)) (fun _ _ => trivial) ?_
  first
    | refine Tr.storeAll rfl rfl rfl rfl (by simp [isCell]) Sz47 (by simp [leb_length, words4_length, List.length_replicate, subB_all, padB_all, ha, hb]) (by first | exact mem0 | exact mem1 | exact mem2 | exact mem3 | exact mem4 | exact mem5 | exact mem6 | exact mem7) (by simp [leb_length, words4_length, List.length_replicate, subB_all, padB_all, ha, hb]) (by first | exact upd0 | exact upd1 | exact upd2 | exact upd3 | exact upd4 | exact upd5 | exact upd6 | exact upd7) ?_
    | refine Tr.storeN _ rfl rfl rfl rfl rfl (by simp [isCell]) Sz47 (by simp [leb_length, words4_length, List.length_replicate, subB_all, padB_all, ha, hb]) (by first | exact mem0 | exact mem1 | exact mem2 | exact mem3 | exact mem4 | exact mem5 | exact mem6 | exact mem7) (by simp [leb_length, words4_length, List.length_replicate, subB_all, padB_all, ha, hb]) (by exact rfl) (by first | exact upd0 | exact upd1 | exact upd2 | exact upd3 | exact upd4 | exact upd5 | exact upd6 | exact upd7) ?_
  refine Tr.nil ?_
  refine at_n ?_
  refine Sat.ret ?_
  refine en_r ?_
  refine ⟨_, [], res_cell rfl rfl Try.underlying47 rfl Sz47 (by first | exact mem0 | exact mem1 | exact mem2 | exact mem3 | exact mem4 | exact mem5 | exact mem6 | exact mem7) (by simp [leb_length, words4_length, List.length_replicate, subB_all, padB_all, ha, hb]), (by simp), (by simp), ?_, rfl⟩
  rw [← Nat.add_mod]

set_option maxRecDepth 100000 in
set_option maxHeartbeats 1000000 in
theorem ref_bit_neg (a : List UInt8) (ha : a.length = 32) (i : Int) (hi : i < 0) : Meets Try.prog 36 [agg (bytesV a), i64 i] [] (fun _ => True) (fun v out => v = .bool false ∧ out = []) := by
  intro W hW
  refine calls_of (hp0 := []) Try.func36 rfl 23 Try.ntmps36 rfl (HRep.nil _) ?_
  refine Sat.seq ?_
  -- region 0
  refine Sat.region ?_
  refine Tr.boxA rfl rfl ?_
  intro n2 hn2 hf2
  refine Tr.assign rfl rfl rfl ?_
  refine Tr.nil ?_
  refine at_n ?_
  refine Sat.seq ?_
  -- region 1
  refine Sat.region ?_
  refine Tr.move rfl rfl rfl ?_
  refine Tr.geq rfl rfl rfl rfl (decide_eq_false (by omega)) ?_
  refine Tr.move rfl rfl rfl ?_
  refine Tr.skp rfl rfl ?_
  refine Tr.skp rfl rfl ?_
  refine Tr.pick rfl rfl rfl rfl rfl rfl ?_
  refine Tr.move rfl rfl rfl ?_
  refine Tr.skp rfl rfl ?_
  refine Tr.skp rfl rfl ?_
  refine Tr.skp rfl rfl ?_
  refine Tr.skp rfl rfl ?_
  refine Tr.skp rfl rfl ?_
  refine Tr.skp rfl rfl ?_
  refine Tr.skp rfl rfl ?_
  refine Tr.skp rfl rfl ?_
  refine Tr.skp rfl rfl ?_
  refine Tr.skp rfl rfl ?_
  refine Tr.pick rfl rfl rfl rfl rfl rfl ?_
  refine Tr.assign rfl rfl rfl ?_
  refine Tr.nil ?_
  refine at_n ?_
  refine Sat.ret ?_
  refine en_r ?_
  refine ⟨_, [], res_tmp rfl rfl, (by simp), (by simp), ?_, rfl⟩
  rfl

set_option maxRecDepth 100000 in
set_option maxHeartbeats 1000000 in
theorem ref_bit_big (a : List UInt8) (ha : a.length = 32) (i : Int) (hi : 256 ≤ i) : Meets Try.prog 36 [agg (bytesV a), i64 i] [] (fun _ => True) (fun v out => v = .bool false ∧ out = []) := by
  intro W hW
  refine calls_of (hp0 := []) Try.func36 rfl 23 Try.ntmps36 rfl (HRep.nil _) ?_
  refine Sat.seq ?_
  -- region 0
  refine Sat.region ?_
  refine Tr.boxA rfl rfl ?_
  intro n2 hn2 hf2
  refine Tr.assign rfl rfl rfl ?_
  refine Tr.nil ?_
  refine at_n ?_
  refine Sat.seq ?_
  -- region 1
  refine Sat.region ?_
  refine Tr.move rfl rfl rfl ?_
  refine Tr.geq rfl rfl rfl rfl (decide_eq_true (by omega)) ?_
  refine Tr.move rfl rfl rfl ?_
  refine Tr.move rfl rfl rfl ?_
  refine Tr.lss rfl rfl rfl rfl (decide_eq_false (by omega)) ?_
  refine Tr.pick rfl rfl rfl rfl rfl rfl ?_
  refine Tr.move rfl rfl rfl ?_
  refine Tr.skp rfl rfl ?_
  refine Tr.skp rfl rfl ?_
  refine Tr.skp rfl rfl ?_
  refine Tr.skp rfl rfl ?_
  refine Tr.skp rfl rfl ?_
  refine Tr.skp rfl rfl ?_
  refine Tr.skp rfl rfl ?_
  refine Tr.skp rfl rfl ?_
  refine Tr.skp rfl rfl ?_
  refine Tr.skp rfl rfl ?_
  refine Tr.pick rfl rfl rfl rfl rfl rfl ?_
  refine Tr.assign rfl rfl rfl ?_
  refine Tr.nil ?_
  refine at_n ?_
  refine Sat.ret ?_
  refine en_r ?_
  refine ⟨_, [], res_tmp rfl rfl, (by simp), (by simp), ?_, rfl⟩
  rfl

set_option maxRecDepth 100000 in
set_option maxHeartbeats 1000000 in
theorem ref_bit_at (a : List UInt8) (ha : a.length = 32) (k : Nat) (hk : k < 256) : Meets Try.prog 36 [agg (bytesV a), i64 (k : Int)] [] (fun _ => True) (fun v out => v = .bool ((le a).testBit k) ∧ out = []) := by
  intro W hW
  refine calls_of (hp0 := []) Try.func36 rfl 23 Try.ntmps36 rfl (HRep.nil _) ?_
  refine Sat.seq ?_
  -- region 0
  refine Sat.region ?_
  refine Tr.boxA rfl rfl ?_
  intro n2 hn2 hf2
  refine Tr.assign rfl rfl rfl ?_
  refine Tr.nil ?_
  refine at_n ?_
  refine Sat.seq ?_
  -- region 1
  refine Sat.region ?_
  refine Tr.move rfl rfl rfl ?_
  refine Tr.geq rfl rfl rfl rfl (decide_eq_true (by omega)) ?_
  refine Tr.move rfl rfl rfl ?_
  refine Tr.move rfl rfl rfl ?_
  refine Tr.lss rfl rfl rfl rfl (decide_eq_true (by omega)) ?_
  refine Tr.pick rfl rfl rfl rfl rfl rfl ?_
  refine Tr.move rfl rfl rfl ?_
  refine Tr.move rfl rfl rfl ?_
  refine Tr.quo_i64 rfl rfl rfl rfl (by omega) ?_
  first
    | refine Tr.idxArr1 rfl rfl rfl rfl Try.underlying47 Sz5 (k / 8) (by omega) (by omega) ?_
    | refine Tr.idxArrO rfl rfl rfl rfl Try.underlying47 Sz5 (k / 8) (by omega) (by omega) ?_
  refine Tr.load1 rfl rfl rfl Try.underlying5 rfl (by first | exact mem0 | exact mem1 | exact mem2 | exact mem3 | exact mem4 | exact mem5 | exact mem6 | exact mem7) (by first | rfl | exact get_words (by first | omega | (simp [leb_length, words4_length, List.length_replicate, subB_all, padB_all, ha]; done) | (simp [leb_length, words4_length, List.length_replicate, subB_all, padB_all, ha]; omega)) | exact get_bytes (by first | omega | (simp [leb_length, words4_length, List.length_replicate, subB_all, padB_all, ha]; done) | (simp [leb_length, words4_length, List.length_replicate, subB_all, padB_all, ha]; omega)) | exact get_ints (by first | omega | (simp [leb_length, words4_length, List.length_replicate, subB_all, padB_all, ha]; done) | (simp [leb_length, words4_length, List.length_replicate, subB_all, padB_all, ha]; omega))) ?_
  refine Tr.move rfl rfl rfl ?_
  refine Tr.rem_i64 rfl rfl rfl rfl (by omega) ?_
  refine Tr.conv rfl rfl rfl Try.underlying3 Try.underlying80 (cv_i64_u64 _) ?_
  refine Tr.shr_u8 rfl rfl rfl rfl (k % 8) (by rw [wordOf_id _ (by omega)]; omega) (by omega) ?_
  refine Tr.rem_u8 rfl rfl rfl rfl 2 rfl (by decide) ?_
  refine Tr.eqi rfl rfl rfl rfl rfl ?_
  refine Tr.pick rfl rfl rfl rfl rfl rfl ?_
  refine Tr.assign rfl rfl rfl ?_
  refine Tr.nil ?_
  refine at_n ?_
  refine Sat.ret ?_
  refine en_r ?_
  refine ⟨_, [], res_tmp rfl rfl, (by simp), (by simp), ?_, rfl⟩
  rw [← bit_rem a k]; rfl


theorem ref_bit (a : List UInt8) (ha : a.length = 32) (i : Int) : Meets Try.prog 36 [agg (bytesV a), i64 i] [] (fun _ => True) (fun v out => v = .bool (bitV (le a) i) ∧ out = []) := by
  unfold bitV
  by_cases h : 0 ≤ i ∧ i < 256
  · obtain ⟨k, rfl⟩ := Int.eq_ofNat_of_zero_le h.1
    rw [decide_eq_true h, Bool.true_and, Int.toNat_natCast]
    exact ref_bit_at a ha k (by omega)
  · rw [decide_eq_false h, Bool.false_and]
    rcases Int.lt_or_le i 0 with h0 | h0
    · exact ref_bit_neg a ha i h0
    · exact ref_bit_big a ha i (by omega)


end Go.Proofs.Ytjeggfgbcafenaa
