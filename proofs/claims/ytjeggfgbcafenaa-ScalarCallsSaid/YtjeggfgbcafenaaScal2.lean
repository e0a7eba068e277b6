/- Contracts of package scalar: MulAdd and what rests on it. Conditions: the lengths of arrays. -/
import Derived.Test.YtjeggfgbcafenaaScal
namespace Go.Proofs.Ytjeggfgbcafenaa
open Go Hw
set_option linter.unusedVariables false
set_option linter.unusedSimpArgs false

set_option maxRecDepth 100000 in
set_option maxHeartbeats 1000000 in
theorem scalar_muladd (a b c : List UInt8) (ha : a.length = 32) (hb : b.length = 32) (hc : c.length = 32) : Meets Try.prog 27 [agg (bytesV a), agg (bytesV b), agg (bytesV c)] [] (fun _ => True) (fun v out => v = agg (bytesV (leb 32 ((le a * le b + le c) % L))) ∧ out = []) := by
  intro W hW
  refine calls_of (hp0 := []) Try.func27 rfl 80 Try.ntmps27 rfl (HRep.nil _) ?_
  refine Sat.seq ?_
  -- region 0
  refine Sat.region ?_
  refine Tr.boxA rfl rfl ?_
  intro n3 hn3 hf3
  refine Tr.boxA rfl rfl ?_
  intro n4 hn4 hf4
  refine Tr.boxA rfl rfl ?_
  intro n5 hn5 hf5
  refine Tr.alloc (cs := (bytesV (List.replicate 32 0))) rfl Zr47 rfl ?_
  intro n6 hn6 hf6
  refine Tr.nil ?_
  refine at_n ?_
  refine Sat.seq ?_
  -- region 1
  refine Sat.draw [(1, 0), (1, 2), (1, 4), (3, 1), (3, 3), (3, 5), (2, 6), (2, 7), (2, 8), (4, 9), (4, 10), (4, 11)] Mixed (by kernel_rfl) ?_
  first
    | refine Tr.loadAll rfl rfl rfl Try.underlying47 rfl Sz47 (by first | exact mem0 | exact mem1 | exact mem2 | exact mem3 | exact mem4 | exact mem5 | exact mem6 | exact mem7) (by simp [modW_length, ldW_length, stB_length, leb_length, words4_length, innM_length, outM_length, List.length_append, ha, hb, hc]) ?_
    | refine Tr.loadN _ rfl rfl rfl Try.underlying47 rfl Sz47 (by first | exact mem0 | exact mem1 | exact mem2 | exact mem3 | exact mem4 | exact mem5 | exact mem6 | exact mem7) (by exact rfl) (by simp [modW_length, ldW_length, stB_length, leb_length, words4_length, innM_length, outM_length, List.length_append, ha, hb, hc]) ?_
  first
    | refine Tr.loadAll rfl rfl rfl Try.underlying47 rfl Sz47 (by first | exact mem0 | exact mem1 | exact mem2 | exact mem3 | exact mem4 | exact mem5 | exact mem6 | exact mem7) (by simp [modW_length, ldW_length, stB_length, leb_length, words4_length, innM_length, outM_length, List.length_append, ha, hb, hc]) ?_
    | refine Tr.loadN _ rfl rfl rfl Try.underlying47 rfl Sz47 (by first | exact mem0 | exact mem1 | exact mem2 | exact mem3 | exact mem4 | exact mem5 | exact mem6 | exact mem7) (by exact rfl) (by simp [modW_length, ldW_length, stB_length, leb_length, words4_length, innM_length, outM_length, List.length_append, ha, hb, hc]) ?_
  first
    | refine Tr.loadAll rfl rfl rfl Try.underlying47 rfl Sz47 (by first | exact mem0 | exact mem1 | exact mem2 | exact mem3 | exact mem4 | exact mem5 | exact mem6 | exact mem7) (by simp [modW_length, ldW_length, stB_length, leb_length, words4_length, innM_length, outM_length, List.length_append, ha, hb, hc]) ?_
    | refine Tr.loadN _ rfl rfl rfl Try.underlying47 rfl Sz47 (by first | exact mem0 | exact mem1 | exact mem2 | exact mem3 | exact mem4 | exact mem5 | exact mem6 | exact mem7) (by exact rfl) (by simp [modW_length, ldW_length, stB_length, leb_length, words4_length, innM_length, outM_length, List.length_append, ha, hb, hc]) ?_
  refine Tr.callV rfl rfl rfl rfl Body47 (scalar_load_n _ (by simp [modW_length, ldW_length, stB_length, leb_length, words4_length, innM_length, outM_length, List.length_append, ha, hb, hc])) (fun _ _ => trivial) ?_
  refine Tr.callV rfl rfl rfl rfl Body47 (scalar_load_n _ (by simp [modW_length, ldW_length, stB_length, leb_length, words4_length, innM_length, outM_length, List.length_append, ha, hb, hc])) (fun _ _ => trivial) ?_
  refine Tr.callV rfl rfl rfl rfl Body47 (scalar_load_n _ (by simp [modW_length, ldW_length, stB_length, leb_length, words4_length, innM_length, outM_length, List.length_append, ha, hb, hc])) (fun _ _ => trivial) ?_
  refine Tr.alloc (cs := (wordsV (List.replicate 4 0))) rfl Zr72 rfl ?_
  intro n7 hn7 hf7
  refine Tr.alloc (cs := (wordsV (List.replicate 4 0))) rfl Zr72 rfl ?_
  intro n8 hn8 hf8
  refine Tr.alloc (cs := (wordsV (List.replicate 4 0))) rfl Zr72 rfl ?_
  intro n9 hn9 hf9
  first
    | refine Tr.storeAll rfl rfl rfl rfl (by simp [isCell]) Sz72 (by simp [modW_length, ldW_length, stB_length, leb_length, words4_length, innM_length, outM_length, List.length_append, ha, hb, hc]) (by first | exact mem0 | exact mem1 | exact mem2 | exact mem3 | exact mem4 | exact mem5 | exact mem6 | exact mem7) (by simp [modW_length, ldW_length, stB_length, leb_length, words4_length, innM_length, outM_length, List.length_append, ha, hb, hc]) (by first | exact upd0 | exact upd1 | exact upd2 | exact upd3 | exact upd4 | exact upd5 | exact upd6 | exact upd7) ?_
    | refine Tr.storeN _ rfl rfl rfl rfl rfl (by simp [isCell]) Sz72 (by simp [modW_length, ldW_length, stB_length, leb_length, words4_length, innM_length, outM_length, List.length_append, ha, hb, hc]) (by first | exact mem0 | exact mem1 | exact mem2 | exact mem3 | exact mem4 | exact mem5 | exact mem6 | exact mem7) (by simp [modW_length, ldW_length, stB_length, leb_length, words4_length, innM_length, outM_length, List.length_append, ha, hb, hc]) (by exact rfl) (by first | exact upd0 | exact upd1 | exact upd2 | exact upd3 | exact upd4 | exact upd5 | exact upd6 | exact upd7) ?_
  first
    | refine Tr.storeAll rfl rfl rfl rfl (by simp [isCell]) Sz72 (by simp [modW_length, ldW_length, stB_length, leb_length, words4_length, innM_length, outM_length, List.length_append, ha, hb, hc]) (by first | exact mem0 | exact mem1 | exact mem2 | exact mem3 | exact mem4 | exact mem5 | exact mem6 | exact mem7) (by simp [modW_length, ldW_length, stB_length, leb_length, words4_length, innM_length, outM_length, List.length_append, ha, hb, hc]) (by first | exact upd0 | exact upd1 | exact upd2 | exact upd3 | exact upd4 | exact upd5 | exact upd6 | exact upd7) ?_
    | refine Tr.storeN _ rfl rfl rfl rfl rfl (by simp [isCell]) Sz72 (by simp [modW_length, ldW_length, stB_length, leb_length, words4_length, innM_length, outM_length, List.length_append, ha, hb, hc]) (by first | exact mem0 | exact mem1 | exact mem2 | exact mem3 | exact mem4 | exact mem5 | exact mem6 | exact mem7) (by simp [modW_length, ldW_length, stB_length, leb_length, words4_length, innM_length, outM_length, List.length_append, ha, hb, hc]) (by exact rfl) (by first | exact upd0 | exact upd1 | exact upd2 | exact upd3 | exact upd4 | exact upd5 | exact upd6 | exact upd7) ?_
  first
    | refine Tr.storeAll rfl rfl rfl rfl (by simp [isCell]) Sz72 (by simp [modW_length, ldW_length, stB_length, leb_length, words4_length, innM_length, outM_length, List.length_append, ha, hb, hc]) (by first | exact mem0 | exact mem1 | exact mem2 | exact mem3 | exact mem4 | exact mem5 | exact mem6 | exact mem7) (by simp [modW_length, ldW_length, stB_length, leb_length, words4_length, innM_length, outM_length, List.length_append, ha, hb, hc]) (by first | exact upd0 | exact upd1 | exact upd2 | exact upd3 | exact upd4 | exact upd5 | exact upd6 | exact upd7) ?_
    | refine Tr.storeN _ rfl rfl rfl rfl rfl (by simp [isCell]) Sz72 (by simp [modW_length, ldW_length, stB_length, leb_length, words4_length, innM_length, outM_length, List.length_append, ha, hb, hc]) (by first | exact mem0 | exact mem1 | exact mem2 | exact mem3 | exact mem4 | exact mem5 | exact mem6 | exact mem7) (by simp [modW_length, ldW_length, stB_length, leb_length, words4_length, innM_length, outM_length, List.length_append, ha, hb, hc]) (by exact rfl) (by first | exact upd0 | exact upd1 | exact upd2 | exact upd3 | exact upd4 | exact upd5 | exact upd6 | exact upd7) ?_
  refine Tr.nil ?_
  refine at_n ?_
  refine Sat.seq ?_
  -- region 2
  refine Sat.region ?_
  refine Tr.alloc (cs := (wordsV (List.replicate 8 0))) rfl Zr74 rfl ?_
  intro n10 hn10 hf10
  refine Tr.nil ?_
  refine at_n ?_
  refine Sat.seq ?_
  -- region 3
  refine Sat.draw [(0, 0), (0, 1), (4, 2)] Mixed (by kernel_rfl) ?_
  refine Tr.sliceArrLo 4 rfl rfl rfl rfl rfl (by decide) Try.underlying74 Sz24 ?_
  refine Tr.sliceArr rfl rfl rfl Try.underlying72 Sz24 ?_
  refine Tr.copy1 (vs := wordsV (words4 (le c))) (cs' := wordsV ([0, 0, 0, 0] ++ words4 (le c))) rfl rfl rfl rfl rfl Try.underlying76 Sz24 (by first | exact mem0 | exact mem1 | exact mem2 | exact mem3 | exact mem4 | exact mem5 | exact mem6 | exact mem7) (by exact rfl) (by simp [modW_length, ldW_length, stB_length, leb_length, words4_length, innM_length, outM_length, List.length_append, ha, hb, hc]) (by simp [isCell]) (by first | exact mem0 | exact mem1 | exact mem2 | exact mem3 | exact mem4 | exact mem5 | exact mem6 | exact mem7) (by simp [modW_length, ldW_length, stB_length, leb_length, words4_length, innM_length, outM_length, List.length_append, ha, hb, hc]) (by exact rfl) (by first | exact upd0 | exact upd1 | exact upd2 | exact upd3 | exact upd4 | exact upd5 | exact upd6 | exact upd7) ?_
  refine Tr.nil ?_
  refine at_n ?_
  refine Sat.seq ?_
  refine Sat.seq ?_
  -- region 4
  refine Sat.region ?_
  refine Tr.assign rfl rfl rfl ?_
  refine Tr.nil ?_
  refine at_n ?_
  refine Sat.block ?_
  refine Sat.loop (ι := Nat) (fun p => ⟨[(6, ptr n6 0), (7, ptr n7 0), (8, ptr n8 0), (10, ptr n10 0), (11, i64 (3 - (p : Int)))], [⟨n10, wordsV (outM (words4 (le a)) (words4 (le b)) ([0, 0, 0, 0] ++ words4 (le c)) (p)), 74, 8⟩, ⟨n8, wordsV (words4 (le b)), 72, 4⟩, ⟨n7, wordsV (words4 (le a)), 72, 4⟩, ⟨n6, bytesV (List.replicate 32 0), 47, 32⟩]⟩) (fun p => p ≤ 4) (fun p => 4 - p) (0) ?_ ?_ ?_
  · omega
  · exact weak_of (wk1 rfl (wk1 rfl (wk1 rfl (wk1 rfl (wk1 rfl wk0))))) (wh1 (by first | exact mem0 | exact mem1 | exact mem2 | exact mem3 | exact mem4 | exact mem5 | exact mem6 | exact mem7) (wh1 (by first | exact mem0 | exact mem1 | exact mem2 | exact mem3 | exact mem4 | exact mem5 | exact mem6 | exact mem7) (wh1 (by first | exact mem0 | exact mem1 | exact mem2 | exact mem3 | exact mem4 | exact mem5 | exact mem6 | exact mem7) (wh1 (by first | exact mem0 | exact mem1 | exact mem2 | exact mem3 | exact mem4 | exact mem5 | exact mem6 | exact mem7) wh0)))) (by repeat (first | exact ns_nil | refine ns_keep rfl ?_ | refine ns_skip ?_))
  ·
    rintro p hp4
    have hol := outM_length (words4 (le a)) (words4 (le b)) ([0, 0, 0, 0] ++ words4 (le c)) p
    refine Sat.seq ?_
    refine Sat.seq ?_
    -- region 5
    refine Sat.region ?_
    refine Tr.move rfl rfl rfl ?_
    refine Tr.geq rfl rfl rfl rfl rfl ?_
    refine Tr.nil ?_
    refine at_n ?_
    first
      | refine Sat.condP rfl (fun hc0 => ?_) (fun hc0 => ?_)
      | refine Sat.condNP rfl (fun hc0 => ?_) (fun hc0 => ?_)
      | refine Sat.cond rfl (fun hc0 => ?_) (fun hc0 => ?_)
    ·
      have hp : p < 4 := by omega
      refine Sat.skip ?_
      refine at_n ?_
      refine Sat.seq ?_
      refine Sat.block ?_
      refine Sat.seq ?_
      -- region 7
      refine Sat.region ?_
      refine Tr.assign rfl rfl (show evIn _ _ = some (u64 0) from rfl) ?_
      refine Tr.nil ?_
      refine at_n ?_
      refine Sat.seq ?_
      refine Sat.seq ?_
      -- region 8
      refine Sat.region ?_
      refine Tr.assign rfl rfl rfl ?_
      refine Tr.nil ?_
      refine at_n ?_
      refine Sat.block ?_
      refine Sat.loop (ι := Nat) (fun q => ⟨[(6, ptr n6 0), (7, ptr n7 0), (8, ptr n8 0), (10, ptr n10 0), (11, i64 (3 - (p : Int))), (12, u64 (innM ((words4 (le a)).getD (3 - p) 0) (words4 (le b)) (3 - p) (outM (words4 (le a)) (words4 (le b)) ([0, 0, 0, 0] ++ words4 (le c)) (p)) (q)).2), (13, i64 (3 - (q : Int)))], [⟨n10, wordsV (innM ((words4 (le a)).getD (3 - p) 0) (words4 (le b)) (3 - p) (outM (words4 (le a)) (words4 (le b)) ([0, 0, 0, 0] ++ words4 (le c)) (p)) (q)).1, 74, 8⟩, ⟨n8, wordsV (words4 (le b)), 72, 4⟩, ⟨n7, wordsV (words4 (le a)), 72, 4⟩, ⟨n6, bytesV (List.replicate 32 0), 47, 32⟩]⟩) (fun q => q ≤ 4) (fun q => 4 - q) (0) ?_ ?_ ?_
      · omega
      · exact weak_of (wk1 rfl (wk1 rfl (wk1 rfl (wk1 rfl (wk1 rfl (wk1 rfl (wk1 rfl wk0))))))) (wh1 (by first | exact mem0 | exact mem1 | exact mem2 | exact mem3 | exact mem4 | exact mem5 | exact mem6 | exact mem7) (wh1 (by first | exact mem0 | exact mem1 | exact mem2 | exact mem3 | exact mem4 | exact mem5 | exact mem6 | exact mem7) (wh1 (by first | exact mem0 | exact mem1 | exact mem2 | exact mem3 | exact mem4 | exact mem5 | exact mem6 | exact mem7) (wh1 (by first | exact mem0 | exact mem1 | exact mem2 | exact mem3 | exact mem4 | exact mem5 | exact mem6 | exact mem7) wh0)))) (by repeat (first | exact ns_nil | refine ns_keep rfl ?_ | refine ns_skip ?_))
      ·
        rintro q hq4
        have hil := innM_length ((words4 (le a)).getD (3 - p) 0) (words4 (le b)) (3 - p) (outM (words4 (le a)) (words4 (le b)) ([0, 0, 0, 0] ++ words4 (le c)) (p)) q
        refine Sat.seq ?_
        refine Sat.seq ?_
        -- region 9
        refine Sat.region ?_
        refine Tr.move rfl rfl rfl ?_
        refine Tr.geq rfl rfl rfl rfl rfl ?_
        refine Tr.nil ?_
        refine at_n ?_
        first
          | refine Sat.condP rfl (fun hc1 => ?_) (fun hc1 => ?_)
          | refine Sat.condNP rfl (fun hc1 => ?_) (fun hc1 => ?_)
          | refine Sat.cond rfl (fun hc1 => ?_) (fun hc1 => ?_)
        ·
          have hq : q < 4 := by omega
          refine Sat.skip ?_
          refine at_n ?_
          refine Sat.seq ?_
          refine Sat.block ?_
          refine Sat.seq ?_
          -- region 11
          refine Sat.draw [(0, 0), (0, 1), (1, 2), (0, 3), (0, 4), (1, 5), (3, 6), (0, 7), (0, 8), (0, 9), (0, 10), (0, 11)] Mixed (by kernel_rfl) ?_
          refine Tr.move rfl rfl rfl ?_
          first
            | refine Tr.idxArr1 rfl rfl rfl rfl Try.underlying72 Sz24 (3 - p) (by omega) (by omega) ?_
            | refine Tr.idxArrO rfl rfl rfl rfl Try.underlying72 Sz24 (3 - p) (by omega) (by omega) ?_
          refine Tr.load1 rfl rfl rfl Try.underlying24 rfl (by first | exact mem0 | exact mem1 | exact mem2 | exact mem3 | exact mem4 | exact mem5 | exact mem6 | exact mem7) (by first | rfl | exact get_words (by first | omega | (simp [modW_length, ldW_length, stB_length, leb_length, words4_length, innM_length, outM_length, List.length_append, ha, hb, hc]; done) | (simp [modW_length, ldW_length, stB_length, leb_length, words4_length, innM_length, outM_length, List.length_append, ha, hb, hc]; omega)) | exact get_bytes (by first | omega | (simp [modW_length, ldW_length, stB_length, leb_length, words4_length, innM_length, outM_length, List.length_append, ha, hb, hc]; done) | (simp [modW_length, ldW_length, stB_length, leb_length, words4_length, innM_length, outM_length, List.length_append, ha, hb, hc]; omega)) | exact get_ints (by first | omega | (simp [modW_length, ldW_length, stB_length, leb_length, words4_length, innM_length, outM_length, List.length_append, ha, hb, hc]; done) | (simp [modW_length, ldW_length, stB_length, leb_length, words4_length, innM_length, outM_length, List.length_append, ha, hb, hc]; omega))) ?_
          refine Tr.move rfl rfl rfl ?_
          first
            | refine Tr.idxArr1 rfl rfl rfl rfl Try.underlying72 Sz24 (3 - q) (by omega) (by omega) ?_
            | refine Tr.idxArrO rfl rfl rfl rfl Try.underlying72 Sz24 (3 - q) (by omega) (by omega) ?_
          refine Tr.load1 rfl rfl rfl Try.underlying24 rfl (by first | exact mem0 | exact mem1 | exact mem2 | exact mem3 | exact mem4 | exact mem5 | exact mem6 | exact mem7) (by first | rfl | exact get_words (by first | omega | (simp [modW_length, ldW_length, stB_length, leb_length, words4_length, innM_length, outM_length, List.length_append, ha, hb, hc]; done) | (simp [modW_length, ldW_length, stB_length, leb_length, words4_length, innM_length, outM_length, List.length_append, ha, hb, hc]; omega)) | exact get_bytes (by first | omega | (simp [modW_length, ldW_length, stB_length, leb_length, words4_length, innM_length, outM_length, List.length_append, ha, hb, hc]; done) | (simp [modW_length, ldW_length, stB_length, leb_length, words4_length, innM_length, outM_length, List.length_append, ha, hb, hc]; omega)) | exact get_ints (by first | omega | (simp [modW_length, ldW_length, stB_length, leb_length, words4_length, innM_length, outM_length, List.length_append, ha, hb, hc]; done) | (simp [modW_length, ldW_length, stB_length, leb_length, words4_length, innM_length, outM_length, List.length_append, ha, hb, hc]; omega))) ?_
          refine Tr.callV rfl rfl rfl rfl Body50 (mul64_ok _ _) (fun _ _ => trivial) ?_
          refine Tr.move rfl rfl rfl ?_
          refine Tr.extract rfl rfl rfl rfl ?_
          refine Tr.extract rfl rfl rfl rfl ?_
          refine Tr.assign rfl rfl rfl ?_
          refine Tr.assign rfl rfl rfl ?_
          refine Tr.nil ?_
          refine at_n ?_
          refine Sat.seq ?_
          -- region 12
          refine Sat.region ?_
          refine Tr.move rfl rfl rfl ?_
          refine Tr.move rfl rfl rfl ?_
          refine Tr.move rfl rfl rfl ?_
          refine Tr.add_i64 rfl rfl rfl rfl (by omega) ?_
          refine Tr.add_i64 rfl rfl rfl rfl (by omega) ?_
          first
            | refine Tr.idxArr1 rfl rfl rfl rfl Try.underlying74 Sz24 (3 - p + (3 - q) + 1) (by omega) (by omega) ?_
            | refine Tr.idxArrO rfl rfl rfl rfl Try.underlying74 Sz24 (3 - p + (3 - q) + 1) (by omega) (by omega) ?_
          refine Tr.load1 rfl rfl rfl Try.underlying24 rfl (by first | exact mem0 | exact mem1 | exact mem2 | exact mem3 | exact mem4 | exact mem5 | exact mem6 | exact mem7) (by first | rfl | exact get_words (by first | omega | (simp [modW_length, ldW_length, stB_length, leb_length, words4_length, innM_length, outM_length, List.length_append, ha, hb, hc]; done) | (simp [modW_length, ldW_length, stB_length, leb_length, words4_length, innM_length, outM_length, List.length_append, ha, hb, hc]; omega)) | exact get_bytes (by first | omega | (simp [modW_length, ldW_length, stB_length, leb_length, words4_length, innM_length, outM_length, List.length_append, ha, hb, hc]; done) | (simp [modW_length, ldW_length, stB_length, leb_length, words4_length, innM_length, outM_length, List.length_append, ha, hb, hc]; omega)) | exact get_ints (by first | omega | (simp [modW_length, ldW_length, stB_length, leb_length, words4_length, innM_length, outM_length, List.length_append, ha, hb, hc]; done) | (simp [modW_length, ldW_length, stB_length, leb_length, words4_length, innM_length, outM_length, List.length_append, ha, hb, hc]; omega))) ?_
          refine Tr.ext rfl rfl rfl rfl (add64_run _ _ 0 (by decide)) ?_
          refine Tr.move rfl rfl rfl ?_
          refine Tr.extract rfl rfl rfl rfl ?_
          refine Tr.extract rfl rfl rfl rfl ?_
          refine Tr.assign rfl rfl rfl ?_
          refine Tr.assign rfl rfl rfl ?_
          refine Tr.nil ?_
          refine at_n ?_
          refine Sat.seq ?_
          -- region 13
          refine Sat.region ?_
          refine Tr.move rfl rfl rfl ?_
          refine Tr.move rfl rfl rfl ?_
          refine Tr.add_u64 rfl rfl rfl rfl ?_
          refine Tr.assign rfl rfl rfl ?_
          refine Tr.nil ?_
          refine at_n ?_
          refine Sat.seq ?_
          -- region 14
          refine Sat.region ?_
          refine Tr.move rfl rfl rfl ?_
          refine Tr.move rfl rfl rfl ?_
          refine Tr.add_i64 rfl rfl rfl rfl (by omega) ?_
          refine Tr.add_i64 rfl rfl rfl rfl (by omega) ?_
          refine Tr.move rfl rfl rfl ?_
          refine Tr.move rfl rfl rfl ?_
          refine Tr.ext rfl rfl rfl rfl (add64_run _ _ 0 (by decide)) ?_
          refine Tr.move rfl rfl rfl ?_
          refine Tr.extract rfl rfl rfl rfl ?_
          refine Tr.extract rfl rfl rfl rfl ?_
          first
            | refine Tr.idxArr1 rfl rfl rfl rfl Try.underlying74 Sz24 (3 - p + (3 - q) + 1) (by omega) (by omega) ?_
            | refine Tr.idxArrO rfl rfl rfl rfl Try.underlying74 Sz24 (3 - p + (3 - q) + 1) (by omega) (by omega) ?_
          refine Tr.store1 rfl rfl rfl rfl rfl Sz24 (by first | exact mem0 | exact mem1 | exact mem2 | exact mem3 | exact mem4 | exact mem5 | exact mem6 | exact mem7) (by first | (simp [modW_length, ldW_length, stB_length, leb_length, words4_length, innM_length, outM_length, List.length_append, ha, hb, hc]; done) | (simp [modW_length, ldW_length, stB_length, leb_length, words4_length, innM_length, outM_length, List.length_append, ha, hb, hc]; omega)) (by first | exact set_words _ _ _ | exact set_bytes _ _ _ | exact set_ints _ _ _ | rfl) (by first | exact upd0 | exact upd1 | exact upd2 | exact upd3 | exact upd4 | exact upd5 | exact upd6 | exact upd7) ?_
          refine Tr.assign rfl rfl rfl ?_
          refine Tr.nil ?_
          refine at_n ?_
          -- region 15
          refine Sat.region ?_
          refine Tr.move rfl rfl rfl ?_
          refine Tr.move rfl rfl rfl ?_
          refine Tr.add_u64 rfl rfl rfl rfl ?_
          refine Tr.assign rfl rfl rfl ?_
          refine Tr.nil ?_
          refine bl_n ?_
          refine at_n ?_
          -- region 10
          refine Sat.region ?_
          refine Tr.move rfl rfl rfl ?_
          refine Tr.sub_i64 rfl rfl rfl rfl (by omega) ?_
          refine Tr.assign rfl rfl rfl ?_
          refine Tr.nil ?_
          refine at_n ?_
          exact ⟨q + 1, by omega, by omega, weak_of (wk1 rfl (wk1 rfl (wk1 rfl (wk1 rfl (wk1 rfl (wk1 (by rw [innM_snd]; rfl) (wk1 (by rw [show (3 - ((q + 1 : Nat) : Int)) = 3 - (q : Int) - 1 by omega]; rfl) wk0))))))) (wh1 (by rw [innM_fst]; exact mem0) (wh1 (by first | exact mem0 | exact mem1 | exact mem2 | exact mem3 | exact mem4 | exact mem5 | exact mem6 | exact mem7) (wh1 (by first | exact mem0 | exact mem1 | exact mem2 | exact mem3 | exact mem4 | exact mem5 | exact mem6 | exact mem7) (wh1 (by first | exact mem0 | exact mem1 | exact mem2 | exact mem3 | exact mem4 | exact mem5 | exact mem6 | exact mem7) wh0)))) (by repeat (first | exact ns_nil | refine ns_keep rfl ?_ | refine ns_skip ?_))⟩
        ·
          obtain rfl : q = 4 := by omega
          refine Sat.exit ?_
          refine at_x ?_
          refine at_x ?_
          refine bl_h ?_
          refine at_n ?_
          -- region 16
          refine Sat.region ?_
          refine Tr.move rfl rfl rfl ?_
          first
            | refine Tr.idxArr1 rfl rfl rfl rfl Try.underlying74 Sz24 (3 - p) (by omega) (by omega) ?_
            | refine Tr.idxArrO rfl rfl rfl rfl Try.underlying74 Sz24 (3 - p) (by omega) (by omega) ?_
          refine Tr.load1 rfl rfl rfl Try.underlying24 rfl (by first | exact mem0 | exact mem1 | exact mem2 | exact mem3 | exact mem4 | exact mem5 | exact mem6 | exact mem7) (by first | rfl | exact get_words (by first | omega | (simp [modW_length, ldW_length, stB_length, leb_length, words4_length, innM_length, outM_length, List.length_append, ha, hb, hc]; done) | (simp [modW_length, ldW_length, stB_length, leb_length, words4_length, innM_length, outM_length, List.length_append, ha, hb, hc]; omega)) | exact get_bytes (by first | omega | (simp [modW_length, ldW_length, stB_length, leb_length, words4_length, innM_length, outM_length, List.length_append, ha, hb, hc]; done) | (simp [modW_length, ldW_length, stB_length, leb_length, words4_length, innM_length, outM_length, List.length_append, ha, hb, hc]; omega)) | exact get_ints (by first | omega | (simp [modW_length, ldW_length, stB_length, leb_length, words4_length, innM_length, outM_length, List.length_append, ha, hb, hc]; done) | (simp [modW_length, ldW_length, stB_length, leb_length, words4_length, innM_length, outM_length, List.length_append, ha, hb, hc]; omega))) ?_
          refine Tr.move rfl rfl rfl ?_
          refine Tr.add_u64 rfl rfl rfl rfl ?_
          first
            | refine Tr.idxArr1 rfl rfl rfl rfl Try.underlying74 Sz24 (3 - p) (by omega) (by omega) ?_
            | refine Tr.idxArrO rfl rfl rfl rfl Try.underlying74 Sz24 (3 - p) (by omega) (by omega) ?_
          refine Tr.store1 rfl rfl rfl rfl rfl Sz24 (by first | exact mem0 | exact mem1 | exact mem2 | exact mem3 | exact mem4 | exact mem5 | exact mem6 | exact mem7) (by first | (simp [modW_length, ldW_length, stB_length, leb_length, words4_length, innM_length, outM_length, List.length_append, ha, hb, hc]; done) | (simp [modW_length, ldW_length, stB_length, leb_length, words4_length, innM_length, outM_length, List.length_append, ha, hb, hc]; omega)) (by first | exact set_words _ _ _ | exact set_bytes _ _ _ | exact set_ints _ _ _ | rfl) (by first | exact upd0 | exact upd1 | exact upd2 | exact upd3 | exact upd4 | exact upd5 | exact upd6 | exact upd7) ?_
          refine Tr.nil ?_
          refine bl_n ?_
          refine at_n ?_
          -- region 6
          refine Sat.region ?_
          refine Tr.move rfl rfl rfl ?_
          refine Tr.sub_i64 rfl rfl rfl rfl (by omega) ?_
          refine Tr.assign rfl rfl rfl ?_
          refine Tr.nil ?_
          refine at_n ?_
          exact ⟨p + 1, by omega, by omega, weak_of (wk1 rfl (wk1 rfl (wk1 rfl (wk1 rfl (wk1 (by rw [show (3 - ((p + 1 : Nat) : Int)) = 3 - (p : Int) - 1 by omega]; rfl) wk0))))) (wh1 (by first | exact mem0 | exact mem1 | exact mem2 | exact mem3 | exact mem4 | exact mem5 | exact mem6 | exact mem7) (wh1 (by first | exact mem0 | exact mem1 | exact mem2 | exact mem3 | exact mem4 | exact mem5 | exact mem6 | exact mem7) (wh1 (by first | exact mem0 | exact mem1 | exact mem2 | exact mem3 | exact mem4 | exact mem5 | exact mem6 | exact mem7) (wh1 (by first | exact mem0 | exact mem1 | exact mem2 | exact mem3 | exact mem4 | exact mem5 | exact mem6 | exact mem7) wh0)))) (by repeat (first | exact ns_nil | refine ns_keep rfl ?_ | refine ns_skip ?_))⟩
    ·
      obtain rfl : p = 4 := by omega
      refine Sat.exit ?_
      refine at_x ?_
      refine at_x ?_
      refine bl_h ?_
      refine at_n ?_
      refine Sat.seq ?_
      -- region 17
      refine Sat.region ?_
      refine Tr.sliceArr rfl rfl rfl Try.underlying74 Sz24 ?_
      refine Tr.callV rfl rfl rfl rfl Body46 (scalar_residue _ _ _ 8 (outM (words4 (le a)) (words4 (le b)) ([0, 0, 0, 0] ++ words4 (le c)) (4)) (by simp [modW_length, ldW_length, stB_length, leb_length, words4_length, innM_length, outM_length, List.length_append, ha, hb, hc]) (by omega)) (fun W h => sees_own h (by first | exact mem0 | exact mem1 | exact mem2 | exact mem3 | exact mem4 | exact mem5 | exact mem6 | exact mem7)) ?_
      first
        | refine Tr.storeAll rfl rfl rfl rfl (by simp [isCell]) Sz47 (by simp [modW_length, ldW_length, stB_length, leb_length, words4_length, innM_length, outM_length, List.length_append, ha, hb, hc]) (by first | exact mem0 | exact mem1 | exact mem2 | exact mem3 | exact mem4 | exact mem5 | exact mem6 | exact mem7) (by simp [modW_length, ldW_length, stB_length, leb_length, words4_length, innM_length, outM_length, List.length_append, ha, hb, hc]) (by first | exact upd0 | exact upd1 | exact upd2 | exact upd3 | exact upd4 | exact upd5 | exact upd6 | exact upd7) ?_
        | refine Tr.storeN _ rfl rfl rfl rfl rfl (by simp [isCell]) Sz47 (by simp [modW_length, ldW_length, stB_length, leb_length, words4_length, innM_length, outM_length, List.length_append, ha, hb, hc]) (by first | exact mem0 | exact mem1 | exact mem2 | exact mem3 | exact mem4 | exact mem5 | exact mem6 | exact mem7) (by simp [modW_length, ldW_length, stB_length, leb_length, words4_length, innM_length, outM_length, List.length_append, ha, hb, hc]) (by exact rfl) (by first | exact upd0 | exact upd1 | exact upd2 | exact upd3 | exact upd4 | exact upd5 | exact upd6 | exact upd7) ?_
      refine Tr.nil ?_
      refine at_n ?_
      refine Sat.ret ?_
      refine en_r ?_
      refine ⟨_, [], res_cell rfl rfl Try.underlying47 rfl Sz47 (by first | exact mem0 | exact mem1 | exact mem2 | exact mem3 | exact mem4 | exact mem5 | exact mem6 | exact mem7) (by simp [modW_length, ldW_length, stB_length, leb_length, words4_length, innM_length, outM_length, List.length_append, ha, hb, hc]), (by simp), (by simp), ?_, rfl⟩
      rw [maW_val rfl rfl rfl, wv_words4, wv_words4, wv_words4, Nat.mod_eq_of_lt (le32 ha), Nat.mod_eq_of_lt (le32 hb), Nat.mod_eq_of_lt (le32 hc)]

end Go.Proofs.Ytjeggfgbcafenaa
