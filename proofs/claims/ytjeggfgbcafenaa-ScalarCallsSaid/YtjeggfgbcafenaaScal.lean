/- Contracts of the functions of package scalar: what each call returns. Conditions: the lengths of arrays. -/
import Derived.Test.YtjeggfgbcafenaaTypes
import Derived.Test.YtjeggfgbcafenaaSDef
import Derived.Laws.Externs
namespace Go.Proofs.Ytjeggfgbcafenaa
open Go Hw
set_option linter.unusedVariables false
set_option linter.unusedSimpArgs false

set_option maxRecDepth 100000 in
set_option maxHeartbeats 1000000 in
theorem scalar_modulus  : Meets Try.prog 44 [] [] (fun _ => True) (fun v out => v = agg (wordsV modW) ∧ out = []) := by
  intro W hW
  refine calls_of (hp0 := []) Try.func44 rfl 2 Try.ntmps44 rfl (HRep.nil _) ?_
  refine Sat.seq ?_
  -- region 0
  refine Sat.region ?_
  refine Tr.alloc (cs := (wordsV (List.replicate 4 0))) rfl Zr72 rfl ?_
  intro n0 hn0 hf0
  refine Tr.nil ?_
  refine at_n ?_
  refine Sat.seq ?_
  -- region 1
  refine Sat.region ?_
  refine Tr.build (cs := wordsV modW) rfl rfl rfl (fun w => by kernel_rfl) ?_
  first
    | refine Tr.storeAll rfl rfl rfl rfl (by simp [isCell]) Sz72 (by simp [modW_length, dblW_length, ldW_length, stB_length, mnsW_length, leb_length, words4_length]) (by first | exact mem0 | exact mem1 | exact mem2 | exact mem3 | exact mem4 | exact mem5 | exact mem6 | exact mem7) (by simp [modW_length, dblW_length, ldW_length, stB_length, mnsW_length, leb_length, words4_length]) (by first | exact upd0 | exact upd1 | exact upd2 | exact upd3 | exact upd4 | exact upd5 | exact upd6 | exact upd7) ?_
    | refine Tr.storeN _ rfl rfl rfl rfl rfl (by simp [isCell]) Sz72 (by simp [modW_length, dblW_length, ldW_length, stB_length, mnsW_length, leb_length, words4_length]) (by first | exact mem0 | exact mem1 | exact mem2 | exact mem3 | exact mem4 | exact mem5 | exact mem6 | exact mem7) (by simp [modW_length, dblW_length, ldW_length, stB_length, mnsW_length, leb_length, words4_length]) (by exact rfl) (by first | exact upd0 | exact upd1 | exact upd2 | exact upd3 | exact upd4 | exact upd5 | exact upd6 | exact upd7) ?_
  refine Tr.nil ?_
  refine at_n ?_
  refine Sat.ret ?_
  refine en_r ?_
  refine ⟨_, [], res_cell rfl rfl Try.underlying72 rfl Sz72 (by first | exact mem0 | exact mem1 | exact mem2 | exact mem3 | exact mem4 | exact mem5 | exact mem6 | exact mem7) (by simp [modW_length, dblW_length, ldW_length, stB_length, mnsW_length, leb_length, words4_length]), (by simp), (by simp), ?_, rfl⟩
  rfl

set_option maxRecDepth 100000 in
set_option maxHeartbeats 1000000 in
theorem scalar_doubled (w : List UInt64) (b : UInt64) (hw : w.length = 4) : Meets Try.prog 59 [agg (wordsV w), u64 b] [] (fun _ => True) (fun v out => v = agg (wordsV (dblW w b)) ∧ out = []) := by
  intro W hW
  refine calls_of (hp0 := []) Try.func59 rfl 32 Try.ntmps59 rfl (HRep.nil _) ?_
  refine Sat.seq ?_
  -- region 0
  refine Sat.region ?_
  refine Tr.boxA rfl rfl ?_
  intro n2 hn2 hf2
  refine Tr.alloc (cs := (wordsV (List.replicate 4 0))) rfl Zr72 rfl ?_
  intro n4 hn4 hf4
  refine Tr.nil ?_
  refine at_n ?_
  refine Sat.seq ?_
  -- region 1
  refine Sat.region ?_
  first
    | refine Tr.idxArr1 rfl rfl rfl rfl Try.underlying72 Sz24 0 rfl (by decide) ?_
    | refine Tr.idxArrO rfl rfl rfl rfl Try.underlying72 Sz24 0 rfl (by decide) ?_
  refine Tr.load1 rfl rfl rfl Try.underlying24 rfl (by first | exact mem0 | exact mem1 | exact mem2 | exact mem3 | exact mem4 | exact mem5 | exact mem6 | exact mem7) (by first | rfl | exact get_words (by first | omega | (simp [modW_length, dblW_length, ldW_length, stB_length, mnsW_length, leb_length, words4_length, hw]; done) | (simp [modW_length, dblW_length, ldW_length, stB_length, mnsW_length, leb_length, words4_length, hw]; omega)) | exact get_bytes (by first | omega | (simp [modW_length, dblW_length, ldW_length, stB_length, mnsW_length, leb_length, words4_length, hw]; done) | (simp [modW_length, dblW_length, ldW_length, stB_length, mnsW_length, leb_length, words4_length, hw]; omega)) | exact get_ints (by first | omega | (simp [modW_length, dblW_length, ldW_length, stB_length, mnsW_length, leb_length, words4_length, hw]; done) | (simp [modW_length, dblW_length, ldW_length, stB_length, mnsW_length, leb_length, words4_length, hw]; omega))) ?_
  refine Tr.shl_u64 rfl rfl rfl rfl 1 rfl (by decide) ?_
  first
    | refine Tr.idxArr1 rfl rfl rfl rfl Try.underlying72 Sz24 1 rfl (by decide) ?_
    | refine Tr.idxArrO rfl rfl rfl rfl Try.underlying72 Sz24 1 rfl (by decide) ?_
  refine Tr.load1 rfl rfl rfl Try.underlying24 rfl (by first | exact mem0 | exact mem1 | exact mem2 | exact mem3 | exact mem4 | exact mem5 | exact mem6 | exact mem7) (by first | rfl | exact get_words (by first | omega | (simp [modW_length, dblW_length, ldW_length, stB_length, mnsW_length, leb_length, words4_length, hw]; done) | (simp [modW_length, dblW_length, ldW_length, stB_length, mnsW_length, leb_length, words4_length, hw]; omega)) | exact get_bytes (by first | omega | (simp [modW_length, dblW_length, ldW_length, stB_length, mnsW_length, leb_length, words4_length, hw]; done) | (simp [modW_length, dblW_length, ldW_length, stB_length, mnsW_length, leb_length, words4_length, hw]; omega)) | exact get_ints (by first | omega | (simp [modW_length, dblW_length, ldW_length, stB_length, mnsW_length, leb_length, words4_length, hw]; done) | (simp [modW_length, dblW_length, ldW_length, stB_length, mnsW_length, leb_length, words4_length, hw]; omega))) ?_
  refine Tr.shr_u64 rfl rfl rfl rfl 63 rfl (by decide) ?_
  refine Tr.or_u64 rfl rfl rfl rfl ?_
  first
    | refine Tr.idxArr1 rfl rfl rfl rfl Try.underlying72 Sz24 1 rfl (by decide) ?_
    | refine Tr.idxArrO rfl rfl rfl rfl Try.underlying72 Sz24 1 rfl (by decide) ?_
  refine Tr.load1 rfl rfl rfl Try.underlying24 rfl (by first | exact mem0 | exact mem1 | exact mem2 | exact mem3 | exact mem4 | exact mem5 | exact mem6 | exact mem7) (by first | rfl | exact get_words (by first | omega | (simp [modW_length, dblW_length, ldW_length, stB_length, mnsW_length, leb_length, words4_length, hw]; done) | (simp [modW_length, dblW_length, ldW_length, stB_length, mnsW_length, leb_length, words4_length, hw]; omega)) | exact get_bytes (by first | omega | (simp [modW_length, dblW_length, ldW_length, stB_length, mnsW_length, leb_length, words4_length, hw]; done) | (simp [modW_length, dblW_length, ldW_length, stB_length, mnsW_length, leb_length, words4_length, hw]; omega)) | exact get_ints (by first | omega | (simp [modW_length, dblW_length, ldW_length, stB_length, mnsW_length, leb_length, words4_length, hw]; done) | (simp [modW_length, dblW_length, ldW_length, stB_length, mnsW_length, leb_length, words4_length, hw]; omega))) ?_
  refine Tr.shl_u64 rfl rfl rfl rfl 1 rfl (by decide) ?_
  first
    | refine Tr.idxArr1 rfl rfl rfl rfl Try.underlying72 Sz24 2 rfl (by decide) ?_
    | refine Tr.idxArrO rfl rfl rfl rfl Try.underlying72 Sz24 2 rfl (by decide) ?_
  refine Tr.load1 rfl rfl rfl Try.underlying24 rfl (by first | exact mem0 | exact mem1 | exact mem2 | exact mem3 | exact mem4 | exact mem5 | exact mem6 | exact mem7) (by first | rfl | exact get_words (by first | omega | (simp [modW_length, dblW_length, ldW_length, stB_length, mnsW_length, leb_length, words4_length, hw]; done) | (simp [modW_length, dblW_length, ldW_length, stB_length, mnsW_length, leb_length, words4_length, hw]; omega)) | exact get_bytes (by first | omega | (simp [modW_length, dblW_length, ldW_length, stB_length, mnsW_length, leb_length, words4_length, hw]; done) | (simp [modW_length, dblW_length, ldW_length, stB_length, mnsW_length, leb_length, words4_length, hw]; omega)) | exact get_ints (by first | omega | (simp [modW_length, dblW_length, ldW_length, stB_length, mnsW_length, leb_length, words4_length, hw]; done) | (simp [modW_length, dblW_length, ldW_length, stB_length, mnsW_length, leb_length, words4_length, hw]; omega))) ?_
  refine Tr.shr_u64 rfl rfl rfl rfl 63 rfl (by decide) ?_
  refine Tr.or_u64 rfl rfl rfl rfl ?_
  first
    | refine Tr.idxArr1 rfl rfl rfl rfl Try.underlying72 Sz24 2 rfl (by decide) ?_
    | refine Tr.idxArrO rfl rfl rfl rfl Try.underlying72 Sz24 2 rfl (by decide) ?_
  refine Tr.load1 rfl rfl rfl Try.underlying24 rfl (by first | exact mem0 | exact mem1 | exact mem2 | exact mem3 | exact mem4 | exact mem5 | exact mem6 | exact mem7) (by first | rfl | exact get_words (by first | omega | (simp [modW_length, dblW_length, ldW_length, stB_length, mnsW_length, leb_length, words4_length, hw]; done) | (simp [modW_length, dblW_length, ldW_length, stB_length, mnsW_length, leb_length, words4_length, hw]; omega)) | exact get_bytes (by first | omega | (simp [modW_length, dblW_length, ldW_length, stB_length, mnsW_length, leb_length, words4_length, hw]; done) | (simp [modW_length, dblW_length, ldW_length, stB_length, mnsW_length, leb_length, words4_length, hw]; omega)) | exact get_ints (by first | omega | (simp [modW_length, dblW_length, ldW_length, stB_length, mnsW_length, leb_length, words4_length, hw]; done) | (simp [modW_length, dblW_length, ldW_length, stB_length, mnsW_length, leb_length, words4_length, hw]; omega))) ?_
  refine Tr.shl_u64 rfl rfl rfl rfl 1 rfl (by decide) ?_
  first
    | refine Tr.idxArr1 rfl rfl rfl rfl Try.underlying72 Sz24 3 rfl (by decide) ?_
    | refine Tr.idxArrO rfl rfl rfl rfl Try.underlying72 Sz24 3 rfl (by decide) ?_
  refine Tr.load1 rfl rfl rfl Try.underlying24 rfl (by first | exact mem0 | exact mem1 | exact mem2 | exact mem3 | exact mem4 | exact mem5 | exact mem6 | exact mem7) (by first | rfl | exact get_words (by first | omega | (simp [modW_length, dblW_length, ldW_length, stB_length, mnsW_length, leb_length, words4_length, hw]; done) | (simp [modW_length, dblW_length, ldW_length, stB_length, mnsW_length, leb_length, words4_length, hw]; omega)) | exact get_bytes (by first | omega | (simp [modW_length, dblW_length, ldW_length, stB_length, mnsW_length, leb_length, words4_length, hw]; done) | (simp [modW_length, dblW_length, ldW_length, stB_length, mnsW_length, leb_length, words4_length, hw]; omega)) | exact get_ints (by first | omega | (simp [modW_length, dblW_length, ldW_length, stB_length, mnsW_length, leb_length, words4_length, hw]; done) | (simp [modW_length, dblW_length, ldW_length, stB_length, mnsW_length, leb_length, words4_length, hw]; omega))) ?_
  refine Tr.shr_u64 rfl rfl rfl rfl 63 rfl (by decide) ?_
  refine Tr.or_u64 rfl rfl rfl rfl ?_
  first
    | refine Tr.idxArr1 rfl rfl rfl rfl Try.underlying72 Sz24 3 rfl (by decide) ?_
    | refine Tr.idxArrO rfl rfl rfl rfl Try.underlying72 Sz24 3 rfl (by decide) ?_
  refine Tr.load1 rfl rfl rfl Try.underlying24 rfl (by first | exact mem0 | exact mem1 | exact mem2 | exact mem3 | exact mem4 | exact mem5 | exact mem6 | exact mem7) (by first | rfl | exact get_words (by first | omega | (simp [modW_length, dblW_length, ldW_length, stB_length, mnsW_length, leb_length, words4_length, hw]; done) | (simp [modW_length, dblW_length, ldW_length, stB_length, mnsW_length, leb_length, words4_length, hw]; omega)) | exact get_bytes (by first | omega | (simp [modW_length, dblW_length, ldW_length, stB_length, mnsW_length, leb_length, words4_length, hw]; done) | (simp [modW_length, dblW_length, ldW_length, stB_length, mnsW_length, leb_length, words4_length, hw]; omega)) | exact get_ints (by first | omega | (simp [modW_length, dblW_length, ldW_length, stB_length, mnsW_length, leb_length, words4_length, hw]; done) | (simp [modW_length, dblW_length, ldW_length, stB_length, mnsW_length, leb_length, words4_length, hw]; omega))) ?_
  refine Tr.shl_u64 rfl rfl rfl rfl 1 rfl (by decide) ?_
  refine Tr.move rfl rfl rfl ?_
  refine Tr.or_u64 rfl rfl rfl rfl ?_
  refine Tr.build (cs := wordsV (dblW w b)) rfl rfl rfl (fun w => by kernel_rfl) ?_
  first
    | refine Tr.storeAll rfl rfl rfl rfl (by simp [isCell]) Sz72 (by simp [modW_length, dblW_length, ldW_length, stB_length, mnsW_length, leb_length, words4_length, hw]) (by first | exact mem0 | exact mem1 | exact mem2 | exact mem3 | exact mem4 | exact mem5 | exact mem6 | exact mem7) (by simp [modW_length, dblW_length, ldW_length, stB_length, mnsW_length, leb_length, words4_length, hw]) (by first | exact upd0 | exact upd1 | exact upd2 | exact upd3 | exact upd4 | exact upd5 | exact upd6 | exact upd7) ?_
    | refine Tr.storeN _ rfl rfl rfl rfl rfl (by simp [isCell]) Sz72 (by simp [modW_length, dblW_length, ldW_length, stB_length, mnsW_length, leb_length, words4_length, hw]) (by first | exact mem0 | exact mem1 | exact mem2 | exact mem3 | exact mem4 | exact mem5 | exact mem6 | exact mem7) (by simp [modW_length, dblW_length, ldW_length, stB_length, mnsW_length, leb_length, words4_length, hw]) (by exact rfl) (by first | exact upd0 | exact upd1 | exact upd2 | exact upd3 | exact upd4 | exact upd5 | exact upd6 | exact upd7) ?_
  refine Tr.nil ?_
  refine at_n ?_
  refine Sat.ret ?_
  refine en_r ?_
  refine ⟨_, [], res_cell rfl rfl Try.underlying72 rfl Sz72 (by first | exact mem0 | exact mem1 | exact mem2 | exact mem3 | exact mem4 | exact mem5 | exact mem6 | exact mem7) (by simp [modW_length, dblW_length, ldW_length, stB_length, mnsW_length, leb_length, words4_length, hw]), (by simp), (by simp), ?_, rfl⟩
  rfl

set_option maxRecDepth 100000 in
set_option maxHeartbeats 1000000 in
theorem scalar_load (a : List UInt8) (ha : a.length = 32) : Meets Try.prog 47 [agg (bytesV a)] [] (fun _ => True) (fun v out => v = agg (wordsV (ldW a 32)) ∧ out = []) := by
  intro W hW
  refine calls_of (hp0 := []) Try.func47 rfl 24 Try.ntmps47 rfl (HRep.nil _) ?_
  refine Sat.seq ?_
  -- region 0
  refine Sat.region ?_
  refine Tr.boxA rfl rfl ?_
  intro n1 hn1 hf1
  refine Tr.alloc (cs := (wordsV (List.replicate 4 0))) rfl Zr72 rfl ?_
  intro n2 hn2 hf2
  refine Tr.nil ?_
  refine at_n ?_
  refine Sat.seq ?_
  -- region 1
  refine Sat.region ?_
  refine Tr.alloc (cs := (wordsV (List.replicate 4 0))) rfl Zr72 rfl ?_
  intro n3 hn3 hf3
  refine Tr.nil ?_
  refine at_n ?_
  refine Sat.seq ?_
  refine Sat.seq ?_
  -- region 2
  refine Sat.region ?_
  refine Tr.move rfl rfl rfl ?_
  refine Tr.nil ?_
  refine at_n ?_
  refine Sat.block ?_
  refine Sat.loop (ι := Nat) (fun k => ⟨[(1, ptr n1 0), (2, ptr n2 0), (3, ptr n3 0), (5, i64 (k : Int))], [⟨n3, wordsV (ldW a k), 72, 4⟩, ⟨n2, wordsV (List.replicate 4 0), 72, 4⟩, ⟨n1, bytesV a, 47, (bytesV a).length⟩]⟩) (fun k => k ≤ 32) (fun k => 32 - k) (0) ?_ ?_ ?_
  · omega
  · exact weak_of (wk1 rfl (wk1 rfl (wk1 rfl (wk1 rfl wk0)))) (wh1 (by first | exact mem0 | exact mem1 | exact mem2 | exact mem3 | exact mem4 | exact mem5 | exact mem6 | exact mem7) (wh1 (by first | exact mem0 | exact mem1 | exact mem2 | exact mem3 | exact mem4 | exact mem5 | exact mem6 | exact mem7) (wh1 (by first | exact mem0 | exact mem1 | exact mem2 | exact mem3 | exact mem4 | exact mem5 | exact mem6 | exact mem7) wh0))) (by repeat (first | exact ns_nil | refine ns_keep rfl ?_ | refine ns_skip ?_))
  ·
    rintro k hi
    have hlk := ldW_length a k
    refine Sat.seq ?_
    -- region 3
    refine Sat.region ?_
    refine Tr.lss rfl rfl rfl rfl rfl ?_
    refine Tr.nil ?_
    refine at_n ?_
    refine Sat.seq ?_
    first
      | refine Sat.condP rfl (fun hc0 => ?_) (fun hc0 => ?_)
      | refine Sat.condNP rfl (fun hc0 => ?_) (fun hc0 => ?_)
      | refine Sat.cond rfl (fun hc0 => ?_) (fun hc0 => ?_)
    ·
      refine Sat.skip ?_
      refine at_n ?_
      refine Sat.seq ?_
      refine Sat.block ?_
      refine Sat.seq ?_
      -- region 4
      refine Sat.region ?_
      refine Tr.move rfl rfl rfl ?_
      refine Tr.assign rfl rfl rfl ?_
      refine Tr.nil ?_
      refine at_n ?_
      -- region 5
      refine Sat.draw [(0, 0), (0, 1), (0, 2), (0, 3), (0, 4), (1, 5), (0, 6), (0, 7), (0, 8), (0, 9), (1, 10), (0, 11), (0, 12), (0, 13), (4, 14)] Mixed (by kernel_rfl) ?_
      refine Tr.move rfl rfl rfl ?_
      refine Tr.quo_i64 rfl rfl rfl rfl (by omega) ?_
      refine Tr.move rfl rfl rfl ?_
      refine Tr.quo_i64 rfl rfl rfl rfl (by omega) ?_
      first
        | refine Tr.idxArr1 rfl rfl rfl rfl Try.underlying72 Sz24 (k / 8) (by omega) (by omega) ?_
        | refine Tr.idxArrO rfl rfl rfl rfl Try.underlying72 Sz24 (k / 8) (by omega) (by omega) ?_
      refine Tr.load1 rfl rfl rfl Try.underlying24 rfl (by first | exact mem0 | exact mem1 | exact mem2 | exact mem3 | exact mem4 | exact mem5 | exact mem6 | exact mem7) (by first | rfl | exact get_words (by first | omega | (simp [modW_length, dblW_length, ldW_length, stB_length, mnsW_length, leb_length, words4_length, ha]; done) | (simp [modW_length, dblW_length, ldW_length, stB_length, mnsW_length, leb_length, words4_length, ha]; omega)) | exact get_bytes (by first | omega | (simp [modW_length, dblW_length, ldW_length, stB_length, mnsW_length, leb_length, words4_length, ha]; done) | (simp [modW_length, dblW_length, ldW_length, stB_length, mnsW_length, leb_length, words4_length, ha]; omega)) | exact get_ints (by first | omega | (simp [modW_length, dblW_length, ldW_length, stB_length, mnsW_length, leb_length, words4_length, ha]; done) | (simp [modW_length, dblW_length, ldW_length, stB_length, mnsW_length, leb_length, words4_length, ha]; omega))) ?_
      refine Tr.shl_u64 rfl rfl rfl rfl 8 rfl (by decide) ?_
      refine Tr.move rfl rfl rfl ?_
      refine Tr.sub_i64 rfl rfl rfl rfl (by omega) ?_
      first
        | refine Tr.idxArr1 rfl rfl rfl rfl Try.underlying47 Sz5 (31 - k) (by omega) (by omega) ?_
        | refine Tr.idxArrO rfl rfl rfl rfl Try.underlying47 Sz5 (31 - k) (by omega) (by omega) ?_
      refine Tr.load1 rfl rfl rfl Try.underlying5 rfl (by first | exact mem0 | exact mem1 | exact mem2 | exact mem3 | exact mem4 | exact mem5 | exact mem6 | exact mem7) (by first | rfl | exact get_words (by first | omega | (simp [modW_length, dblW_length, ldW_length, stB_length, mnsW_length, leb_length, words4_length, ha]; done) | (simp [modW_length, dblW_length, ldW_length, stB_length, mnsW_length, leb_length, words4_length, ha]; omega)) | exact get_bytes (by first | omega | (simp [modW_length, dblW_length, ldW_length, stB_length, mnsW_length, leb_length, words4_length, ha]; done) | (simp [modW_length, dblW_length, ldW_length, stB_length, mnsW_length, leb_length, words4_length, ha]; omega)) | exact get_ints (by first | omega | (simp [modW_length, dblW_length, ldW_length, stB_length, mnsW_length, leb_length, words4_length, ha]; done) | (simp [modW_length, dblW_length, ldW_length, stB_length, mnsW_length, leb_length, words4_length, ha]; omega))) ?_
      refine Tr.conv rfl rfl rfl Try.underlying5 Try.underlying24 (cv_u8_u64 _) ?_
      refine Tr.or_u64 rfl rfl rfl rfl ?_
      first
        | refine Tr.idxArr1 rfl rfl rfl rfl Try.underlying72 Sz24 (k / 8) (by omega) (by omega) ?_
        | refine Tr.idxArrO rfl rfl rfl rfl Try.underlying72 Sz24 (k / 8) (by omega) (by omega) ?_
      refine Tr.store1 rfl rfl rfl rfl rfl Sz24 (by first | exact mem0 | exact mem1 | exact mem2 | exact mem3 | exact mem4 | exact mem5 | exact mem6 | exact mem7) (by first | (simp [modW_length, dblW_length, ldW_length, stB_length, mnsW_length, leb_length, words4_length, ha]; done) | (simp [modW_length, dblW_length, ldW_length, stB_length, mnsW_length, leb_length, words4_length, ha]; omega)) (by first | exact set_words _ _ _ | exact set_bytes _ _ _ | exact set_ints _ _ _ | rfl) (by first | exact upd0 | exact upd1 | exact upd2 | exact upd3 | exact upd4 | exact upd5 | exact upd6 | exact upd7) ?_
      refine Tr.nil ?_
      refine bl_n ?_
      refine at_n ?_
      -- region 6
      refine Sat.region ?_
      refine Tr.add_i64 rfl rfl rfl rfl (by omega) ?_
      refine Tr.move rfl rfl rfl ?_
      refine Tr.nil ?_
      refine at_n ?_
      exact ⟨k + 1, by omega, by omega, weak_of (wk1 rfl (wk1 rfl (wk1 rfl (wk1 rfl wk0)))) (wh1 (by first | exact mem0 | exact mem1 | exact mem2 | exact mem3 | exact mem4 | exact mem5 | exact mem6 | exact mem7) (wh1 (by first | exact mem0 | exact mem1 | exact mem2 | exact mem3 | exact mem4 | exact mem5 | exact mem6 | exact mem7) (wh1 (by first | exact mem0 | exact mem1 | exact mem2 | exact mem3 | exact mem4 | exact mem5 | exact mem6 | exact mem7) wh0))) (by repeat (first | exact ns_nil | refine ns_keep rfl ?_ | refine ns_skip ?_))⟩
    ·
      obtain rfl : k = 32 := by omega
      refine Sat.exit ?_
      refine at_x ?_
      refine at_x ?_
      refine bl_h ?_
      refine at_n ?_
      refine Sat.seq ?_
      -- region 7
      refine Sat.region ?_
      first
        | refine Tr.loadAll rfl rfl rfl Try.underlying72 rfl Sz72 (by first | exact mem0 | exact mem1 | exact mem2 | exact mem3 | exact mem4 | exact mem5 | exact mem6 | exact mem7) (by simp [modW_length, dblW_length, ldW_length, stB_length, mnsW_length, leb_length, words4_length, ha]) ?_
        | refine Tr.loadN _ rfl rfl rfl Try.underlying72 rfl Sz72 (by first | exact mem0 | exact mem1 | exact mem2 | exact mem3 | exact mem4 | exact mem5 | exact mem6 | exact mem7) (by exact rfl) (by simp [modW_length, dblW_length, ldW_length, stB_length, mnsW_length, leb_length, words4_length, ha]) ?_
      first
        | refine Tr.storeAll rfl rfl rfl rfl (by simp [isCell]) Sz72 (by simp [modW_length, dblW_length, ldW_length, stB_length, mnsW_length, leb_length, words4_length, ha]) (by first | exact mem0 | exact mem1 | exact mem2 | exact mem3 | exact mem4 | exact mem5 | exact mem6 | exact mem7) (by simp [modW_length, dblW_length, ldW_length, stB_length, mnsW_length, leb_length, words4_length, ha]) (by first | exact upd0 | exact upd1 | exact upd2 | exact upd3 | exact upd4 | exact upd5 | exact upd6 | exact upd7) ?_
        | refine Tr.storeN _ rfl rfl rfl rfl rfl (by simp [isCell]) Sz72 (by simp [modW_length, dblW_length, ldW_length, stB_length, mnsW_length, leb_length, words4_length, ha]) (by first | exact mem0 | exact mem1 | exact mem2 | exact mem3 | exact mem4 | exact mem5 | exact mem6 | exact mem7) (by simp [modW_length, dblW_length, ldW_length, stB_length, mnsW_length, leb_length, words4_length, ha]) (by exact rfl) (by first | exact upd0 | exact upd1 | exact upd2 | exact upd3 | exact upd4 | exact upd5 | exact upd6 | exact upd7) ?_
      refine Tr.nil ?_
      refine at_n ?_
      refine Sat.ret ?_
      refine en_r ?_
      refine ⟨_, [], res_cell rfl rfl Try.underlying72 rfl Sz72 (by first | exact mem0 | exact mem1 | exact mem2 | exact mem3 | exact mem4 | exact mem5 | exact mem6 | exact mem7) (by simp [modW_length, dblW_length, ldW_length, stB_length, mnsW_length, leb_length, words4_length, ha]), (by simp), (by simp), ?_, rfl⟩
      rfl

set_option maxRecDepth 100000 in
set_option maxHeartbeats 1000000 in
theorem scalar_store (w : List UInt64) (hw : w.length = 4) : Meets Try.prog 45 [agg (wordsV w)] [] (fun _ => True) (fun v out => v = agg (bytesV (stB w 32)) ∧ out = []) := by
  intro W hW
  refine calls_of (hp0 := []) Try.func45 rfl 23 Try.ntmps45 rfl (HRep.nil _) ?_
  refine Sat.seq ?_
  -- region 0
  refine Sat.region ?_
  refine Tr.boxA rfl rfl ?_
  intro n1 hn1 hf1
  refine Tr.alloc (cs := (bytesV (List.replicate 32 0))) rfl Zr47 rfl ?_
  intro n2 hn2 hf2
  refine Tr.nil ?_
  refine at_n ?_
  refine Sat.seq ?_
  -- region 1
  refine Sat.region ?_
  refine Tr.alloc (cs := (bytesV (List.replicate 32 0))) rfl Zr47 rfl ?_
  intro n3 hn3 hf3
  refine Tr.nil ?_
  refine at_n ?_
  refine Sat.seq ?_
  refine Sat.seq ?_
  -- region 2
  refine Sat.region ?_
  refine Tr.move rfl rfl rfl ?_
  refine Tr.nil ?_
  refine at_n ?_
  refine Sat.block ?_
  refine Sat.loop (ι := Nat) (fun k => ⟨[(1, ptr n1 0), (2, ptr n2 0), (3, ptr n3 0), (5, i64 (k : Int))], [⟨n3, bytesV (stB w k), 47, 32⟩, ⟨n2, bytesV (List.replicate 32 0), 47, 32⟩, ⟨n1, wordsV w, 72, (wordsV w).length⟩]⟩) (fun k => k ≤ 32) (fun k => 32 - k) (0) ?_ ?_ ?_
  · omega
  · exact weak_of (wk1 rfl (wk1 rfl (wk1 rfl (wk1 rfl wk0)))) (wh1 (by first | exact mem0 | exact mem1 | exact mem2 | exact mem3 | exact mem4 | exact mem5 | exact mem6 | exact mem7) (wh1 (by first | exact mem0 | exact mem1 | exact mem2 | exact mem3 | exact mem4 | exact mem5 | exact mem6 | exact mem7) (wh1 (by first | exact mem0 | exact mem1 | exact mem2 | exact mem3 | exact mem4 | exact mem5 | exact mem6 | exact mem7) wh0))) (by repeat (first | exact ns_nil | refine ns_keep rfl ?_ | refine ns_skip ?_))
  ·
    rintro k hi
    have hlk := stB_length w k
    refine Sat.seq ?_
    -- region 3
    refine Sat.region ?_
    refine Tr.lss rfl rfl rfl rfl rfl ?_
    refine Tr.nil ?_
    refine at_n ?_
    refine Sat.seq ?_
    first
      | refine Sat.condP rfl (fun hc0 => ?_) (fun hc0 => ?_)
      | refine Sat.condNP rfl (fun hc0 => ?_) (fun hc0 => ?_)
      | refine Sat.cond rfl (fun hc0 => ?_) (fun hc0 => ?_)
    ·
      refine Sat.skip ?_
      refine at_n ?_
      refine Sat.seq ?_
      refine Sat.block ?_
      refine Sat.seq ?_
      -- region 4
      refine Sat.region ?_
      refine Tr.move rfl rfl rfl ?_
      refine Tr.assign rfl rfl rfl ?_
      refine Tr.nil ?_
      refine at_n ?_
      -- region 5
      refine Sat.region ?_
      refine Tr.move rfl rfl rfl ?_
      refine Tr.sub_i64 rfl rfl rfl rfl (by omega) ?_
      refine Tr.move rfl rfl rfl ?_
      refine Tr.quo_i64 rfl rfl rfl rfl (by omega) ?_
      first
        | refine Tr.idxArr1 rfl rfl rfl rfl Try.underlying72 Sz24 (k / 8) (by omega) (by omega) ?_
        | refine Tr.idxArrO rfl rfl rfl rfl Try.underlying72 Sz24 (k / 8) (by omega) (by omega) ?_
      refine Tr.load1 rfl rfl rfl Try.underlying24 rfl (by first | exact mem0 | exact mem1 | exact mem2 | exact mem3 | exact mem4 | exact mem5 | exact mem6 | exact mem7) (by first | rfl | exact get_words (by first | omega | (simp [modW_length, dblW_length, ldW_length, stB_length, mnsW_length, leb_length, words4_length, hw]; done) | (simp [modW_length, dblW_length, ldW_length, stB_length, mnsW_length, leb_length, words4_length, hw]; omega)) | exact get_bytes (by first | omega | (simp [modW_length, dblW_length, ldW_length, stB_length, mnsW_length, leb_length, words4_length, hw]; done) | (simp [modW_length, dblW_length, ldW_length, stB_length, mnsW_length, leb_length, words4_length, hw]; omega)) | exact get_ints (by first | omega | (simp [modW_length, dblW_length, ldW_length, stB_length, mnsW_length, leb_length, words4_length, hw]; done) | (simp [modW_length, dblW_length, ldW_length, stB_length, mnsW_length, leb_length, words4_length, hw]; omega))) ?_
      refine Tr.move rfl rfl rfl ?_
      refine Tr.rem_i64 rfl rfl rfl rfl (by omega) ?_
      refine Tr.mul_i64 rfl rfl rfl rfl (by omega) ?_
      refine Tr.sub_i64 rfl rfl rfl rfl (by omega) ?_
      refine Tr.shr_u64 rfl rfl rfl rfl (56 - 8 * (k % 8)) (by omega) (by omega) ?_
      refine Tr.conv rfl rfl rfl Try.underlying24 Try.underlying5 (cv_u64_u8 _) ?_
      first
        | refine Tr.idxArr1 rfl rfl rfl rfl Try.underlying47 Sz5 (31 - k) (by omega) (by omega) ?_
        | refine Tr.idxArrO rfl rfl rfl rfl Try.underlying47 Sz5 (31 - k) (by omega) (by omega) ?_
      refine Tr.store1 rfl rfl rfl rfl rfl Sz5 (by first | exact mem0 | exact mem1 | exact mem2 | exact mem3 | exact mem4 | exact mem5 | exact mem6 | exact mem7) (by first | (simp [modW_length, dblW_length, ldW_length, stB_length, mnsW_length, leb_length, words4_length, hw]; done) | (simp [modW_length, dblW_length, ldW_length, stB_length, mnsW_length, leb_length, words4_length, hw]; omega)) (by first | exact set_words _ _ _ | exact set_bytes _ _ _ | exact set_ints _ _ _ | rfl) (by first | exact upd0 | exact upd1 | exact upd2 | exact upd3 | exact upd4 | exact upd5 | exact upd6 | exact upd7) ?_
      refine Tr.nil ?_
      refine bl_n ?_
      refine at_n ?_
      -- region 6
      refine Sat.region ?_
      refine Tr.add_i64 rfl rfl rfl rfl (by omega) ?_
      refine Tr.move rfl rfl rfl ?_
      refine Tr.nil ?_
      refine at_n ?_
      exact ⟨k + 1, by omega, by omega, weak_of (wk1 rfl (wk1 rfl (wk1 rfl (wk1 rfl wk0)))) (wh1 (by first | exact mem0 | exact mem1 | exact mem2 | exact mem3 | exact mem4 | exact mem5 | exact mem6 | exact mem7) (wh1 (by first | exact mem0 | exact mem1 | exact mem2 | exact mem3 | exact mem4 | exact mem5 | exact mem6 | exact mem7) (wh1 (by first | exact mem0 | exact mem1 | exact mem2 | exact mem3 | exact mem4 | exact mem5 | exact mem6 | exact mem7) wh0))) (by repeat (first | exact ns_nil | refine ns_keep rfl ?_ | refine ns_skip ?_))⟩
    ·
      obtain rfl : k = 32 := by omega
      refine Sat.exit ?_
      refine at_x ?_
      refine at_x ?_
      refine bl_h ?_
      refine at_n ?_
      refine Sat.seq ?_
      -- region 7
      refine Sat.region ?_
      first
        | refine Tr.loadAll rfl rfl rfl Try.underlying47 rfl Sz47 (by first | exact mem0 | exact mem1 | exact mem2 | exact mem3 | exact mem4 | exact mem5 | exact mem6 | exact mem7) (by simp [modW_length, dblW_length, ldW_length, stB_length, mnsW_length, leb_length, words4_length, hw]) ?_
        | refine Tr.loadN _ rfl rfl rfl Try.underlying47 rfl Sz47 (by first | exact mem0 | exact mem1 | exact mem2 | exact mem3 | exact mem4 | exact mem5 | exact mem6 | exact mem7) (by exact rfl) (by simp [modW_length, dblW_length, ldW_length, stB_length, mnsW_length, leb_length, words4_length, hw]) ?_
      first
        | refine Tr.storeAll rfl rfl rfl rfl (by simp [isCell]) Sz47 (by simp [modW_length, dblW_length, ldW_length, stB_length, mnsW_length, leb_length, words4_length, hw]) (by first | exact mem0 | exact mem1 | exact mem2 | exact mem3 | exact mem4 | exact mem5 | exact mem6 | exact mem7) (by simp [modW_length, dblW_length, ldW_length, stB_length, mnsW_length, leb_length, words4_length, hw]) (by first | exact upd0 | exact upd1 | exact upd2 | exact upd3 | exact upd4 | exact upd5 | exact upd6 | exact upd7) ?_
        | refine Tr.storeN _ rfl rfl rfl rfl rfl (by simp [isCell]) Sz47 (by simp [modW_length, dblW_length, ldW_length, stB_length, mnsW_length, leb_length, words4_length, hw]) (by first | exact mem0 | exact mem1 | exact mem2 | exact mem3 | exact mem4 | exact mem5 | exact mem6 | exact mem7) (by simp [modW_length, dblW_length, ldW_length, stB_length, mnsW_length, leb_length, words4_length, hw]) (by exact rfl) (by first | exact upd0 | exact upd1 | exact upd2 | exact upd3 | exact upd4 | exact upd5 | exact upd6 | exact upd7) ?_
      refine Tr.nil ?_
      refine at_n ?_
      refine Sat.ret ?_
      refine en_r ?_
      refine ⟨_, [], res_cell rfl rfl Try.underlying47 rfl Sz47 (by first | exact mem0 | exact mem1 | exact mem2 | exact mem3 | exact mem4 | exact mem5 | exact mem6 | exact mem7) (by simp [modW_length, dblW_length, ldW_length, stB_length, mnsW_length, leb_length, words4_length, hw]), (by simp), (by simp), ?_, rfl⟩
      rfl

theorem sub64_run (x y b : UInt64) (hb : b.toNat ≤ 1) (w : World) : (callFunc 61 [u64 x, u64 y, u64 b].toArray).run Try.prog w = .ok (.value (.tuple #[u64 (w64 (x.toNat + 2 ^ 64 - y.toNat - b.toNat)), u64 (if x.toNat < y.toNat + b.toNat then 1 else 0)])) w := by
  rw [run_callFunc_extern Try.func61 (by kernel_rfl) (by kernel_rfl) (by kernel_rfl) (e := sub64E) (by kernel_rfl)]
  have h : (sub64E [u64 x, u64 y, u64 b].toArray).run Try.prog w = .ok (.tuple #[.int .u64 (((x.toNat + 18446744073709551616 - y.toNat - b.toNat) % 18446744073709551616 : Nat) : Int), .int .u64 ((if x.toNat < y.toNat + b.toNat then 1 else 0 : Nat) : Int)]) w := by
    have : b.toNat = 0 ∨ b.toNat = 1 := by omega
    rcases this with h | h <;> simp only [u64, h] <;> rfl
  rw [h]
  simp only [Result.andThen, u64, w64_toNat]
  congr 5
  split <;> rfl
theorem add64_run (x y b : UInt64) (hb : b.toNat ≤ 1) (w : World) : (callFunc 51 [u64 x, u64 y, u64 b].toArray).run Try.prog w = .ok (.value (.tuple #[u64 (w64 (x.toNat + y.toNat + b.toNat)), u64 (w64 ((x.toNat + y.toNat + b.toNat) / 2 ^ 64))])) w := by
  rw [run_callFunc_extern Try.func51 (by kernel_rfl) (by kernel_rfl) (by kernel_rfl) (e := add64Entry) (by kernel_rfl)]
  have hx := x.toNat_lt; have hy := y.toNat_lt
  have h := run_add64 (P := Try.prog) (x.toNat : Int) y.toNat b.toNat (by omega) (by omega) (by omega) (by omega) w
  have e : [u64 x, u64 y, u64 b].toArray = #[.int .u64 x.toNat, .int .u64 y.toNat, .int .u64 b.toNat] := rfl
  have e1 : ((x.toNat : Int) + y.toNat + b.toNat) % 18446744073709551616 = ((w64 (x.toNat + y.toNat + b.toNat)).toNat : Int) := by rw [w64_toNat]; omega
  have e2 : ((x.toNat : Int) + y.toNat + b.toNat) / 18446744073709551616 = ((w64 ((x.toNat + y.toNat + b.toNat) / 2 ^ 64)).toNat : Int) := by rw [w64_toNat]; omega
  rw [e, h, e1, e2]
  rfl


set_option maxRecDepth 100000 in
set_option maxHeartbeats 1000000 in
theorem isNaN_u64 (x : UInt64) : Meets Try.prog 57 [u64 x] [] (fun _ => True) (fun v out => v = .bool false ∧ out = []) := by
  intro W hW
  refine calls_of (hp0 := []) Try.func57 rfl 6 Try.ntmps57 rfl (HRep.nil _) ?_
  refine Sat.seq ?_
  -- region 0
  refine Sat.region ?_
  refine Tr.assign rfl rfl rfl ?_
  refine Tr.nil ?_
  refine at_n ?_
  refine Sat.seq ?_
  -- region 1
  refine Sat.region ?_
  refine Tr.move rfl rfl rfl ?_
  refine Tr.move rfl rfl rfl ?_
  refine Tr.nei rfl rfl rfl rfl (show (!decide _) = false from congrArg not (decide_eq_true (rfl))) ?_
  refine Tr.assign rfl rfl rfl ?_
  refine Tr.nil ?_
  refine at_n ?_
  refine Sat.ret ?_
  refine en_r ?_
  refine ⟨_, [], res_tmp rfl rfl, (by simp), (by simp), ?_, rfl⟩
  rfl

set_option maxRecDepth 100000 in
set_option maxHeartbeats 1000000 in
theorem cmp_u64 (x y : UInt64) : Meets Try.prog 41 [u64 x, u64 y] [] (fun _ => True) (fun v out => v = i64 (cmp1 x y) ∧ out = []) := by
  intro W hW
  refine calls_of (hp0 := []) Try.func41 rfl 20 Try.ntmps41 rfl (HRep.nil _) ?_
  refine Sat.seq ?_
  -- region 0
  refine Sat.region ?_
  refine Tr.assign rfl rfl rfl ?_
  refine Tr.nil ?_
  refine at_n ?_
  refine Sat.seq ?_
  -- region 1
  refine Sat.region ?_
  refine Tr.move rfl rfl rfl ?_
  refine Tr.callV rfl rfl rfl rfl Body57 (isNaN_u64 _) (fun _ _ => trivial) ?_
  refine Tr.assign rfl rfl rfl ?_
  refine Tr.nil ?_
  refine at_n ?_
  refine Sat.seq ?_
  -- region 2
  refine Sat.region ?_
  refine Tr.move rfl rfl rfl ?_
  refine Tr.callV rfl rfl rfl rfl Body57 (isNaN_u64 _) (fun _ _ => trivial) ?_
  refine Tr.assign rfl rfl rfl ?_
  refine Tr.nil ?_
  refine at_n ?_
  refine Sat.seq ?_
  refine Sat.seq ?_
  -- region 3
  refine Sat.region ?_
  refine Tr.move rfl rfl rfl ?_
  refine Tr.nil ?_
  refine at_n ?_
  refine Sat.cond_f rfl (rfl) ?_
  refine Sat.skip ?_
  refine at_n ?_
  refine Sat.seq ?_
  refine Sat.seq ?_
  -- region 7
  refine Sat.region ?_
  refine Tr.move rfl rfl rfl ?_
  refine Tr.nil ?_
  refine at_n ?_
  refine Sat.cond_f rfl (rfl) ?_
  refine Sat.skip ?_
  refine at_n ?_
  refine Sat.seq ?_
  refine Sat.seq ?_
  -- region 9
  refine Sat.region ?_
  refine Tr.move rfl rfl rfl ?_
  refine Tr.move rfl rfl rfl ?_
  refine Tr.lss rfl rfl rfl rfl rfl ?_
  refine Tr.nil ?_
  refine at_n ?_
  first
    | refine Sat.condP rfl (fun hc3 => ?_) (fun hc3 => ?_)
    | refine Sat.condNP rfl (fun hc3 => ?_) (fun hc3 => ?_)
    | refine Sat.cond rfl (fun hc3 => ?_) (fun hc3 => ?_)
  ·
    refine Sat.seq ?_
    -- region 10
    refine Sat.region ?_
    refine Tr.assign rfl rfl rfl ?_
    refine Tr.nil ?_
    refine at_n ?_
    refine Sat.ret ?_
    refine at_r ?_
    refine en_r ?_
    refine ⟨_, [], res_tmp rfl rfl, (by simp), (by simp), ?_, rfl⟩
    unfold cmp1
    first | rw [if_pos (by omega)] | rw [if_neg (by omega), if_pos (by omega)] | rw [if_neg (by omega), if_neg (by omega)]
  ·
    refine Sat.skip ?_
    refine at_n ?_
    refine Sat.seq ?_
    refine Sat.seq ?_
    -- region 11
    refine Sat.region ?_
    refine Tr.move rfl rfl rfl ?_
    refine Tr.move rfl rfl rfl ?_
    refine Tr.gtr rfl rfl rfl rfl rfl ?_
    refine Tr.nil ?_
    refine at_n ?_
    first
      | refine Sat.condP rfl (fun hc4 => ?_) (fun hc4 => ?_)
      | refine Sat.condNP rfl (fun hc4 => ?_) (fun hc4 => ?_)
      | refine Sat.cond rfl (fun hc4 => ?_) (fun hc4 => ?_)
    ·
      refine Sat.seq ?_
      -- region 12
      refine Sat.region ?_
      refine Tr.assign rfl rfl rfl ?_
      refine Tr.nil ?_
      refine at_n ?_
      refine Sat.ret ?_
      refine at_r ?_
      refine en_r ?_
      refine ⟨_, [], res_tmp rfl rfl, (by simp), (by simp), ?_, rfl⟩
      unfold cmp1
      first | rw [if_pos (by omega)] | rw [if_neg (by omega), if_pos (by omega)] | rw [if_neg (by omega), if_neg (by omega)]
    ·
      refine Sat.skip ?_
      refine at_n ?_
      refine Sat.seq ?_
      -- region 13
      refine Sat.region ?_
      refine Tr.assign rfl rfl rfl ?_
      refine Tr.nil ?_
      refine at_n ?_
      refine Sat.ret ?_
      refine en_r ?_
      refine ⟨_, [], res_tmp rfl rfl, (by simp), (by simp), ?_, rfl⟩
      unfold cmp1
      first | rw [if_pos (by omega)] | rw [if_neg (by omega), if_pos (by omega)] | rw [if_neg (by omega), if_neg (by omega)]

set_option maxRecDepth 100000 in
set_option maxHeartbeats 1000000 in
theorem cmpFunc_u64 (b1 o1 c1 b2 o2 c2 n : Nat) (xs ys : List UInt64) (hx : xs.length = n) (hy : ys.length = n) (hn : n ≤ 1000000) : Meets Try.prog 60 [.slice (some ⟨b1, o1, none⟩) n c1, .slice (some ⟨b2, o2, none⟩) n c2, .func (.func 41) #[] #[]] [] (fun W => Sees W b1 o1 (wordsV xs) ∧ Sees W b2 o2 (wordsV ys)) (fun v out => v = i64 (cmpW xs ys) ∧ out = []) := by
  intro W hW
  refine calls_of (hp0 := []) Try.func60 rfl 39 Try.ntmps60 rfl (HRep.nil _) ?_
  refine Sat.seq ?_
  -- region 0
  refine Sat.region ?_
  refine Tr.assign rfl rfl rfl ?_
  refine Tr.nil ?_
  refine at_n ?_
  refine Sat.seq ?_
  refine Sat.seq ?_
  -- region 1
  refine Sat.region ?_
  refine Tr.move rfl rfl rfl ?_
  refine Tr.lenSl rfl rfl rfl Try.underlying76 ?_
  refine Tr.move rfl rfl rfl ?_
  refine Tr.nil ?_
  refine at_n ?_
  refine Sat.block ?_
  refine Sat.loop (ι := Nat) (fun k => ⟨[(0, .slice (some ⟨b1, o1, none⟩) n c1), (1, .slice (some ⟨b2, o2, none⟩) n c2), (2, .func (.func 41) #[] #[]), (11, .slice (some ⟨b1, o1, none⟩) n c1), (12, i64 (n : Int)), (13, i64 (k : Int))], []⟩) (fun k => k ≤ n ∧ ∀ j, j < k → xs.getD j 0 = ys.getD j 0) (fun k => n - k) (0) ?_ ?_ ?_
  · exact ⟨by omega, fun j hj => by omega⟩
  · exact weak_of (wk1 rfl (wk1 rfl (wk1 rfl (wk1 rfl (wk1 rfl (wk1 rfl wk0)))))) wh0 (by repeat (first | exact ns_nil | refine ns_keep rfl ?_ | refine ns_skip ?_))
  ·
    rintro k ⟨hk, hi⟩
    refine Sat.seq ?_
    -- region 2
    refine Sat.region ?_
    refine Tr.lss rfl rfl rfl rfl rfl ?_
    refine Tr.nil ?_
    refine at_n ?_
    refine Sat.seq ?_
    first
      | refine Sat.condP rfl (fun hc0 => ?_) (fun hc0 => ?_)
      | refine Sat.condNP rfl (fun hc0 => ?_) (fun hc0 => ?_)
      | refine Sat.cond rfl (fun hc0 => ?_) (fun hc0 => ?_)
    ·
      refine Sat.skip ?_
      refine at_n ?_
      refine Sat.seq ?_
      refine Sat.block ?_
      refine Sat.seq ?_
      -- region 3
      refine Sat.region ?_
      refine Tr.move rfl rfl rfl ?_
      first
        | refine Tr.idxSl1 rfl rfl rfl rfl Try.underlying76 Sz24 _ rfl (by omega) ?_
        | refine Tr.idxSlO rfl rfl rfl rfl Try.underlying76 Sz24 _ rfl (by omega) ?_
        | refine Tr.idxSl1 rfl rfl rfl rfl Try.underlying76 Sz24 _ (toNat_back (by omega)) (by omega) ?_
        | refine Tr.idxSlO rfl rfl rfl rfl Try.underlying76 Sz24 _ (toNat_back (by omega)) (by omega) ?_
      refine Tr.loadE rfl rfl rfl Try.underlying24 rfl (by simp) (hW.1 _ _ (get_words (by omega))) ?_
      refine Tr.assign rfl rfl rfl ?_
      refine Tr.assign rfl rfl rfl ?_
      refine Tr.nil ?_
      refine at_n ?_
      refine Sat.seq ?_
      refine Sat.seq ?_
      -- region 4
      refine Sat.region ?_
      refine Tr.move rfl rfl rfl ?_
      refine Tr.move rfl rfl rfl ?_
      refine Tr.lenSl rfl rfl rfl Try.underlying76 ?_
      refine Tr.geq rfl rfl rfl rfl rfl ?_
      refine Tr.nil ?_
      refine at_n ?_
      refine Sat.cond_f rfl (by simp; omega) ?_
      refine Sat.skip ?_
      refine at_n ?_
      refine Sat.seq ?_
      -- region 6
      refine Sat.region ?_
      refine Tr.move rfl rfl rfl ?_
      refine Tr.move rfl rfl rfl ?_
      first
        | refine Tr.idxSl1 rfl rfl rfl rfl Try.underlying76 Sz24 _ rfl (by omega) ?_
        | refine Tr.idxSlO rfl rfl rfl rfl Try.underlying76 Sz24 _ rfl (by omega) ?_
        | refine Tr.idxSl1 rfl rfl rfl rfl Try.underlying76 Sz24 _ (toNat_back (by omega)) (by omega) ?_
        | refine Tr.idxSlO rfl rfl rfl rfl Try.underlying76 Sz24 _ (toNat_back (by omega)) (by omega) ?_
      refine Tr.loadE rfl rfl rfl Try.underlying24 rfl (by simp) (hW.2 _ _ (get_words (by omega))) ?_
      refine Tr.assign rfl rfl rfl ?_
      refine Tr.nil ?_
      refine at_n ?_
      refine Sat.seq ?_
      -- region 7
      refine Sat.region ?_
      refine Tr.move rfl rfl rfl ?_
      refine Tr.move rfl rfl rfl ?_
      refine Tr.move rfl rfl rfl ?_
      refine Tr.callV rfl rfl rfl rfl Body41 (cmp_u64 _ _) (fun _ _ => trivial) ?_
      refine Tr.assign rfl rfl rfl ?_
      refine Tr.nil ?_
      refine at_n ?_
      refine Sat.seq ?_
      -- region 8
      refine Sat.region ?_
      refine Tr.move rfl rfl rfl ?_
      refine Tr.nei rfl rfl rfl rfl rfl ?_
      refine Tr.nil ?_
      refine at_n ?_
      first
        | refine Sat.condP rfl (fun hc2 => ?_) (fun hc2 => ?_)
        | refine Sat.condNP rfl (fun hc2 => ?_) (fun hc2 => ?_)
        | refine Sat.cond rfl (fun hc2 => ?_) (fun hc2 => ?_)
      ·
        refine Sat.seq ?_
        -- region 9
        refine Sat.region ?_
        refine Tr.move rfl rfl rfl ?_
        refine Tr.assign rfl rfl rfl ?_
        refine Tr.nil ?_
        refine at_n ?_
        refine Sat.ret ?_
        refine bl_r ?_
        refine at_r ?_
        refine at_r ?_
        refine bl_r ?_
        refine at_r ?_
        refine en_r ?_
        refine ⟨_, [], res_tmp rfl rfl, (by simp), (by simp), ?_, rfl⟩
        first | exact congrArg i64 (cmpW_at _ _ _ hi (by omega) (by omega) hc2).symm | exact congrArg i64 (cmpW_all _ _ (by omega) (by rw [hx]; exact hi)).symm
      ·
        refine Sat.skip ?_
        refine bl_n ?_
        refine at_n ?_
        -- region 10
        refine Sat.region ?_
        refine Tr.add_i64 rfl rfl rfl rfl (by omega) ?_
        refine Tr.move rfl rfl rfl ?_
        refine Tr.nil ?_
        refine at_n ?_
        exact ⟨k + 1, ⟨by omega, fun j hj => if h : j < k then hi j h else (show j = k by omega) ▸ cmp1_eq hc2⟩, by omega, weak_of (wk1 rfl (wk1 rfl (wk1 rfl (wk1 rfl (wk1 rfl (wk1 rfl wk0)))))) wh0 (by repeat (first | exact ns_nil | refine ns_keep rfl ?_ | refine ns_skip ?_))⟩
    ·
      obtain rfl : k = n := by omega
      refine Sat.exit ?_
      refine at_x ?_
      refine at_x ?_
      refine bl_h ?_
      refine at_n ?_
      refine Sat.seq ?_
      refine Sat.seq ?_
      -- region 11
      refine Sat.region ?_
      refine Tr.move rfl rfl rfl ?_
      refine Tr.lenSl rfl rfl rfl Try.underlying76 ?_
      refine Tr.move rfl rfl rfl ?_
      refine Tr.lenSl rfl rfl rfl Try.underlying76 ?_
      refine Tr.lss rfl rfl rfl rfl rfl ?_
      refine Tr.nil ?_
      refine at_n ?_
      refine Sat.cond_f rfl (by simp) ?_
      refine Sat.skip ?_
      refine at_n ?_
      refine Sat.seq ?_
      -- region 13
      refine Sat.region ?_
      refine Tr.assign rfl rfl rfl ?_
      refine Tr.nil ?_
      refine at_n ?_
      refine Sat.ret ?_
      refine en_r ?_
      refine ⟨_, [], res_tmp rfl rfl, (by simp), (by simp), ?_, rfl⟩
      first | exact congrArg i64 (cmpW_at _ _ _ hi (by omega) (by omega) hc2).symm | exact congrArg i64 (cmpW_all _ _ (by omega) (by rw [hx]; exact hi)).symm

set_option maxRecDepth 100000 in
set_option maxHeartbeats 1000000 in
theorem scalar_below (w m : List UInt64) (hw : w.length = 4) (hm : m.length = 4) : Meets Try.prog 48 [agg (wordsV w), agg (wordsV m)] [] (fun _ => True) (fun v out => v = .bool (decide (wv w < wv m)) ∧ out = []) := by
  intro W hW
  refine calls_of (hp0 := []) Try.func48 rfl 9 Try.ntmps48 rfl (HRep.nil _) ?_
  refine Sat.seq ?_
  -- region 0
  refine Sat.region ?_
  refine Tr.boxA rfl rfl ?_
  intro n2 hn2 hf2
  refine Tr.boxA rfl rfl ?_
  intro n3 hn3 hf3
  refine Tr.assign rfl rfl rfl ?_
  refine Tr.nil ?_
  refine at_n ?_
  refine Sat.seq ?_
  -- region 1
  refine Sat.draw [(0, 0), (0, 1), (3, 2), (0, 3), (0, 4)] Mixed (by kernel_rfl) ?_
  refine Tr.sliceArr rfl rfl rfl Try.underlying72 Sz24 ?_
  refine Tr.sliceArr rfl rfl rfl Try.underlying72 Sz24 ?_
  refine Tr.callV rfl rfl rfl rfl Body60 (cmpFunc_u64 _ _ _ _ _ _ 4 w m hw hm (by omega)) (fun W h => ⟨sees_own h (by first | exact mem0 | exact mem1 | exact mem2 | exact mem3 | exact mem4 | exact mem5 | exact mem6 | exact mem7), sees_own h (by first | exact mem0 | exact mem1 | exact mem2 | exact mem3 | exact mem4 | exact mem5 | exact mem6 | exact mem7)⟩) ?_
  refine Tr.lss rfl rfl rfl rfl rfl ?_
  refine Tr.assign rfl rfl rfl ?_
  refine Tr.nil ?_
  refine at_n ?_
  refine Sat.ret ?_
  refine en_r ?_
  refine ⟨_, [], res_tmp rfl rfl, (by simp), (by simp), ?_, rfl⟩
  exact congrArg Value.bool (by simp only [cmpW_lt hw hm])

set_option maxRecDepth 100000 in
set_option maxHeartbeats 1000000 in
theorem scalar_minus (w m : List UInt64) (hw : w.length = 4) (hm : m.length = 4) : Meets Try.prog 49 [agg (wordsV w), agg (wordsV m)] [] (fun _ => True) (fun v out => v = agg (wordsV (mnsW w m 4).1) ∧ out = []) := by
  intro W hW
  refine calls_of (hp0 := []) Try.func49 rfl 25 Try.ntmps49 rfl (HRep.nil _) ?_
  refine Sat.seq ?_
  -- region 0
  refine Sat.region ?_
  refine Tr.boxA rfl rfl ?_
  intro n2 hn2 hf2
  refine Tr.boxA rfl rfl ?_
  intro n3 hn3 hf3
  refine Tr.alloc (cs := (wordsV (List.replicate 4 0))) rfl Zr72 rfl ?_
  intro n4 hn4 hf4
  refine Tr.nil ?_
  refine at_n ?_
  refine Sat.seq ?_
  -- region 1
  refine Sat.region ?_
  refine Tr.assign rfl rfl (show evIn _ _ = some (u64 0) from rfl) ?_
  refine Tr.nil ?_
  refine at_n ?_
  refine Sat.seq ?_
  refine Sat.seq ?_
  -- region 2
  refine Sat.region ?_
  refine Tr.assign rfl rfl rfl ?_
  refine Tr.nil ?_
  refine at_n ?_
  refine Sat.block ?_
  refine Sat.loop (ι := Nat) (fun k => ⟨[(2, ptr n2 0), (3, ptr n3 0), (4, ptr n4 0), (5, u64 (mnsW w m k).2), (6, i64 (3 - (k : Int)))], [⟨n4, wordsV (List.replicate 4 0), 72, 4⟩, ⟨n3, wordsV m, 72, (wordsV m).length⟩, ⟨n2, wordsV (mnsW w m k).1, 72, (wordsV w).length⟩]⟩) (fun k => k ≤ 4) (fun k => 4 - k) (0) ?_ ?_ ?_
  · omega
  · exact weak_of (wk1 rfl (wk1 rfl (wk1 rfl (wk1 rfl (wk1 rfl wk0))))) (wh1 (by first | exact mem0 | exact mem1 | exact mem2 | exact mem3 | exact mem4 | exact mem5 | exact mem6 | exact mem7) (wh1 (by first | exact mem0 | exact mem1 | exact mem2 | exact mem3 | exact mem4 | exact mem5 | exact mem6 | exact mem7) (wh1 (by first | exact mem0 | exact mem1 | exact mem2 | exact mem3 | exact mem4 | exact mem5 | exact mem6 | exact mem7) wh0))) (by repeat (first | exact ns_nil | refine ns_keep rfl ?_ | refine ns_skip ?_))
  ·
    rintro k hi
    have hl := mnsW_length w m k
    refine Sat.seq ?_
    refine Sat.seq ?_
    -- region 3
    refine Sat.region ?_
    refine Tr.move rfl rfl rfl ?_
    refine Tr.geq rfl rfl rfl rfl rfl ?_
    refine Tr.nil ?_
    refine at_n ?_
    first
      | refine Sat.condP rfl (fun hc0 => ?_) (fun hc0 => ?_)
      | refine Sat.condNP rfl (fun hc0 => ?_) (fun hc0 => ?_)
      | refine Sat.cond rfl (fun hc0 => ?_) (fun hc0 => ?_)
    ·
      have hk4 : k < 4 := by omega
      refine Sat.skip ?_
      refine at_n ?_
      refine Sat.seq ?_
      refine Sat.block ?_
      -- region 5
      refine Sat.draw [(0, 0), (0, 1), (0, 2), (1, 3), (0, 4), (0, 5), (1, 6), (0, 7), (0, 8), (0, 9), (0, 10), (0, 11), (0, 12), (4, 13), (0, 14)] Mixed (by kernel_rfl) ?_
      refine Tr.move rfl rfl rfl ?_
      refine Tr.move rfl rfl rfl ?_
      first
        | refine Tr.idxArr1 rfl rfl rfl rfl Try.underlying72 Sz24 (3 - k) (by omega) (by omega) ?_
        | refine Tr.idxArrO rfl rfl rfl rfl Try.underlying72 Sz24 (3 - k) (by omega) (by omega) ?_
      refine Tr.load1 rfl rfl rfl Try.underlying24 rfl (by first | exact mem0 | exact mem1 | exact mem2 | exact mem3 | exact mem4 | exact mem5 | exact mem6 | exact mem7) (by first | rfl | exact get_words (by first | omega | (simp [modW_length, dblW_length, ldW_length, stB_length, mnsW_length, leb_length, words4_length, hw, hm]; done) | (simp [modW_length, dblW_length, ldW_length, stB_length, mnsW_length, leb_length, words4_length, hw, hm]; omega)) | exact get_bytes (by first | omega | (simp [modW_length, dblW_length, ldW_length, stB_length, mnsW_length, leb_length, words4_length, hw, hm]; done) | (simp [modW_length, dblW_length, ldW_length, stB_length, mnsW_length, leb_length, words4_length, hw, hm]; omega)) | exact get_ints (by first | omega | (simp [modW_length, dblW_length, ldW_length, stB_length, mnsW_length, leb_length, words4_length, hw, hm]; done) | (simp [modW_length, dblW_length, ldW_length, stB_length, mnsW_length, leb_length, words4_length, hw, hm]; omega))) ?_
      refine Tr.move rfl rfl rfl ?_
      first
        | refine Tr.idxArr1 rfl rfl rfl rfl Try.underlying72 Sz24 (3 - k) (by omega) (by omega) ?_
        | refine Tr.idxArrO rfl rfl rfl rfl Try.underlying72 Sz24 (3 - k) (by omega) (by omega) ?_
      refine Tr.load1 rfl rfl rfl Try.underlying24 rfl (by first | exact mem0 | exact mem1 | exact mem2 | exact mem3 | exact mem4 | exact mem5 | exact mem6 | exact mem7) (by first | rfl | exact get_words (by first | omega | (simp [modW_length, dblW_length, ldW_length, stB_length, mnsW_length, leb_length, words4_length, hw, hm]; done) | (simp [modW_length, dblW_length, ldW_length, stB_length, mnsW_length, leb_length, words4_length, hw, hm]; omega)) | exact get_bytes (by first | omega | (simp [modW_length, dblW_length, ldW_length, stB_length, mnsW_length, leb_length, words4_length, hw, hm]; done) | (simp [modW_length, dblW_length, ldW_length, stB_length, mnsW_length, leb_length, words4_length, hw, hm]; omega)) | exact get_ints (by first | omega | (simp [modW_length, dblW_length, ldW_length, stB_length, mnsW_length, leb_length, words4_length, hw, hm]; done) | (simp [modW_length, dblW_length, ldW_length, stB_length, mnsW_length, leb_length, words4_length, hw, hm]; omega))) ?_
      refine Tr.move rfl rfl rfl ?_
      refine Tr.ext rfl rfl rfl rfl (sub64_run _ _ _ (mnsW_borrow w m k)) ?_
      refine Tr.move rfl rfl rfl ?_
      refine Tr.extract rfl rfl rfl rfl ?_
      refine Tr.extract rfl rfl rfl rfl ?_
      first
        | refine Tr.idxArr1 rfl rfl rfl rfl Try.underlying72 Sz24 (3 - k) (by omega) (by omega) ?_
        | refine Tr.idxArrO rfl rfl rfl rfl Try.underlying72 Sz24 (3 - k) (by omega) (by omega) ?_
      refine Tr.store1 rfl rfl rfl rfl rfl Sz24 (by first | exact mem0 | exact mem1 | exact mem2 | exact mem3 | exact mem4 | exact mem5 | exact mem6 | exact mem7) (by first | (simp [modW_length, dblW_length, ldW_length, stB_length, mnsW_length, leb_length, words4_length, hw, hm]; done) | (simp [modW_length, dblW_length, ldW_length, stB_length, mnsW_length, leb_length, words4_length, hw, hm]; omega)) (by first | exact set_words _ _ _ | exact set_bytes _ _ _ | exact set_ints _ _ _ | rfl) (by first | exact upd0 | exact upd1 | exact upd2 | exact upd3 | exact upd4 | exact upd5 | exact upd6 | exact upd7) ?_
      refine Tr.assign rfl rfl rfl ?_
      refine Tr.nil ?_
      refine bl_n ?_
      refine at_n ?_
      -- region 4
      refine Sat.region ?_
      refine Tr.move rfl rfl rfl ?_
      refine Tr.sub_i64 rfl rfl rfl rfl (by omega) ?_
      refine Tr.assign rfl rfl rfl ?_
      refine Tr.nil ?_
      refine at_n ?_
      exact ⟨k + 1, by omega, by omega, weak_of (wk1 rfl (wk1 rfl (wk1 rfl (wk1 rfl (wk1 (by rw [show (3 - ((k + 1 : Nat) : Int)) = 3 - (k : Int) - 1 by omega]; rfl) wk0))))) (wh1 (by first | exact mem0 | exact mem1 | exact mem2 | exact mem3 | exact mem4 | exact mem5 | exact mem6 | exact mem7) (wh1 (by first | exact mem0 | exact mem1 | exact mem2 | exact mem3 | exact mem4 | exact mem5 | exact mem6 | exact mem7) (wh1 (by first | exact mem0 | exact mem1 | exact mem2 | exact mem3 | exact mem4 | exact mem5 | exact mem6 | exact mem7) wh0))) (by repeat (first | exact ns_nil | refine ns_keep rfl ?_ | refine ns_skip ?_))⟩
    ·
      obtain rfl : k = 4 := by omega
      refine Sat.exit ?_
      refine at_x ?_
      refine at_x ?_
      refine bl_h ?_
      refine at_n ?_
      refine Sat.seq ?_
      -- region 6
      refine Sat.region ?_
      first
        | refine Tr.loadAll rfl rfl rfl Try.underlying72 rfl Sz72 (by first | exact mem0 | exact mem1 | exact mem2 | exact mem3 | exact mem4 | exact mem5 | exact mem6 | exact mem7) (by simp [modW_length, dblW_length, ldW_length, stB_length, mnsW_length, leb_length, words4_length, hw, hm]) ?_
        | refine Tr.loadN _ rfl rfl rfl Try.underlying72 rfl Sz72 (by first | exact mem0 | exact mem1 | exact mem2 | exact mem3 | exact mem4 | exact mem5 | exact mem6 | exact mem7) (by exact rfl) (by simp [modW_length, dblW_length, ldW_length, stB_length, mnsW_length, leb_length, words4_length, hw, hm]) ?_
      first
        | refine Tr.storeAll rfl rfl rfl rfl (by simp [isCell]) Sz72 (by simp [modW_length, dblW_length, ldW_length, stB_length, mnsW_length, leb_length, words4_length, hw, hm]) (by first | exact mem0 | exact mem1 | exact mem2 | exact mem3 | exact mem4 | exact mem5 | exact mem6 | exact mem7) (by simp [modW_length, dblW_length, ldW_length, stB_length, mnsW_length, leb_length, words4_length, hw, hm]) (by first | exact upd0 | exact upd1 | exact upd2 | exact upd3 | exact upd4 | exact upd5 | exact upd6 | exact upd7) ?_
        | refine Tr.storeN _ rfl rfl rfl rfl rfl (by simp [isCell]) Sz72 (by simp [modW_length, dblW_length, ldW_length, stB_length, mnsW_length, leb_length, words4_length, hw, hm]) (by first | exact mem0 | exact mem1 | exact mem2 | exact mem3 | exact mem4 | exact mem5 | exact mem6 | exact mem7) (by simp [modW_length, dblW_length, ldW_length, stB_length, mnsW_length, leb_length, words4_length, hw, hm]) (by exact rfl) (by first | exact upd0 | exact upd1 | exact upd2 | exact upd3 | exact upd4 | exact upd5 | exact upd6 | exact upd7) ?_
      refine Tr.nil ?_
      refine at_n ?_
      refine Sat.ret ?_
      refine en_r ?_
      refine ⟨_, [], res_cell rfl rfl Try.underlying72 rfl Sz72 (by first | exact mem0 | exact mem1 | exact mem2 | exact mem3 | exact mem4 | exact mem5 | exact mem6 | exact mem7) (by simp [modW_length, dblW_length, ldW_length, stB_length, mnsW_length, leb_length, words4_length, hw, hm]), (by simp), (by simp), ?_, rfl⟩
      rfl

set_option maxRecDepth 100000 in
set_option maxHeartbeats 1000000 in
theorem mul64_ok (x y : UInt64) : Meets Try.prog 50 [u64 x, u64 y] [] (fun _ => True) (fun v out => v = .tuple #[u64 (mulHi x y), u64 (x * y)] ∧ out = []) := by
  intro W hW
  refine calls_of (hp0 := []) Try.func50 rfl 51 Try.ntmps50 rfl (HRep.nil _) ?_
  refine Sat.seq ?_
  -- region 0
  refine Sat.region ?_
  refine Tr.assign rfl rfl (show evIn _ _ = some (u64 0) from rfl) ?_
  refine Tr.assign rfl rfl (show evIn _ _ = some (u64 0) from rfl) ?_
  refine Tr.nil ?_
  refine at_n ?_
  refine Sat.seq ?_
  -- region 1
  refine Sat.region ?_
  refine Tr.move rfl rfl rfl ?_
  refine Tr.and_u64 rfl rfl rfl (show evIn _ _ = some (u64 4294967295) from rfl) ?_
  refine Tr.assign rfl rfl rfl ?_
  refine Tr.nil ?_
  refine at_n ?_
  refine Sat.seq ?_
  -- region 2
  refine Sat.region ?_
  refine Tr.move rfl rfl rfl ?_
  refine Tr.shr_u64 rfl rfl rfl rfl 32 rfl (by decide) ?_
  refine Tr.assign rfl rfl rfl ?_
  refine Tr.nil ?_
  refine at_n ?_
  refine Sat.seq ?_
  -- region 3
  refine Sat.region ?_
  refine Tr.move rfl rfl rfl ?_
  refine Tr.and_u64 rfl rfl rfl (show evIn _ _ = some (u64 4294967295) from rfl) ?_
  refine Tr.assign rfl rfl rfl ?_
  refine Tr.nil ?_
  refine at_n ?_
  refine Sat.seq ?_
  -- region 4
  refine Sat.region ?_
  refine Tr.move rfl rfl rfl ?_
  refine Tr.shr_u64 rfl rfl rfl rfl 32 rfl (by decide) ?_
  refine Tr.assign rfl rfl rfl ?_
  refine Tr.nil ?_
  refine at_n ?_
  refine Sat.seq ?_
  -- region 5
  refine Sat.region ?_
  refine Tr.move rfl rfl rfl ?_
  refine Tr.move rfl rfl rfl ?_
  refine Tr.mul_u64 rfl rfl rfl rfl ?_
  refine Tr.assign rfl rfl rfl ?_
  refine Tr.nil ?_
  refine at_n ?_
  refine Sat.seq ?_
  -- region 6
  refine Sat.region ?_
  refine Tr.move rfl rfl rfl ?_
  refine Tr.move rfl rfl rfl ?_
  refine Tr.mul_u64 rfl rfl rfl rfl ?_
  refine Tr.move rfl rfl rfl ?_
  refine Tr.shr_u64 rfl rfl rfl rfl 32 rfl (by decide) ?_
  refine Tr.add_u64 rfl rfl rfl rfl ?_
  refine Tr.assign rfl rfl rfl ?_
  refine Tr.nil ?_
  refine at_n ?_
  refine Sat.seq ?_
  -- region 7
  refine Sat.region ?_
  refine Tr.move rfl rfl rfl ?_
  refine Tr.and_u64 rfl rfl rfl (show evIn _ _ = some (u64 4294967295) from rfl) ?_
  refine Tr.assign rfl rfl rfl ?_
  refine Tr.nil ?_
  refine at_n ?_
  refine Sat.seq ?_
  -- region 8
  refine Sat.region ?_
  refine Tr.move rfl rfl rfl ?_
  refine Tr.shr_u64 rfl rfl rfl rfl 32 rfl (by decide) ?_
  refine Tr.assign rfl rfl rfl ?_
  refine Tr.nil ?_
  refine at_n ?_
  refine Sat.seq ?_
  -- region 9
  refine Sat.region ?_
  refine Tr.move rfl rfl rfl ?_
  refine Tr.move rfl rfl rfl ?_
  refine Tr.move rfl rfl rfl ?_
  refine Tr.mul_u64 rfl rfl rfl rfl ?_
  refine Tr.add_u64 rfl rfl rfl rfl ?_
  refine Tr.assign rfl rfl rfl ?_
  refine Tr.nil ?_
  refine at_n ?_
  refine Sat.seq ?_
  -- region 10
  refine Sat.region ?_
  refine Tr.move rfl rfl rfl ?_
  refine Tr.move rfl rfl rfl ?_
  refine Tr.mul_u64 rfl rfl rfl rfl ?_
  refine Tr.move rfl rfl rfl ?_
  refine Tr.add_u64 rfl rfl rfl rfl ?_
  refine Tr.move rfl rfl rfl ?_
  refine Tr.shr_u64 rfl rfl rfl rfl 32 rfl (by decide) ?_
  refine Tr.add_u64 rfl rfl rfl rfl ?_
  refine Tr.assign rfl rfl rfl ?_
  refine Tr.nil ?_
  refine at_n ?_
  refine Sat.seq ?_
  -- region 11
  refine Sat.region ?_
  refine Tr.move rfl rfl rfl ?_
  refine Tr.move rfl rfl rfl ?_
  refine Tr.mul_u64 rfl rfl rfl rfl ?_
  refine Tr.assign rfl rfl rfl ?_
  refine Tr.nil ?_
  refine at_n ?_
  refine Sat.ret ?_
  refine en_r ?_
  refine ⟨_, [], res_tmp2 rfl rfl rfl, (by simp), (by simp), ?_, rfl⟩
  rfl

theorem scalar_load_n (a : List UInt8) (ha : a.length = 32) : Meets Try.prog 47 [agg (bytesV a)] [] (fun _ => True) (fun v out => v = agg (wordsV (words4 (le a))) ∧ out = []) := by
  rw [← ldW_eq ha]; exact scalar_load a ha
theorem scalar_store_n (n : Nat) : Meets Try.prog 45 [agg (wordsV (words4 n))] [] (fun _ => True) (fun v out => v = agg (bytesV (leb 32 n)) ∧ out = []) := by
  rw [← stB_eq n]; exact scalar_store (words4 n) rfl
theorem scalar_modulus_n : Meets Try.prog 44 [] [] (fun _ => True) (fun v out => v = agg (wordsV (words4 L)) ∧ out = []) := by
  rw [← modW_eq]; exact scalar_modulus
theorem scalar_doubled_n (n : Nat) (b : UInt64) (hb : b.toNat ≤ 1) : Meets Try.prog 59 [agg (wordsV (words4 n)), u64 b] [] (fun _ => True) (fun v out => v = agg (wordsV (words4 (2 * n + b.toNat))) ∧ out = []) := by
  rw [← dblW_eq n b hb]; exact scalar_doubled (words4 n) b rfl
theorem scalar_below_n (n m : Nat) (hn : n < 2 ^ 256) (hm : m < 2 ^ 256) : Meets Try.prog 48 [agg (wordsV (words4 n)), agg (wordsV (words4 m))] [] (fun _ => True) (fun v out => v = .bool (decide (n < m)) ∧ out = []) := by
  have := scalar_below (words4 n) (words4 m) rfl rfl
  rw [wv_words4, wv_words4, Nat.mod_eq_of_lt hn, Nat.mod_eq_of_lt hm] at this
  exact this
theorem scalar_minus_n (n m : Nat) (hn : n < 2 ^ 256) (hm : m ≤ n) : Meets Try.prog 49 [agg (wordsV (words4 n)), agg (wordsV (words4 m))] [] (fun _ => True) (fun v out => v = agg (wordsV (words4 (n - m))) ∧ out = []) := by
  have := scalar_minus (words4 n) (words4 m) rfl rfl
  rw [mnsW_eq rfl rfl, wv_words4, wv_words4, Nat.mod_eq_of_lt hn, Nat.mod_eq_of_lt (Nat.lt_of_le_of_lt hm hn)] at this
  have e : words4 (n + 2 ^ 256 - m) = words4 (n - m) := by rw [← words4_mod, show (n + 2 ^ 256 - m) % 2 ^ 256 = (n - m) % 2 ^ 256 by omega, words4_mod]
  rw [← e, ← words4_mod n, Nat.mod_eq_of_lt hn]
  exact this
theorem bit_le (x : UInt64) (n : Nat) : (shr64 x n &&& 1).toNat = x.toNat / 2 ^ n % 2 := by
  rw [UInt64.toNat_and, shr64_toNat]
  exact Nat.and_two_pow_sub_one_eq_mod _ 1
theorem words4_start (xs : List UInt64) : words4 (wv (List.take 0 xs) % L) = List.replicate 4 0 := by
  rw [List.take_zero]; decide
theorem res_bd (m : Nat) (x : UInt64) (n : Nat) (h : m < L) : 2 * m + (shr64 x n &&& 1).toNat < 2 ^ 256 := by
  have hL : L < 2 ^ 254 := by decide
  rw [bit_le]; omega


set_option maxRecDepth 100000 in
set_option maxHeartbeats 1000000 in
theorem scalar_residue (b o c n : Nat) (xs : List UInt64) (hx : xs.length = n) (hn : n ≤ 1000000) : Meets Try.prog 46 [.slice (some ⟨b, o, none⟩) n c] [] (fun W => Sees W b o (wordsV xs)) (fun v out => v = agg (bytesV (leb 32 (wv xs % L))) ∧ out = []) := by
  intro W hW
  have hL : L < 2 ^ 256 := by decide
  refine calls_of (hp0 := []) Try.func46 rfl 35 Try.ntmps46 rfl (HRep.nil _) ?_
  refine Sat.seq ?_
  -- region 0
  refine Sat.region ?_
  refine Tr.alloc (cs := (bytesV (List.replicate 32 0))) rfl Zr47 rfl ?_
  intro n2 hn2 hf2
  refine Tr.nil ?_
  refine at_n ?_
  refine Sat.seq ?_
  -- region 1
  refine Sat.region ?_
  refine Tr.alloc (cs := (wordsV (List.replicate 4 0))) rfl Zr72 rfl ?_
  intro n3 hn3 hf3
  refine Tr.nil ?_
  refine at_n ?_
  refine Sat.seq ?_
  -- region 2
  refine Sat.region ?_
  refine Tr.callV rfl rfl rfl rfl Body44 (scalar_modulus_n) (fun _ _ => trivial) ?_
  refine Tr.alloc (cs := (wordsV (List.replicate 4 0))) rfl Zr72 rfl ?_
  intro n4 hn4 hf4
  first
    | refine Tr.storeAll rfl rfl rfl rfl (by simp [isCell]) Sz72 (by simp [modW_length, dblW_length, ldW_length, stB_length, mnsW_length, leb_length, words4_length, hx]) (by first | exact mem0 | exact mem1 | exact mem2 | exact mem3 | exact mem4 | exact mem5 | exact mem6 | exact mem7) (by simp [modW_length, dblW_length, ldW_length, stB_length, mnsW_length, leb_length, words4_length, hx]) (by first | exact upd0 | exact upd1 | exact upd2 | exact upd3 | exact upd4 | exact upd5 | exact upd6 | exact upd7) ?_
    | refine Tr.storeN _ rfl rfl rfl rfl rfl (by simp [isCell]) Sz72 (by simp [modW_length, dblW_length, ldW_length, stB_length, mnsW_length, leb_length, words4_length, hx]) (by first | exact mem0 | exact mem1 | exact mem2 | exact mem3 | exact mem4 | exact mem5 | exact mem6 | exact mem7) (by simp [modW_length, dblW_length, ldW_length, stB_length, mnsW_length, leb_length, words4_length, hx]) (by exact rfl) (by first | exact upd0 | exact upd1 | exact upd2 | exact upd3 | exact upd4 | exact upd5 | exact upd6 | exact upd7) ?_
  refine Tr.nil ?_
  refine at_n ?_
  refine Sat.seq ?_
  refine Sat.seq ?_
  -- region 3
  refine Sat.region ?_
  refine Tr.move rfl rfl rfl ?_
  refine Tr.lenSl rfl rfl rfl Try.underlying76 ?_
  refine Tr.move rfl rfl rfl ?_
  refine Tr.nil ?_
  refine at_n ?_
  refine Sat.block ?_
  refine Sat.loop (ι := Nat) (fun k => ⟨[(2, ptr n2 0), (3, ptr n3 0), (4, ptr n4 0), (9, .slice (some ⟨b, o, none⟩) n c), (10, i64 (n : Int)), (11, i64 (k : Int))], [⟨n4, wordsV (words4 L), 72, 4⟩, ⟨n3, wordsV (words4 (wv (xs.take k) % L)), 72, 4⟩, ⟨n2, bytesV (List.replicate 32 0), 47, 32⟩]⟩) (fun k => k ≤ n) (fun k => n - k) (0) ?_ ?_ ?_
  · omega
  · exact weak_of (wk1 rfl (wk1 rfl (wk1 rfl (wk1 rfl (wk1 rfl (wk1 rfl wk0)))))) (wh1 (by first | exact mem0 | exact mem1 | exact mem2 | exact mem3 | exact mem4 | exact mem5 | exact mem6 | exact mem7) (wh1 (by rw [words4_start]; exact mem1) (wh1 (by first | exact mem0 | exact mem1 | exact mem2 | exact mem3 | exact mem4 | exact mem5 | exact mem6 | exact mem7) wh0))) (by repeat (first | exact ns_nil | refine ns_keep rfl ?_ | refine ns_skip ?_))
  ·
    rintro k hi
    refine Sat.seq ?_
    -- region 4
    refine Sat.region ?_
    refine Tr.lss rfl rfl rfl rfl rfl ?_
    refine Tr.nil ?_
    refine at_n ?_
    refine Sat.seq ?_
    first
      | refine Sat.condP rfl (fun hc0 => ?_) (fun hc0 => ?_)
      | refine Sat.condNP rfl (fun hc0 => ?_) (fun hc0 => ?_)
      | refine Sat.cond rfl (fun hc0 => ?_) (fun hc0 => ?_)
    ·
      refine Sat.skip ?_
      refine at_n ?_
      refine Sat.seq ?_
      refine Sat.block ?_
      refine Sat.seq ?_
      -- region 5
      refine Sat.region ?_
      first
        | refine Tr.idxSl1 rfl rfl rfl rfl Try.underlying76 Sz24 _ rfl (by omega) ?_
        | refine Tr.idxSlO rfl rfl rfl rfl Try.underlying76 Sz24 _ rfl (by omega) ?_
        | refine Tr.idxSl1 rfl rfl rfl rfl Try.underlying76 Sz24 _ (toNat_back (by omega)) (by omega) ?_
        | refine Tr.idxSlO rfl rfl rfl rfl Try.underlying76 Sz24 _ (toNat_back (by omega)) (by omega) ?_
      refine Tr.loadE rfl rfl rfl Try.underlying24 rfl (by simp) (hW _ _ (get_words (by omega))) ?_
      refine Tr.assign rfl rfl rfl ?_
      refine Tr.nil ?_
      refine at_n ?_
      refine Sat.seq ?_
      -- region 6
      refine Sat.region ?_
      refine Tr.assign rfl rfl rfl ?_
      refine Tr.nil ?_
      refine at_n ?_
      refine Sat.block ?_
      refine Sat.loop (ι := Nat) (fun t => ⟨[(2, ptr n2 0), (3, ptr n3 0), (4, ptr n4 0), (6, u64 (xs.getD k 0)), (7, i64 (63 - (t : Int))), (9, .slice (some ⟨b, o, none⟩) n c), (10, i64 (n : Int)), (11, i64 (k : Int))], [⟨n4, wordsV (words4 L), 72, 4⟩, ⟨n3, wordsV (words4 ((wv (xs.take k) * 2 ^ (t) + (xs.getD k 0).toNat / 2 ^ (64 - (t))) % L)), 72, 4⟩, ⟨n2, bytesV (List.replicate 32 0), 47, 32⟩]⟩) (fun t => t ≤ 64) (fun t => 64 - t) (0) ?_ ?_ ?_
      · omega
      · exact weak_of (wk1 rfl (wk1 rfl (wk1 rfl (wk1 rfl (wk1 rfl (wk1 rfl (wk1 rfl (wk1 rfl wk0)))))))) (wh1 (by first | exact mem0 | exact mem1 | exact mem2 | exact mem3 | exact mem4 | exact mem5 | exact mem6 | exact mem7) (wh1 (by rw [Nat.pow_zero, Nat.mul_one, Nat.div_eq_of_lt (UInt64.toNat_lt _), Nat.add_zero]; exact mem1) (wh1 (by first | exact mem0 | exact mem1 | exact mem2 | exact mem3 | exact mem4 | exact mem5 | exact mem6 | exact mem7) wh0))) (by repeat (first | exact ns_nil | refine ns_keep rfl ?_ | refine ns_skip ?_))
      ·
        rintro t hi
        refine Sat.seq ?_
        refine Sat.seq ?_
        -- region 7
        refine Sat.region ?_
        refine Tr.move rfl rfl rfl ?_
        refine Tr.geq rfl rfl rfl rfl rfl ?_
        refine Tr.nil ?_
        refine at_n ?_
        first
          | refine Sat.condP rfl (fun hc1 => ?_) (fun hc1 => ?_)
          | refine Sat.condNP rfl (fun hc1 => ?_) (fun hc1 => ?_)
          | refine Sat.cond rfl (fun hc1 => ?_) (fun hc1 => ?_)
        ·
          have ht : t < 64 := by omega
          have hmL : (wv (xs.take k) * 2 ^ t + (xs.getD k 0).toNat / 2 ^ (64 - t)) % L < L := Nat.mod_lt _ (by decide)
          refine Sat.skip ?_
          refine at_n ?_
          refine Sat.join (ι := Unit) (fun _u => ⟨[(2, ptr n2 0), (3, ptr n3 0), (4, ptr n4 0), (6, u64 (xs.getD k 0)), (7, i64 (63 - (t : Int))), (9, .slice (some ⟨b, o, none⟩) n c), (10, i64 (n : Int)), (11, i64 (k : Int))], [⟨n4, wordsV (words4 L), 72, 4⟩, ⟨n3, wordsV (words4 ((wv (xs.take k) * 2 ^ (t + 1) + (xs.getD k 0).toNat / 2 ^ (64 - (t + 1))) % L)), 72, 4⟩, ⟨n2, bytesV (List.replicate 32 0), 47, 32⟩]⟩) (fun _u => True) ?_ ?_
          ·
            refine Sat.block ?_
            refine Sat.seq ?_
            -- region 9
            refine Sat.draw [(1, 0), (0, 1), (0, 2), (0, 3), (0, 4), (3, 5), (4, 6)] Mixed (by kernel_rfl) ?_
            first
              | refine Tr.loadAll rfl rfl rfl Try.underlying72 rfl Sz72 (by first | exact mem0 | exact mem1 | exact mem2 | exact mem3 | exact mem4 | exact mem5 | exact mem6 | exact mem7) (by simp [modW_length, dblW_length, ldW_length, stB_length, mnsW_length, leb_length, words4_length, hx]) ?_
              | refine Tr.loadN _ rfl rfl rfl Try.underlying72 rfl Sz72 (by first | exact mem0 | exact mem1 | exact mem2 | exact mem3 | exact mem4 | exact mem5 | exact mem6 | exact mem7) (by exact rfl) (by simp [modW_length, dblW_length, ldW_length, stB_length, mnsW_length, leb_length, words4_length, hx]) ?_
            refine Tr.move rfl rfl rfl ?_
            refine Tr.move rfl rfl rfl ?_
            refine Tr.shr_u64 rfl rfl rfl rfl (63 - t) (by omega) (by omega) ?_
            refine Tr.and_u64 rfl rfl rfl (show evIn _ _ = some (u64 1) from rfl) ?_
            refine Tr.callV rfl rfl rfl rfl Body59 (scalar_doubled_n _ _ (by rw [bit_le]; omega)) (fun _ _ => trivial) ?_
            first
              | refine Tr.storeAll rfl rfl rfl rfl (by simp [isCell]) Sz72 (by simp [modW_length, dblW_length, ldW_length, stB_length, mnsW_length, leb_length, words4_length, hx]) (by first | exact mem0 | exact mem1 | exact mem2 | exact mem3 | exact mem4 | exact mem5 | exact mem6 | exact mem7) (by simp [modW_length, dblW_length, ldW_length, stB_length, mnsW_length, leb_length, words4_length, hx]) (by first | exact upd0 | exact upd1 | exact upd2 | exact upd3 | exact upd4 | exact upd5 | exact upd6 | exact upd7) ?_
              | refine Tr.storeN _ rfl rfl rfl rfl rfl (by simp [isCell]) Sz72 (by simp [modW_length, dblW_length, ldW_length, stB_length, mnsW_length, leb_length, words4_length, hx]) (by first | exact mem0 | exact mem1 | exact mem2 | exact mem3 | exact mem4 | exact mem5 | exact mem6 | exact mem7) (by simp [modW_length, dblW_length, ldW_length, stB_length, mnsW_length, leb_length, words4_length, hx]) (by exact rfl) (by first | exact upd0 | exact upd1 | exact upd2 | exact upd3 | exact upd4 | exact upd5 | exact upd6 | exact upd7) ?_
            refine Tr.nil ?_
            refine at_n ?_
            refine Sat.seq ?_
            -- region 10
            refine Sat.region ?_
            first
              | refine Tr.loadAll rfl rfl rfl Try.underlying72 rfl Sz72 (by first | exact mem0 | exact mem1 | exact mem2 | exact mem3 | exact mem4 | exact mem5 | exact mem6 | exact mem7) (by simp [modW_length, dblW_length, ldW_length, stB_length, mnsW_length, leb_length, words4_length, hx]) ?_
              | refine Tr.loadN _ rfl rfl rfl Try.underlying72 rfl Sz72 (by first | exact mem0 | exact mem1 | exact mem2 | exact mem3 | exact mem4 | exact mem5 | exact mem6 | exact mem7) (by exact rfl) (by simp [modW_length, dblW_length, ldW_length, stB_length, mnsW_length, leb_length, words4_length, hx]) ?_
            first
              | refine Tr.loadAll rfl rfl rfl Try.underlying72 rfl Sz72 (by first | exact mem0 | exact mem1 | exact mem2 | exact mem3 | exact mem4 | exact mem5 | exact mem6 | exact mem7) (by simp [modW_length, dblW_length, ldW_length, stB_length, mnsW_length, leb_length, words4_length, hx]) ?_
              | refine Tr.loadN _ rfl rfl rfl Try.underlying72 rfl Sz72 (by first | exact mem0 | exact mem1 | exact mem2 | exact mem3 | exact mem4 | exact mem5 | exact mem6 | exact mem7) (by exact rfl) (by simp [modW_length, dblW_length, ldW_length, stB_length, mnsW_length, leb_length, words4_length, hx]) ?_
            refine Tr.callV rfl rfl rfl rfl Body48 (scalar_below_n _ _ (res_bd _ _ _ hmL) hL) (fun _ _ => trivial) ?_
            refine Tr.not rfl rfl rfl ?_
            refine Tr.nil ?_
            refine at_n ?_
            first
              | refine Sat.condP rfl (fun hc2 => ?_) (fun hc2 => ?_)
              | refine Sat.condNP rfl (fun hc2 => ?_) (fun hc2 => ?_)
              | refine Sat.cond rfl (fun hc2 => ?_) (fun hc2 => ?_)
            ·
              -- region 11
              refine Sat.region ?_
              first
                | refine Tr.loadAll rfl rfl rfl Try.underlying72 rfl Sz72 (by first | exact mem0 | exact mem1 | exact mem2 | exact mem3 | exact mem4 | exact mem5 | exact mem6 | exact mem7) (by simp [modW_length, dblW_length, ldW_length, stB_length, mnsW_length, leb_length, words4_length, hx]) ?_
                | refine Tr.loadN _ rfl rfl rfl Try.underlying72 rfl Sz72 (by first | exact mem0 | exact mem1 | exact mem2 | exact mem3 | exact mem4 | exact mem5 | exact mem6 | exact mem7) (by exact rfl) (by simp [modW_length, dblW_length, ldW_length, stB_length, mnsW_length, leb_length, words4_length, hx]) ?_
              first
                | refine Tr.loadAll rfl rfl rfl Try.underlying72 rfl Sz72 (by first | exact mem0 | exact mem1 | exact mem2 | exact mem3 | exact mem4 | exact mem5 | exact mem6 | exact mem7) (by simp [modW_length, dblW_length, ldW_length, stB_length, mnsW_length, leb_length, words4_length, hx]) ?_
                | refine Tr.loadN _ rfl rfl rfl Try.underlying72 rfl Sz72 (by first | exact mem0 | exact mem1 | exact mem2 | exact mem3 | exact mem4 | exact mem5 | exact mem6 | exact mem7) (by exact rfl) (by simp [modW_length, dblW_length, ldW_length, stB_length, mnsW_length, leb_length, words4_length, hx]) ?_
              refine Tr.callV rfl rfl rfl rfl Body49 (scalar_minus_n _ _ (res_bd _ _ _ hmL) (Nat.le_of_not_lt hc2)) (fun _ _ => trivial) ?_
              first
                | refine Tr.storeAll rfl rfl rfl rfl (by simp [isCell]) Sz72 (by simp [modW_length, dblW_length, ldW_length, stB_length, mnsW_length, leb_length, words4_length, hx]) (by first | exact mem0 | exact mem1 | exact mem2 | exact mem3 | exact mem4 | exact mem5 | exact mem6 | exact mem7) (by simp [modW_length, dblW_length, ldW_length, stB_length, mnsW_length, leb_length, words4_length, hx]) (by first | exact upd0 | exact upd1 | exact upd2 | exact upd3 | exact upd4 | exact upd5 | exact upd6 | exact upd7) ?_
                | refine Tr.storeN _ rfl rfl rfl rfl rfl (by simp [isCell]) Sz72 (by simp [modW_length, dblW_length, ldW_length, stB_length, mnsW_length, leb_length, words4_length, hx]) (by first | exact mem0 | exact mem1 | exact mem2 | exact mem3 | exact mem4 | exact mem5 | exact mem6 | exact mem7) (by simp [modW_length, dblW_length, ldW_length, stB_length, mnsW_length, leb_length, words4_length, hx]) (by exact rfl) (by first | exact upd0 | exact upd1 | exact upd2 | exact upd3 | exact upd4 | exact upd5 | exact upd6 | exact upd7) ?_
              refine Tr.nil ?_
              refine bl_n ?_
              refine at_n ?_
              have hst := res_step (wv (xs.take k)) (xs.getD k 0).toNat t (UInt64.toNat_lt _) ht
              simp only [] at hst
              refine ⟨(), trivial, weak_of (wk1 rfl (wk1 rfl (wk1 rfl (wk1 rfl (wk1 rfl (wk1 rfl (wk1 rfl (wk1 rfl wk0)))))))) (wh1 (by first | exact mem0 | exact mem1 | exact mem2 | exact mem3 | exact mem4 | exact mem5 | exact mem6 | exact mem7) (wh1 (by rw [show 64 - (t + 1) = 63 - t by omega, ← hst, ← bit_le]; simp only [hc2, if_true, if_false]; exact mem1) (wh1 (by first | exact mem0 | exact mem1 | exact mem2 | exact mem3 | exact mem4 | exact mem5 | exact mem6 | exact mem7) wh0))) (by repeat (first | exact ns_nil | refine ns_keep rfl ?_ | refine ns_skip ?_))⟩
            ·
              refine Sat.skip ?_
              refine bl_n ?_
              refine at_n ?_
              have hst := res_step (wv (xs.take k)) (xs.getD k 0).toNat t (UInt64.toNat_lt _) ht
              simp only [] at hst
              refine ⟨(), trivial, weak_of (wk1 rfl (wk1 rfl (wk1 rfl (wk1 rfl (wk1 rfl (wk1 rfl (wk1 rfl (wk1 rfl wk0)))))))) (wh1 (by first | exact mem0 | exact mem1 | exact mem2 | exact mem3 | exact mem4 | exact mem5 | exact mem6 | exact mem7) (wh1 (by rw [show 64 - (t + 1) = 63 - t by omega, ← hst, ← bit_le]; simp only [hc2, if_true, if_false]; exact mem1) (wh1 (by first | exact mem0 | exact mem1 | exact mem2 | exact mem3 | exact mem4 | exact mem5 | exact mem6 | exact mem7) wh0))) (by repeat (first | exact ns_nil | refine ns_keep rfl ?_ | refine ns_skip ?_))⟩
          ·
            intro _u hj
            skip
            -- region 8
            refine Sat.region ?_
            refine Tr.move rfl rfl rfl ?_
            refine Tr.sub_i64 rfl rfl rfl rfl (by omega) ?_
            refine Tr.assign rfl rfl rfl ?_
            refine Tr.nil ?_
            refine at_n ?_
            exact ⟨t + 1, by omega, by omega, weak_of (wk1 rfl (wk1 rfl (wk1 rfl (wk1 rfl (wk1 (by rw [show (63 - ((t + 1 : Nat) : Int)) = 63 - (t : Int) - 1 by omega]; rfl) (wk1 rfl (wk1 rfl (wk1 rfl wk0)))))))) (wh1 (by first | exact mem0 | exact mem1 | exact mem2 | exact mem3 | exact mem4 | exact mem5 | exact mem6 | exact mem7) (wh1 (by first | exact mem0 | exact mem1 | exact mem2 | exact mem3 | exact mem4 | exact mem5 | exact mem6 | exact mem7) (wh1 (by first | exact mem0 | exact mem1 | exact mem2 | exact mem3 | exact mem4 | exact mem5 | exact mem6 | exact mem7) wh0))) (by repeat (first | exact ns_nil | refine ns_keep rfl ?_ | refine ns_skip ?_))⟩
        ·
          obtain rfl : t = 64 := by omega
          refine Sat.exit ?_
          refine at_x ?_
          refine at_x ?_
          refine bl_h ?_
          refine bl_n ?_
          refine at_n ?_
          -- region 12
          refine Sat.region ?_
          refine Tr.add_i64 rfl rfl rfl rfl (by omega) ?_
          refine Tr.move rfl rfl rfl ?_
          refine Tr.nil ?_
          refine at_n ?_
          exact ⟨k + 1, by omega, by omega, weak_of (wk1 rfl (wk1 rfl (wk1 rfl (wk1 rfl (wk1 rfl (wk1 rfl wk0)))))) (wh1 (by first | exact mem0 | exact mem1 | exact mem2 | exact mem3 | exact mem4 | exact mem5 | exact mem6 | exact mem7) (wh1 (by rw [wv_take_succ xs k (by omega), show (64 - 64 : Nat) = 0 from rfl, Nat.pow_zero, Nat.div_one]; exact mem1) (wh1 (by first | exact mem0 | exact mem1 | exact mem2 | exact mem3 | exact mem4 | exact mem5 | exact mem6 | exact mem7) wh0))) (by repeat (first | exact ns_nil | refine ns_keep rfl ?_ | refine ns_skip ?_))⟩
    ·
      obtain rfl : k = n := by omega
      refine Sat.exit ?_
      refine at_x ?_
      refine at_x ?_
      refine bl_h ?_
      refine at_n ?_
      refine Sat.seq ?_
      -- region 13
      refine Sat.region ?_
      first
        | refine Tr.loadAll rfl rfl rfl Try.underlying72 rfl Sz72 (by first | exact mem0 | exact mem1 | exact mem2 | exact mem3 | exact mem4 | exact mem5 | exact mem6 | exact mem7) (by simp [modW_length, dblW_length, ldW_length, stB_length, mnsW_length, leb_length, words4_length, hx]) ?_
        | refine Tr.loadN _ rfl rfl rfl Try.underlying72 rfl Sz72 (by first | exact mem0 | exact mem1 | exact mem2 | exact mem3 | exact mem4 | exact mem5 | exact mem6 | exact mem7) (by exact rfl) (by simp [modW_length, dblW_length, ldW_length, stB_length, mnsW_length, leb_length, words4_length, hx]) ?_
      refine Tr.callV rfl rfl rfl rfl Body45 (scalar_store_n _) (fun _ _ => trivial) ?_
      first
        | refine Tr.storeAll rfl rfl rfl rfl (by simp [isCell]) Sz47 (by simp [modW_length, dblW_length, ldW_length, stB_length, mnsW_length, leb_length, words4_length, hx]) (by first | exact mem0 | exact mem1 | exact mem2 | exact mem3 | exact mem4 | exact mem5 | exact mem6 | exact mem7) (by simp [modW_length, dblW_length, ldW_length, stB_length, mnsW_length, leb_length, words4_length, hx]) (by first | exact upd0 | exact upd1 | exact upd2 | exact upd3 | exact upd4 | exact upd5 | exact upd6 | exact upd7) ?_
        | refine Tr.storeN _ rfl rfl rfl rfl rfl (by simp [isCell]) Sz47 (by simp [modW_length, dblW_length, ldW_length, stB_length, mnsW_length, leb_length, words4_length, hx]) (by first | exact mem0 | exact mem1 | exact mem2 | exact mem3 | exact mem4 | exact mem5 | exact mem6 | exact mem7) (by simp [modW_length, dblW_length, ldW_length, stB_length, mnsW_length, leb_length, words4_length, hx]) (by exact rfl) (by first | exact upd0 | exact upd1 | exact upd2 | exact upd3 | exact upd4 | exact upd5 | exact upd6 | exact upd7) ?_
      refine Tr.nil ?_
      refine at_n ?_
      refine Sat.ret ?_
      refine en_r ?_
      refine ⟨_, [], res_cell rfl rfl Try.underlying47 rfl Sz47 (by first | exact mem0 | exact mem1 | exact mem2 | exact mem3 | exact mem4 | exact mem5 | exact mem6 | exact mem7) (by simp [modW_length, dblW_length, ldW_length, stB_length, mnsW_length, leb_length, words4_length, hx]), (by simp), (by simp), ?_, rfl⟩
      rw [List.take_of_length_le (by omega)]

end Go.Proofs.Ytjeggfgbcafenaa
