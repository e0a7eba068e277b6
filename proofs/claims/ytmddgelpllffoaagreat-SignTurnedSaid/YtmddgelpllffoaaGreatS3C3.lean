/- Contracts of functions of the loaded program, and the lemmas that they need (part 3). It proves no statement by itself; it has no conditions. -/
import Derived.WalkKit
import Derived.Orders
import Derived.Deep.LoopGhost
import Derived.IntWalk
import Derived.Laws.StructEq
import Derived.Test.YtmddgelpllffoaaGreatRows
import Derived.KernelRfl
import Derived.Laws.MathBits
import Derived.ArgAppend
import Derived.Deep.AppendSrc
import Derived.Lib.Bytealg
import Derived.Lib.BytesEntry
import Derived.Laws.IdiomStrings
import Derived.WideKeyArr2
import Derived.ProofKit
import Derived.OpenShut
import Derived.Deep.Slices
import Derived.Laws.Pointers
import Derived.Laws.Cover3
import Derived.LaidEqlPtr
import Derived.LoopN
import Derived.Laws.Externs
import Derived.RangeFuncLeaves
import Derived.RangeFuncSeq
import Derived.OrdersIn
import Derived.ChangeOld
import Derived.Below
import Derived.Test.YtmddgelpllffoaaGreatS3C2
section
namespace Go.Proofs.YtmddgelpllffoaaGreat
open Go Hw
set_option linter.unusedVariables false
set_option linter.unusedSimpArgs false

open Ed

set_option maxRecDepth 100000 in
set_option maxHeartbeats 2000000 in
theorem field_put (q o n c m : Nat) (l : List UInt8) (x : UInt64) (BT : TypeId) (hn : 8 ≤ n) (hl : o + 8 ≤ l.length) : Meets Tryz.prog 114 [.slice (some ⟨q, o, none⟩) n c, u64 x] [q] (fun W => BlkOk W ⟨q, bytesV l, BT, m⟩) (fun v out => out = [⟨q, bytesV (set8 l o x), BT, m⟩]) := by
  intro W hW
  refine calls_of (hp0 := [⟨q, bytesV l, BT, m⟩]) Tryz.func114 rfl 46 Tryz.ntmps114 rfl (HRep.one hW) ?_
  refine Sat.seq ?_
  refine Sat.region ?_
  refine Tr.move rfl rfl rfl ?_
  refine Tr.idxSlO rfl rfl rfl rfl Tryz.underlying23 Sz5 7 rfl oM ?_
  refine Tr.load1 rfl rfl rfl Tryz.underlying5 rfl (by exact mem0) (get_bytes oM) ?_
  refine Tr.nil ?_
  refine at_n ?_
  refine Sat.seq ?_
  refine Sat.region ?_
  refine Tr.move rfl rfl rfl ?_
  refine Tr.move rfl rfl rfl ?_
  refine Tr.move rfl rfl rfl ?_
  refine Tr.move rfl rfl rfl ?_
  refine Tr.move rfl rfl rfl ?_
  refine Tr.conv rfl rfl rfl Tryz.underlying71 Tryz.underlying5 (cv_u64_u8 _) ?_
  refine Tr.move rfl rfl rfl ?_
  refine Tr.shr_u64 rfl rfl rfl rfl 8 rfl dE ?_
  refine Tr.conv rfl rfl rfl Tryz.underlying71 Tryz.underlying5 (cv_u64_u8 _) ?_
  refine Tr.move rfl rfl rfl ?_
  refine Tr.shr_u64 rfl rfl rfl rfl 16 rfl dE ?_
  refine Tr.conv rfl rfl rfl Tryz.underlying71 Tryz.underlying5 (cv_u64_u8 _) ?_
  refine Tr.move rfl rfl rfl ?_
  refine Tr.shr_u64 rfl rfl rfl rfl 24 rfl dE ?_
  refine Tr.conv rfl rfl rfl Tryz.underlying71 Tryz.underlying5 (cv_u64_u8 _) ?_
  refine Tr.idxSlO rfl rfl rfl rfl Tryz.underlying23 Sz5 0 rfl oM ?_
  refine Tr.store1 rfl rfl rfl rfl rfl Sz5 (by exact mem0) (by simp; omega) (set_bytes _ _ _) (by exact upd0) ?_
  refine Tr.idxSlO rfl rfl rfl rfl Tryz.underlying23 Sz5 1 rfl oM ?_
  refine Tr.store1 rfl rfl rfl rfl rfl Sz5 (by exact mem0) (by simp; omega) (set_bytes _ _ _) (by exact upd0) ?_
  refine Tr.idxSlO rfl rfl rfl rfl Tryz.underlying23 Sz5 2 rfl oM ?_
  refine Tr.store1 rfl rfl rfl rfl rfl Sz5 (by exact mem0) (by simp; omega) (set_bytes _ _ _) (by exact upd0) ?_
  refine Tr.idxSlO rfl rfl rfl rfl Tryz.underlying23 Sz5 3 rfl oM ?_
  refine Tr.store1 rfl rfl rfl rfl rfl Sz5 (by exact mem0) (by simp; omega) (set_bytes _ _ _) (by exact upd0) ?_
  refine Tr.nil ?_
  refine at_n ?_
  refine Sat.region ?_
  refine Tr.move rfl rfl rfl ?_
  refine Tr.move rfl rfl rfl ?_
  refine Tr.move rfl rfl rfl ?_
  refine Tr.move rfl rfl rfl ?_
  refine Tr.move rfl rfl rfl ?_
  refine Tr.shr_u64 rfl rfl rfl rfl 32 rfl dE ?_
  refine Tr.conv rfl rfl rfl Tryz.underlying71 Tryz.underlying5 (cv_u64_u8 _) ?_
  refine Tr.move rfl rfl rfl ?_
  refine Tr.shr_u64 rfl rfl rfl rfl 40 rfl dE ?_
  refine Tr.conv rfl rfl rfl Tryz.underlying71 Tryz.underlying5 (cv_u64_u8 _) ?_
  refine Tr.move rfl rfl rfl ?_
  refine Tr.shr_u64 rfl rfl rfl rfl 48 rfl dE ?_
  refine Tr.conv rfl rfl rfl Tryz.underlying71 Tryz.underlying5 (cv_u64_u8 _) ?_
  refine Tr.move rfl rfl rfl ?_
  refine Tr.shr_u64 rfl rfl rfl rfl 56 rfl dE ?_
  refine Tr.conv rfl rfl rfl Tryz.underlying71 Tryz.underlying5 (cv_u64_u8 _) ?_
  refine Tr.idxSlO rfl rfl rfl rfl Tryz.underlying23 Sz5 4 rfl oM ?_
  refine Tr.store1 rfl rfl rfl rfl rfl Sz5 (by exact mem0) (by simp; omega) (set_bytes _ _ _) (by exact upd0) ?_
  refine Tr.idxSlO rfl rfl rfl rfl Tryz.underlying23 Sz5 5 rfl oM ?_
  refine Tr.store1 rfl rfl rfl rfl rfl Sz5 (by exact mem0) (by simp; omega) (set_bytes _ _ _) (by exact upd0) ?_
  refine Tr.idxSlO rfl rfl rfl rfl Tryz.underlying23 Sz5 6 rfl oM ?_
  refine Tr.store1 rfl rfl rfl rfl rfl Sz5 (by exact mem0) (by simp; omega) (set_bytes _ _ _) (by exact upd0) ?_
  refine Tr.idxSlO rfl rfl rfl rfl Tryz.underlying23 Sz5 7 rfl oM ?_
  refine Tr.store1 rfl rfl rfl rfl rfl Sz5 (by exact mem0) (by simp; omega) (set_bytes _ _ _) (by exact upd0) ?_
  refine Tr.nil ?_
  refine en_n ?_
  exact ⟨_, _, res_none rfl, (fun b hb => by rw [List.mem_singleton.1 hb]; exact mem0), nodup1, rfl⟩

set_option maxRecDepth 100000 in
set_option maxHeartbeats 2000000 in
theorem field_quarters (a : List UInt8) (ha : a.length = 32) : Meets Tryz.prog 131 [agg (bytesV a)] [] (fun _ => True) (fun v out => v = agg (wordsV [qw a 0, qw a 1, qw a 2, qw a 3]) ∧ out = []) := by
  intro W hW
  refine calls_of (hp0 := []) Tryz.func131 rfl 65 Tryz.ntmps131 rfl (HRep.nil _) ?_
  refine Sat.seq ?_
  refine Sat.region ?_
  refine Tr.boxA rfl rfl ?_
  intro n1 hn1 hf1
  refine Tr.alloc (cs := (wordsV (List.replicate 4 0))) rfl Zr92 rfl ?_
  intro n2 hn2 hf2
  refine Tr.nil ?_
  refine at_n ?_
  refine Sat.seq ?_
  refine Sat.region ?_
  refine Tr.alloc (cs := (wordsV (List.replicate 4 0))) rfl Zr92 rfl ?_
  intro n3 hn3 hf3
  refine Tr.nil ?_
  refine at_n ?_
  refine Sat.seq ?_
  refine Sat.seq ?_
  refine Sat.region ?_
  refine Tr.move rfl rfl rfl ?_
  refine Tr.nil ?_
  refine at_n ?_
  refine Sat.block ?_
  refine Sat.loop (ι := Nat) (fun k => ⟨[(1, ptr n1 0), (2, ptr n2 0), (3, ptr n3 0), (6, i64 (k : Int))], [⟨n3, wordsV (qtA a k), 92, 4⟩, ⟨n2, wordsV (List.replicate 4 0), 92, 4⟩, ⟨n1, bytesV a, 32, (bytesV a).length⟩]⟩) (fun k => k ≤ 4) (fun k => 4 - k) (0) ?_ ?_ ?_
  · omega
  · exact weak_of (wk1 rfl (wk1 rfl (wk1 rfl (wk1 rfl wk0)))) (wh1 (by exact mem0) (wh1 (by exact mem1) (wh1 (by exact mem2) wh0))) (by repeat (first | exact ns_nil | refine ns_keep rfl ?_))
  ·
    rintro k hi
    have hlk := qtA_length a k
    refine Sat.seq ?_
    refine Sat.region ?_
    refine Tr.lss rfl rfl rfl rfl rfl ?_
    refine Tr.nil ?_
    refine at_n ?_
    refine Sat.seq ?_
    refine Sat.condP rfl (fun hc0 => ?_) (fun hc0 => ?_)
    ·
      refine Sat.skip ?_
      refine at_n ?_
      refine Sat.seq ?_
      refine Sat.block ?_
      refine Sat.seq ?_
      refine Sat.region ?_
      refine Tr.move rfl rfl rfl ?_
      refine Tr.assign rfl rfl rfl ?_
      refine Tr.nil ?_
      refine at_n ?_
      refine Sat.seq ?_
      refine Sat.region ?_
      refine Tr.move rfl rfl rfl ?_
      refine Tr.mul_i64 rfl rfl rfl rfl oM ?_
      refine Tr.move rfl rfl rfl ?_
      refine Tr.mul_i64 rfl rfl rfl rfl oM ?_
      refine Tr.add_i64 rfl rfl rfl rfl oM ?_
      refine Tr.sliceArrLH (8 * k) (8 * k + 8) rfl rfl rfl rfl rfl oM oM oM oM oM Tryz.underlying32 Sz5 ?_
      refine Tr.assign rfl rfl rfl ?_
      refine Tr.nil ?_
      refine at_n ?_
      refine Sat.draw [(0, 0), (0, 1), (0, 2), (1, 3), (0, 4), (0, 5), (0, 6), (1, 7), (0, 8), (0, 9), (0, 10), (0, 11), (0, 12), (1, 13), (0, 14), (0, 15), (0, 16), (0, 17), (0, 18), (1, 19), (0, 20), (0, 21), (0, 22), (0, 23), (0, 24), (1, 25), (0, 26), (0, 27), (0, 28), (0, 29), (0, 30), (1, 31), (0, 32), (0, 33), (0, 34), (0, 35), (0, 36), (1, 37), (0, 38), (0, 39), (0, 40), (0, 41), (0, 42), (1, 43), (0, 44), (0, 45), (0, 46), (0, 47), (4, 48)] Mixed (by kernel_rfl) ?_
      refine Tr.move rfl rfl rfl ?_
      refine Tr.move rfl rfl rfl ?_
      refine Tr.idxSlO rfl rfl rfl rfl Tryz.underlying23 Sz5 0 rfl oM ?_
      refine Tr.load1 rfl rfl rfl Tryz.underlying5 rfl (by exact mem2) (by exact get_bytes oM) ?_
      refine Tr.conv rfl rfl rfl Tryz.underlying5 Tryz.underlying71 (cv_u8_u64 _) ?_
      refine Tr.move rfl rfl rfl ?_
      refine Tr.idxSlO rfl rfl rfl rfl Tryz.underlying23 Sz5 1 rfl oM ?_
      refine Tr.load1 rfl rfl rfl Tryz.underlying5 rfl (by exact mem2) (by exact get_bytes oM) ?_
      refine Tr.conv rfl rfl rfl Tryz.underlying5 Tryz.underlying71 (cv_u8_u64 _) ?_
      refine Tr.shl_u64 rfl rfl rfl rfl 8 rfl dE ?_
      refine Tr.or_u64 rfl rfl rfl rfl ?_
      refine Tr.move rfl rfl rfl ?_
      refine Tr.idxSlO rfl rfl rfl rfl Tryz.underlying23 Sz5 2 rfl oM ?_
      refine Tr.load1 rfl rfl rfl Tryz.underlying5 rfl (by exact mem2) (by exact get_bytes oM) ?_
      refine Tr.conv rfl rfl rfl Tryz.underlying5 Tryz.underlying71 (cv_u8_u64 _) ?_
      refine Tr.shl_u64 rfl rfl rfl rfl 16 rfl dE ?_
      refine Tr.or_u64 rfl rfl rfl rfl ?_
      refine Tr.move rfl rfl rfl ?_
      refine Tr.idxSlO rfl rfl rfl rfl Tryz.underlying23 Sz5 3 rfl oM ?_
      refine Tr.load1 rfl rfl rfl Tryz.underlying5 rfl (by exact mem2) (by exact get_bytes oM) ?_
      refine Tr.conv rfl rfl rfl Tryz.underlying5 Tryz.underlying71 (cv_u8_u64 _) ?_
      refine Tr.shl_u64 rfl rfl rfl rfl 24 rfl dE ?_
      refine Tr.or_u64 rfl rfl rfl rfl ?_
      refine Tr.move rfl rfl rfl ?_
      refine Tr.idxSlO rfl rfl rfl rfl Tryz.underlying23 Sz5 4 rfl oM ?_
      refine Tr.load1 rfl rfl rfl Tryz.underlying5 rfl (by exact mem2) (by exact get_bytes oM) ?_
      refine Tr.conv rfl rfl rfl Tryz.underlying5 Tryz.underlying71 (cv_u8_u64 _) ?_
      refine Tr.shl_u64 rfl rfl rfl rfl 32 rfl dE ?_
      refine Tr.or_u64 rfl rfl rfl rfl ?_
      refine Tr.move rfl rfl rfl ?_
      refine Tr.idxSlO rfl rfl rfl rfl Tryz.underlying23 Sz5 5 rfl oM ?_
      refine Tr.load1 rfl rfl rfl Tryz.underlying5 rfl (by exact mem2) (by exact get_bytes oM) ?_
      refine Tr.conv rfl rfl rfl Tryz.underlying5 Tryz.underlying71 (cv_u8_u64 _) ?_
      refine Tr.shl_u64 rfl rfl rfl rfl 40 rfl dE ?_
      refine Tr.or_u64 rfl rfl rfl rfl ?_
      refine Tr.move rfl rfl rfl ?_
      refine Tr.idxSlO rfl rfl rfl rfl Tryz.underlying23 Sz5 6 rfl oM ?_
      refine Tr.load1 rfl rfl rfl Tryz.underlying5 rfl (by exact mem2) (by exact get_bytes oM) ?_
      refine Tr.conv rfl rfl rfl Tryz.underlying5 Tryz.underlying71 (cv_u8_u64 _) ?_
      refine Tr.shl_u64 rfl rfl rfl rfl 48 rfl dE ?_
      refine Tr.or_u64 rfl rfl rfl rfl ?_
      refine Tr.move rfl rfl rfl ?_
      refine Tr.idxSlO rfl rfl rfl rfl Tryz.underlying23 Sz5 7 rfl oM ?_
      refine Tr.load1 rfl rfl rfl Tryz.underlying5 rfl (by exact mem2) (by exact get_bytes oM) ?_
      refine Tr.conv rfl rfl rfl Tryz.underlying5 Tryz.underlying71 (cv_u8_u64 _) ?_
      refine Tr.shl_u64 rfl rfl rfl rfl 56 rfl dE ?_
      refine Tr.or_u64 rfl rfl rfl rfl ?_
      refine Tr.idxArr1 rfl rfl rfl rfl Tryz.underlying92 Sz71 _ rfl oM ?_
      refine Tr.store1 rfl rfl rfl rfl rfl Sz71 (by exact mem0) (by (simp [qtA_length]; omega)) (by exact set_words _ _ _) (by exact upd0) ?_
      refine Tr.nil ?_
      refine bl_n ?_
      refine at_n ?_
      refine Sat.region ?_
      refine Tr.add_i64 rfl rfl rfl rfl oM ?_
      refine Tr.move rfl rfl rfl ?_
      refine Tr.nil ?_
      refine at_n ?_
      exact ⟨k + 1, by omega, by omega, weak_of (wk1 rfl (wk1 rfl (wk1 rfl (wk1 rfl wk0)))) (wh1 (by exact mem0) (wh1 (by exact mem1) (wh1 (by exact mem2) wh0))) (by repeat (first | exact ns_nil | refine ns_keep rfl ?_))⟩
    ·
      obtain rfl : k = 4 := by omega
      refine Sat.exit ?_
      refine at_x ?_
      refine at_x ?_
      refine bl_h ?_
      refine at_n ?_
      refine Sat.seq ?_
      refine Sat.region ?_
      refine Tr.loadAll rfl rfl rfl Tryz.underlying92 rfl Sz92 (by exact mem0) (by (simp [qtA_length]; done)) ?_
      refine Tr.storeAll rfl rfl rfl rfl (by simp [isCell]) Sz92 (by (simp [qtA_length]; done)) (by exact mem1) (by (simp; done)) (by exact upd1) ?_
      refine Tr.nil ?_
      refine at_n ?_
      refine Sat.ret ?_
      refine en_r ?_
      refine ⟨_, [], res_cell rfl rfl Tryz.underlying92 rfl Sz92 (by exact mem1) (by simp [qtA_length]), sP, sP, ?_, rfl⟩
      rfl

set_option maxRecDepth 100000 in
set_option maxHeartbeats 1000000 in
theorem field_load (a : List UInt8) (ha : a.length = 32) : Meets Tryz.prog 111 [agg (bytesV a)] [] (fun _ => True) (fun v out => v = agg (wordsV (ldN a).l) ∧ out = []) := by
  intro W hW
  refine calls_of (hp0 := []) Tryz.func111 rfl 37 Tryz.ntmps111 rfl (HRep.nil _) ?_
  refine Sat.seq ?_
  refine Sat.region ?_
  refine Tr.boxA rfl rfl ?_
  intro n1 hn1 hf1
  refine Tr.alloc (cs := (wordsV (List.replicate 5 0))) rfl Zr120 rfl ?_
  intro n2 hn2 hf2
  refine Tr.nil ?_
  refine at_n ?_
  refine Sat.seq ?_
  refine Sat.region ?_
  refine Tr.loadAll rfl rfl rfl Tryz.underlying32 rfl Sz32 (by exact mem1) (by (simp [ha]; done)) ?_
  refine Tr.callV rfl rfl rfl rfl Body131 (field_quarters a ha) (fun _ _ => trivial) ?_
  refine Tr.alloc (cs := (wordsV (List.replicate 4 0))) rfl Zr92 rfl ?_
  intro n3 hn3 hf3
  refine Tr.storeAll rfl rfl rfl rfl (by simp [isCell]) Sz92 (by (simp; done)) (by exact mem0) (by (simp; done)) (by exact upd0) ?_
  refine Tr.nil ?_
  refine at_n ?_
  refine Sat.seq ?_
  refine Sat.region ?_
  refine Tr.idxArr1 rfl rfl rfl rfl Tryz.underlying92 Sz71 0 rfl dE ?_
  refine Tr.load1 rfl rfl rfl Tryz.underlying71 rfl (by exact mem0) (by rfl) ?_
  refine Tr.and_u64 rfl rfl rfl (show evIn _ _ = some (u64 2251799813685247) from rfl) ?_
  refine Tr.idxArr1 rfl rfl rfl rfl Tryz.underlying92 Sz71 0 rfl dE ?_
  refine Tr.load1 rfl rfl rfl Tryz.underlying71 rfl (by exact mem0) (by rfl) ?_
  refine Tr.shr_u64 rfl rfl rfl rfl 51 rfl dE ?_
  refine Tr.idxArr1 rfl rfl rfl rfl Tryz.underlying92 Sz71 1 rfl dE ?_
  refine Tr.load1 rfl rfl rfl Tryz.underlying71 rfl (by exact mem0) (by rfl) ?_
  refine Tr.shl_u64 rfl rfl rfl rfl 13 rfl dE ?_
  refine Tr.or_u64 rfl rfl rfl rfl ?_
  refine Tr.and_u64 rfl rfl rfl (show evIn _ _ = some (u64 2251799813685247) from rfl) ?_
  refine Tr.idxArr1 rfl rfl rfl rfl Tryz.underlying92 Sz71 1 rfl dE ?_
  refine Tr.load1 rfl rfl rfl Tryz.underlying71 rfl (by exact mem0) (by rfl) ?_
  refine Tr.shr_u64 rfl rfl rfl rfl 38 rfl dE ?_
  refine Tr.idxArr1 rfl rfl rfl rfl Tryz.underlying92 Sz71 2 rfl dE ?_
  refine Tr.load1 rfl rfl rfl Tryz.underlying71 rfl (by exact mem0) (by rfl) ?_
  refine Tr.shl_u64 rfl rfl rfl rfl 26 rfl dE ?_
  refine Tr.or_u64 rfl rfl rfl rfl ?_
  refine Tr.and_u64 rfl rfl rfl (show evIn _ _ = some (u64 2251799813685247) from rfl) ?_
  refine Tr.idxArr1 rfl rfl rfl rfl Tryz.underlying92 Sz71 2 rfl dE ?_
  refine Tr.load1 rfl rfl rfl Tryz.underlying71 rfl (by exact mem0) (by rfl) ?_
  refine Tr.shr_u64 rfl rfl rfl rfl 25 rfl dE ?_
  refine Tr.idxArr1 rfl rfl rfl rfl Tryz.underlying92 Sz71 3 rfl dE ?_
  refine Tr.load1 rfl rfl rfl Tryz.underlying71 rfl (by exact mem0) (by rfl) ?_
  refine Tr.shl_u64 rfl rfl rfl rfl 39 rfl dE ?_
  refine Tr.or_u64 rfl rfl rfl rfl ?_
  refine Tr.and_u64 rfl rfl rfl (show evIn _ _ = some (u64 2251799813685247) from rfl) ?_
  refine Tr.idxArr1 rfl rfl rfl rfl Tryz.underlying92 Sz71 3 rfl dE ?_
  refine Tr.load1 rfl rfl rfl Tryz.underlying71 rfl (by exact mem0) (by rfl) ?_
  refine Tr.shr_u64 rfl rfl rfl rfl 12 rfl dE ?_
  refine Tr.build (cs := wordsV (ldN a).l) rfl rfl rfl (fun w => by kernel_rfl) ?_
  refine Tr.storeAll rfl rfl rfl rfl (by simp [isCell]) Sz120 (by (simp [W5.l_length]; done)) (by exact mem1) (by (simp; done)) (by exact upd1) ?_
  refine Tr.nil ?_
  refine at_n ?_
  refine Sat.ret ?_
  refine en_r ?_
  refine ⟨_, [], res_cell rfl rfl Tryz.underlying120 rfl Sz120 (by exact mem1) (by simp [W5.l_length]), sP, sP, ?_, rfl⟩
  rfl

set_option maxRecDepth 100000 in
set_option maxHeartbeats 1000000 in
theorem field_carried (w : W5) : Meets Tryz.prog 134 [agg (wordsV w.l)] [] (fun _ => True) (fun v out => v = agg (wordsV (carF w).l) ∧ out = []) := by
  intro W hW
  refine calls_of (hp0 := []) Tryz.func134 rfl 40 Tryz.ntmps134 rfl (HRep.nil _) ?_
  refine Sat.seq ?_
  refine Sat.region ?_
  refine Tr.boxA rfl rfl ?_
  intro n1 hn1 hf1
  refine Tr.alloc (cs := (wordsV (List.replicate 5 0))) rfl Zr120 rfl ?_
  intro n2 hn2 hf2
  refine Tr.nil ?_
  refine at_n ?_
  refine Sat.seq ?_
  refine Sat.region ?_
  refine Tr.idxArr1 rfl rfl rfl rfl Tryz.underlying120 Sz71 0 rfl dE ?_
  refine Tr.load1 rfl rfl rfl Tryz.underlying71 rfl (by exact mem1) (by rfl) ?_
  refine Tr.and_u64 rfl rfl rfl (show evIn _ _ = some (u64 2251799813685247) from rfl) ?_
  refine Tr.idxArr1 rfl rfl rfl rfl Tryz.underlying120 Sz71 4 rfl dE ?_
  refine Tr.load1 rfl rfl rfl Tryz.underlying71 rfl (by exact mem1) (by rfl) ?_
  refine Tr.shr_u64 rfl rfl rfl rfl 51 rfl dE ?_
  refine Tr.mul_u64 rfl rfl (show evIn _ _ = some (u64 19) from rfl) rfl ?_
  refine Tr.add_u64 rfl rfl rfl rfl ?_
  refine Tr.idxArr1 rfl rfl rfl rfl Tryz.underlying120 Sz71 1 rfl dE ?_
  refine Tr.load1 rfl rfl rfl Tryz.underlying71 rfl (by exact mem1) (by rfl) ?_
  refine Tr.and_u64 rfl rfl rfl (show evIn _ _ = some (u64 2251799813685247) from rfl) ?_
  refine Tr.idxArr1 rfl rfl rfl rfl Tryz.underlying120 Sz71 0 rfl dE ?_
  refine Tr.load1 rfl rfl rfl Tryz.underlying71 rfl (by exact mem1) (by rfl) ?_
  refine Tr.shr_u64 rfl rfl rfl rfl 51 rfl dE ?_
  refine Tr.add_u64 rfl rfl rfl rfl ?_
  refine Tr.idxArr1 rfl rfl rfl rfl Tryz.underlying120 Sz71 2 rfl dE ?_
  refine Tr.load1 rfl rfl rfl Tryz.underlying71 rfl (by exact mem1) (by rfl) ?_
  refine Tr.and_u64 rfl rfl rfl (show evIn _ _ = some (u64 2251799813685247) from rfl) ?_
  refine Tr.idxArr1 rfl rfl rfl rfl Tryz.underlying120 Sz71 1 rfl dE ?_
  refine Tr.load1 rfl rfl rfl Tryz.underlying71 rfl (by exact mem1) (by rfl) ?_
  refine Tr.shr_u64 rfl rfl rfl rfl 51 rfl dE ?_
  refine Tr.add_u64 rfl rfl rfl rfl ?_
  refine Tr.idxArr1 rfl rfl rfl rfl Tryz.underlying120 Sz71 3 rfl dE ?_
  refine Tr.load1 rfl rfl rfl Tryz.underlying71 rfl (by exact mem1) (by rfl) ?_
  refine Tr.and_u64 rfl rfl rfl (show evIn _ _ = some (u64 2251799813685247) from rfl) ?_
  refine Tr.idxArr1 rfl rfl rfl rfl Tryz.underlying120 Sz71 2 rfl dE ?_
  refine Tr.load1 rfl rfl rfl Tryz.underlying71 rfl (by exact mem1) (by rfl) ?_
  refine Tr.shr_u64 rfl rfl rfl rfl 51 rfl dE ?_
  refine Tr.add_u64 rfl rfl rfl rfl ?_
  refine Tr.idxArr1 rfl rfl rfl rfl Tryz.underlying120 Sz71 4 rfl dE ?_
  refine Tr.load1 rfl rfl rfl Tryz.underlying71 rfl (by exact mem1) (by rfl) ?_
  refine Tr.and_u64 rfl rfl rfl (show evIn _ _ = some (u64 2251799813685247) from rfl) ?_
  refine Tr.idxArr1 rfl rfl rfl rfl Tryz.underlying120 Sz71 3 rfl dE ?_
  refine Tr.load1 rfl rfl rfl Tryz.underlying71 rfl (by exact mem1) (by rfl) ?_
  refine Tr.shr_u64 rfl rfl rfl rfl 51 rfl dE ?_
  refine Tr.add_u64 rfl rfl rfl rfl ?_
  refine Tr.build (cs := wordsV (carF w).l) rfl rfl rfl (fun w => by kernel_rfl) ?_
  refine Tr.storeAll rfl rfl rfl rfl (by simp [isCell]) Sz120 (by (simp [W5.l_length]; done)) (by exact mem0) (by (simp; done)) (by exact upd0) ?_
  refine Tr.nil ?_
  refine at_n ?_
  refine Sat.ret ?_
  refine en_r ?_
  refine ⟨_, [], res_cell rfl rfl Tryz.underlying120 rfl Sz120 (by exact mem0) (by simp [W5.l_length]), sP, sP, ?_, rfl⟩
  rfl

set_option maxRecDepth 100000 in
set_option maxHeartbeats 1000000 in
theorem wide_plus (s : UInt64 × UInt64) (a b : UInt64) : Meets Tryz.prog 132 [agg [u64 s.1, u64 s.2], u64 a, u64 b] [] (fun _ => True) (fun v out => v = agg [u64 (plF s a b).1, u64 (plF s a b).2] ∧ out = []) := by
  intro W hW
  refine calls_of (hp0 := []) Tryz.func132 rfl 34 Tryz.ntmps132 rfl (HRep.nil _) ?_
  refine Sat.seq ?_
  refine Sat.region ?_
  refine Tr.boxA rfl rfl ?_
  intro n3 hn3 hf3
  refine Tr.alloc (cs := ([u64 0] ++ [u64 0])) rfl Zr137 rfl ?_
  intro n6 hn6 hf6
  refine Tr.nil ?_
  refine at_n ?_
  refine Sat.seq ?_
  refine Sat.region ?_
  refine Tr.move rfl rfl rfl ?_
  refine Tr.move rfl rfl rfl ?_
  refine Tr.callV rfl rfl rfl rfl Body99 (mul64_ok _ _) (fun _ _ => trivial) ?_
  refine Tr.move rfl rfl rfl ?_
  refine Tr.extract rfl rfl rfl rfl ?_
  refine Tr.extract rfl rfl rfl rfl ?_
  refine Tr.assign rfl rfl rfl ?_
  refine Tr.assign rfl rfl rfl ?_
  refine Tr.nil ?_
  refine at_n ?_
  refine Sat.seq ?_
  refine Sat.region ?_
  refine Tr.fld rfl rfl rfl Tryz.underlying137 rfl Sz71 dE _ rfl ?_
  refine Tr.load1 rfl rfl rfl Tryz.underlying71 rfl (by exact mem1) (by rfl) ?_
  refine Tr.move rfl rfl rfl ?_
  refine Tr.ext rfl rfl rfl rfl (add64_run _ _ 0 dE) ?_
  refine Tr.move rfl rfl rfl ?_
  refine Tr.extract rfl rfl rfl rfl ?_
  refine Tr.extract rfl rfl rfl rfl ?_
  refine Tr.assign rfl rfl rfl ?_
  refine Tr.assign rfl rfl rfl ?_
  refine Tr.nil ?_
  refine at_n ?_
  refine Sat.seq ?_
  refine Sat.region ?_
  refine Tr.fld rfl rfl rfl Tryz.underlying137 rfl Sz71 dE _ rfl ?_
  refine Tr.load1 rfl rfl rfl Tryz.underlying71 rfl (by exact mem1) (by rfl) ?_
  refine Tr.move rfl rfl rfl ?_
  refine Tr.move rfl rfl rfl ?_
  refine Tr.ext rfl rfl rfl rfl (add64_run _ _ _ (by rw [w64_toNat]; have := s.2.toNat_lt; have := (a * b).toNat_lt; simp only [show (0 : UInt64).toNat = 0 from rfl]; omega)) ?_
  refine Tr.move rfl rfl rfl ?_
  refine Tr.extract rfl rfl rfl rfl ?_
  refine Tr.extract rfl rfl rfl rfl ?_
  refine Tr.assign rfl rfl rfl ?_
  refine Tr.nil ?_
  refine at_n ?_
  refine Sat.seq ?_
  refine Sat.region ?_
  refine Tr.move rfl rfl rfl ?_
  refine Tr.move rfl rfl rfl ?_
  refine Tr.build (cs := [u64 (plF s a b).1, u64 (plF s a b).2]) rfl rfl rfl (fun w => by kernel_rfl) ?_
  refine Tr.storeAll rfl rfl rfl rfl (by simp [isCell]) Sz137 (by (simp; done)) (by exact mem0) (by (simp; done)) (by exact upd0) ?_
  refine Tr.nil ?_
  refine at_n ?_
  refine Sat.ret ?_
  refine en_r ?_
  refine ⟨_, [], res_cell rfl rfl Tryz.underlying137 rfl Sz137 (by exact mem0) sP, sP, sP, ?_, rfl⟩
  rfl

set_option maxRecDepth 100000 in
set_option maxHeartbeats 1000000 in
theorem wide_upper (s : UInt64 × UInt64) : Meets Tryz.prog 133 [agg [u64 s.1, u64 s.2]] [] (fun _ => True) (fun v out => v = u64 (upF s) ∧ out = []) := by
  intro W hW
  refine calls_of (hp0 := []) Tryz.func133 rfl 10 Tryz.ntmps133 rfl (HRep.nil _) ?_
  refine Sat.seq ?_
  refine Sat.region ?_
  refine Tr.boxA rfl rfl ?_
  intro n1 hn1 hf1
  refine Tr.assign rfl rfl (show evIn _ _ = some (u64 0) from rfl) ?_
  refine Tr.nil ?_
  refine at_n ?_
  refine Sat.seq ?_
  refine Sat.region ?_
  refine Tr.fld rfl rfl rfl Tryz.underlying137 rfl Sz71 dE _ rfl ?_
  refine Tr.load1 rfl rfl rfl Tryz.underlying71 rfl (by exact mem0) (by rfl) ?_
  refine Tr.shl_u64 rfl rfl rfl rfl 13 rfl dE ?_
  refine Tr.fld rfl rfl rfl Tryz.underlying137 rfl Sz71 dE _ rfl ?_
  refine Tr.load1 rfl rfl rfl Tryz.underlying71 rfl (by exact mem0) (by rfl) ?_
  refine Tr.shr_u64 rfl rfl rfl rfl 51 rfl dE ?_
  refine Tr.or_u64 rfl rfl rfl rfl ?_
  refine Tr.assign rfl rfl rfl ?_
  refine Tr.nil ?_
  refine at_n ?_
  refine Sat.ret ?_
  refine en_r ?_
  refine ⟨_, [], res_tmp rfl rfl, sP, sP, ?_, rfl⟩
  rfl

set_option maxRecDepth 100000 in
set_option maxHeartbeats 8000000 in
theorem field_product (na nb : Nat) (a b : W5) : Meets Tryz.prog 112 [ptr na 0, ptr nb 0] [] (fun W => Sees W na 0 (wordsV a.l) ∧ Sees W nb 0 (wordsV b.l)) (fun v out => v = agg (wordsV (mulF a b).l) ∧ out = []) := by
  intro W hW
  refine calls_of (hp0 := []) Tryz.func112 rfl 267 Tryz.ntmps112 rfl (HRep.nil _) ?_
  refine Sat.seq ?_
  refine Sat.region ?_
  refine Tr.alloc (cs := (wordsV (List.replicate 5 0))) rfl Zr120 rfl ?_
  intro n4 hn4 hf4
  refine Tr.nil ?_
  refine at_n ?_
  refine Sat.seq ?_
  refine Sat.draw [(0, 0), (0, 1), (0, 2), (1, 3), (0, 4), (0, 5), (0, 6), (0, 7), (1, 8), (0, 9), (0, 10), (0, 11), (0, 12), (1, 13), (0, 14), (0, 15), (0, 16), (0, 17), (1, 18), (0, 19), (0, 20), (0, 21), (0, 22), (0, 23)] Mixed (by kernel_rfl) ?_
  refine Tr.move rfl rfl rfl ?_
  refine Tr.nilChk rfl rfl rfl ?_
  refine Tr.idxArr1 rfl rfl rfl rfl Tryz.underlying120 Sz71 1 rfl dE ?_
  refine Tr.loadE rfl rfl rfl Tryz.underlying71 rfl (by (simp; done)) (hW.1 1 _ rfl) ?_
  refine Tr.mul_u64 rfl rfl (show evIn _ _ = some (u64 19) from rfl) rfl ?_
  refine Tr.move rfl rfl rfl ?_
  refine Tr.nilChk rfl rfl rfl ?_
  refine Tr.idxArr1 rfl rfl rfl rfl Tryz.underlying120 Sz71 2 rfl dE ?_
  refine Tr.loadE rfl rfl rfl Tryz.underlying71 rfl (by (simp; done)) (hW.1 2 _ rfl) ?_
  refine Tr.mul_u64 rfl rfl (show evIn _ _ = some (u64 19) from rfl) rfl ?_
  refine Tr.move rfl rfl rfl ?_
  refine Tr.nilChk rfl rfl rfl ?_
  refine Tr.idxArr1 rfl rfl rfl rfl Tryz.underlying120 Sz71 3 rfl dE ?_
  refine Tr.loadE rfl rfl rfl Tryz.underlying71 rfl (by (simp; done)) (hW.1 3 _ rfl) ?_
  refine Tr.mul_u64 rfl rfl (show evIn _ _ = some (u64 19) from rfl) rfl ?_
  refine Tr.move rfl rfl rfl ?_
  refine Tr.nilChk rfl rfl rfl ?_
  refine Tr.idxArr1 rfl rfl rfl rfl Tryz.underlying120 Sz71 4 rfl dE ?_
  refine Tr.loadE rfl rfl rfl Tryz.underlying71 rfl (by (simp; done)) (hW.1 4 _ rfl) ?_
  refine Tr.mul_u64 rfl rfl (show evIn _ _ = some (u64 19) from rfl) rfl ?_
  refine Tr.assign rfl rfl rfl ?_
  refine Tr.assign rfl rfl rfl ?_
  refine Tr.assign rfl rfl rfl ?_
  refine Tr.assign rfl rfl rfl ?_
  refine Tr.nil ?_
  refine at_n ?_
  refine Sat.seq ?_
  refine Sat.draw [(0, 0), (0, 1), (0, 2), (0, 3), (1, 4), (0, 5), (0, 6), (0, 7), (1, 8), (0, 10), (0, 11), (0, 12), (0, 13), (1, 14), (0, 16), (0, 17), (0, 18), (0, 19), (1, 20), (0, 22), (0, 23), (0, 24), (0, 25), (1, 26), (0, 28), (0, 29), (0, 30), (0, 31), (1, 32), (3, 9), (3, 15), (3, 21), (3, 27), (3, 33), (2, 34), (4, 35)] Mixed (by kernel_rfl) ?_
  refine Tr.build (cs := [u64 0, u64 0]) rfl rfl rfl (fun w => by kernel_rfl) ?_
  refine Tr.move rfl rfl rfl ?_
  refine Tr.nilChk rfl rfl rfl ?_
  refine Tr.idxArr1 rfl rfl rfl rfl Tryz.underlying120 Sz71 0 rfl dE ?_
  refine Tr.loadE rfl rfl rfl Tryz.underlying71 rfl (by (simp; done)) (hW.1 0 _ rfl) ?_
  refine Tr.move rfl rfl rfl ?_
  refine Tr.nilChk rfl rfl rfl ?_
  refine Tr.idxArr1 rfl rfl rfl rfl Tryz.underlying120 Sz71 0 rfl dE ?_
  refine Tr.loadE rfl rfl rfl Tryz.underlying71 rfl (by (simp; done)) (hW.2 0 _ rfl) ?_
  refine Tr.move rfl rfl rfl ?_
  refine Tr.move rfl rfl rfl ?_
  refine Tr.nilChk rfl rfl rfl ?_
  refine Tr.idxArr1 rfl rfl rfl rfl Tryz.underlying120 Sz71 4 rfl dE ?_
  refine Tr.loadE rfl rfl rfl Tryz.underlying71 rfl (by (simp; done)) (hW.2 4 _ rfl) ?_
  refine Tr.move rfl rfl rfl ?_
  refine Tr.move rfl rfl rfl ?_
  refine Tr.nilChk rfl rfl rfl ?_
  refine Tr.idxArr1 rfl rfl rfl rfl Tryz.underlying120 Sz71 3 rfl dE ?_
  refine Tr.loadE rfl rfl rfl Tryz.underlying71 rfl (by (simp; done)) (hW.2 3 _ rfl) ?_
  refine Tr.move rfl rfl rfl ?_
  refine Tr.move rfl rfl rfl ?_
  refine Tr.nilChk rfl rfl rfl ?_
  refine Tr.idxArr1 rfl rfl rfl rfl Tryz.underlying120 Sz71 2 rfl dE ?_
  refine Tr.loadE rfl rfl rfl Tryz.underlying71 rfl (by (simp; done)) (hW.2 2 _ rfl) ?_
  refine Tr.move rfl rfl rfl ?_
  refine Tr.move rfl rfl rfl ?_
  refine Tr.nilChk rfl rfl rfl ?_
  refine Tr.idxArr1 rfl rfl rfl rfl Tryz.underlying120 Sz71 1 rfl dE ?_
  refine Tr.loadE rfl rfl rfl Tryz.underlying71 rfl (by (simp; done)) (hW.2 1 _ rfl) ?_
  refine Tr.callV rfl rfl rfl rfl Body132 (wide_plus (0, 0) a.a b.a) (fun _ _ => trivial) ?_
  refine Tr.callV rfl rfl rfl rfl Body132 (wide_plus (plF (0, 0) a.a b.a) (19 * a.b) b.e) (fun _ _ => trivial) ?_
  refine Tr.callV rfl rfl rfl rfl Body132 (wide_plus (plF (plF (0, 0) a.a b.a) (19 * a.b) b.e) (19 * a.c) b.d) (fun _ _ => trivial) ?_
  refine Tr.callV rfl rfl rfl rfl Body132 (wide_plus (plF (plF (plF (0, 0) a.a b.a) (19 * a.b) b.e) (19 * a.c) b.d) (19 * a.d) b.c) (fun _ _ => trivial) ?_
  refine Tr.callV rfl rfl rfl rfl Body132 (wide_plus (plF (plF (plF (plF (0, 0) a.a b.a) (19 * a.b) b.e) (19 * a.c) b.d) (19 * a.d) b.c) (19 * a.e) b.b) (fun _ _ => trivial) ?_
  refine Tr.alloc (cs := ([u64 0] ++ [u64 0])) rfl Zr137 rfl ?_
  intro n9 hn9 hf9
  refine Tr.storeAll rfl rfl rfl rfl (by simp [isCell]) Sz137 (by (simp; done)) (by exact mem0) (by (simp; done)) (by exact upd0) ?_
  refine Tr.nil ?_
  refine at_n ?_
  refine Sat.seq ?_
  refine Sat.draw [(0, 0), (0, 1), (0, 2), (0, 3), (1, 4), (0, 5), (0, 6), (0, 7), (1, 8), (0, 10), (0, 11), (0, 12), (1, 13), (0, 14), (0, 15), (0, 16), (1, 17), (0, 19), (0, 20), (0, 21), (0, 22), (1, 23), (0, 25), (0, 26), (0, 27), (0, 28), (1, 29), (0, 31), (0, 32), (0, 33), (0, 34), (1, 35), (3, 9), (3, 18), (3, 24), (3, 30), (3, 36), (2, 37), (4, 38)] Mixed (by kernel_rfl) ?_
  refine Tr.build (cs := [u64 0, u64 0]) rfl rfl rfl (fun w => by kernel_rfl) ?_
  refine Tr.move rfl rfl rfl ?_
  refine Tr.nilChk rfl rfl rfl ?_
  refine Tr.idxArr1 rfl rfl rfl rfl Tryz.underlying120 Sz71 0 rfl dE ?_
  refine Tr.loadE rfl rfl rfl Tryz.underlying71 rfl (by (simp; done)) (hW.1 0 _ rfl) ?_
  refine Tr.move rfl rfl rfl ?_
  refine Tr.nilChk rfl rfl rfl ?_
  refine Tr.idxArr1 rfl rfl rfl rfl Tryz.underlying120 Sz71 1 rfl dE ?_
  refine Tr.loadE rfl rfl rfl Tryz.underlying71 rfl (by (simp; done)) (hW.2 1 _ rfl) ?_
  refine Tr.move rfl rfl rfl ?_
  refine Tr.nilChk rfl rfl rfl ?_
  refine Tr.idxArr1 rfl rfl rfl rfl Tryz.underlying120 Sz71 1 rfl dE ?_
  refine Tr.loadE rfl rfl rfl Tryz.underlying71 rfl (by (simp; done)) (hW.1 1 _ rfl) ?_
  refine Tr.move rfl rfl rfl ?_
  refine Tr.nilChk rfl rfl rfl ?_
  refine Tr.idxArr1 rfl rfl rfl rfl Tryz.underlying120 Sz71 0 rfl dE ?_
  refine Tr.loadE rfl rfl rfl Tryz.underlying71 rfl (by (simp; done)) (hW.2 0 _ rfl) ?_
  refine Tr.move rfl rfl rfl ?_
  refine Tr.move rfl rfl rfl ?_
  refine Tr.nilChk rfl rfl rfl ?_
  refine Tr.idxArr1 rfl rfl rfl rfl Tryz.underlying120 Sz71 4 rfl dE ?_
  refine Tr.loadE rfl rfl rfl Tryz.underlying71 rfl (by (simp; done)) (hW.2 4 _ rfl) ?_
  refine Tr.move rfl rfl rfl ?_
  refine Tr.move rfl rfl rfl ?_
  refine Tr.nilChk rfl rfl rfl ?_
  refine Tr.idxArr1 rfl rfl rfl rfl Tryz.underlying120 Sz71 3 rfl dE ?_
  refine Tr.loadE rfl rfl rfl Tryz.underlying71 rfl (by (simp; done)) (hW.2 3 _ rfl) ?_
  refine Tr.move rfl rfl rfl ?_
  refine Tr.move rfl rfl rfl ?_
  refine Tr.nilChk rfl rfl rfl ?_
  refine Tr.idxArr1 rfl rfl rfl rfl Tryz.underlying120 Sz71 2 rfl dE ?_
  refine Tr.loadE rfl rfl rfl Tryz.underlying71 rfl (by (simp; done)) (hW.2 2 _ rfl) ?_
  refine Tr.callV rfl rfl rfl rfl Body132 (wide_plus (0, 0) a.a b.b) (fun _ _ => trivial) ?_
  refine Tr.callV rfl rfl rfl rfl Body132 (wide_plus (plF (0, 0) a.a b.b) a.b b.a) (fun _ _ => trivial) ?_
  refine Tr.callV rfl rfl rfl rfl Body132 (wide_plus (plF (plF (0, 0) a.a b.b) a.b b.a) (19 * a.c) b.e) (fun _ _ => trivial) ?_
  refine Tr.callV rfl rfl rfl rfl Body132 (wide_plus (plF (plF (plF (0, 0) a.a b.b) a.b b.a) (19 * a.c) b.e) (19 * a.d) b.d) (fun _ _ => trivial) ?_
  refine Tr.callV rfl rfl rfl rfl Body132 (wide_plus (plF (plF (plF (plF (0, 0) a.a b.b) a.b b.a) (19 * a.c) b.e) (19 * a.d) b.d) (19 * a.e) b.c) (fun _ _ => trivial) ?_
  refine Tr.alloc (cs := ([u64 0] ++ [u64 0])) rfl Zr137 rfl ?_
  intro n10 hn10 hf10
  refine Tr.storeAll rfl rfl rfl rfl (by simp [isCell]) Sz137 (by (simp; done)) (by exact mem0) (by (simp; done)) (by exact upd0) ?_
  refine Tr.nil ?_
  refine at_n ?_
  refine Sat.seq ?_
  refine Sat.draw [(0, 0), (0, 1), (0, 2), (0, 3), (1, 4), (0, 5), (0, 6), (0, 7), (1, 8), (0, 10), (0, 11), (0, 12), (1, 13), (0, 14), (0, 15), (0, 16), (1, 17), (0, 19), (0, 20), (0, 21), (1, 22), (0, 23), (0, 24), (0, 25), (1, 26), (0, 28), (0, 29), (0, 30), (0, 31), (1, 32), (0, 34), (0, 35), (0, 36), (0, 37), (1, 38), (3, 9), (3, 18), (3, 27), (3, 33), (3, 39), (2, 40), (4, 41)] Mixed (by kernel_rfl) ?_
  refine Tr.build (cs := [u64 0, u64 0]) rfl rfl rfl (fun w => by kernel_rfl) ?_
  refine Tr.move rfl rfl rfl ?_
  refine Tr.nilChk rfl rfl rfl ?_
  refine Tr.idxArr1 rfl rfl rfl rfl Tryz.underlying120 Sz71 0 rfl dE ?_
  refine Tr.loadE rfl rfl rfl Tryz.underlying71 rfl (by (simp; done)) (hW.1 0 _ rfl) ?_
  refine Tr.move rfl rfl rfl ?_
  refine Tr.nilChk rfl rfl rfl ?_
  refine Tr.idxArr1 rfl rfl rfl rfl Tryz.underlying120 Sz71 2 rfl dE ?_
  refine Tr.loadE rfl rfl rfl Tryz.underlying71 rfl (by (simp; done)) (hW.2 2 _ rfl) ?_
  refine Tr.move rfl rfl rfl ?_
  refine Tr.nilChk rfl rfl rfl ?_
  refine Tr.idxArr1 rfl rfl rfl rfl Tryz.underlying120 Sz71 1 rfl dE ?_
  refine Tr.loadE rfl rfl rfl Tryz.underlying71 rfl (by (simp; done)) (hW.1 1 _ rfl) ?_
  refine Tr.move rfl rfl rfl ?_
  refine Tr.nilChk rfl rfl rfl ?_
  refine Tr.idxArr1 rfl rfl rfl rfl Tryz.underlying120 Sz71 1 rfl dE ?_
  refine Tr.loadE rfl rfl rfl Tryz.underlying71 rfl (by (simp; done)) (hW.2 1 _ rfl) ?_
  refine Tr.move rfl rfl rfl ?_
  refine Tr.nilChk rfl rfl rfl ?_
  refine Tr.idxArr1 rfl rfl rfl rfl Tryz.underlying120 Sz71 2 rfl dE ?_
  refine Tr.loadE rfl rfl rfl Tryz.underlying71 rfl (by (simp; done)) (hW.1 2 _ rfl) ?_
  refine Tr.move rfl rfl rfl ?_
  refine Tr.nilChk rfl rfl rfl ?_
  refine Tr.idxArr1 rfl rfl rfl rfl Tryz.underlying120 Sz71 0 rfl dE ?_
  refine Tr.loadE rfl rfl rfl Tryz.underlying71 rfl (by (simp; done)) (hW.2 0 _ rfl) ?_
  refine Tr.move rfl rfl rfl ?_
  refine Tr.move rfl rfl rfl ?_
  refine Tr.nilChk rfl rfl rfl ?_
  refine Tr.idxArr1 rfl rfl rfl rfl Tryz.underlying120 Sz71 4 rfl dE ?_
  refine Tr.loadE rfl rfl rfl Tryz.underlying71 rfl (by (simp; done)) (hW.2 4 _ rfl) ?_
  refine Tr.move rfl rfl rfl ?_
  refine Tr.move rfl rfl rfl ?_
  refine Tr.nilChk rfl rfl rfl ?_
  refine Tr.idxArr1 rfl rfl rfl rfl Tryz.underlying120 Sz71 3 rfl dE ?_
  refine Tr.loadE rfl rfl rfl Tryz.underlying71 rfl (by (simp; done)) (hW.2 3 _ rfl) ?_
  refine Tr.callV rfl rfl rfl rfl Body132 (wide_plus (0, 0) a.a b.c) (fun _ _ => trivial) ?_
  refine Tr.callV rfl rfl rfl rfl Body132 (wide_plus (plF (0, 0) a.a b.c) a.b b.b) (fun _ _ => trivial) ?_
  refine Tr.callV rfl rfl rfl rfl Body132 (wide_plus (plF (plF (0, 0) a.a b.c) a.b b.b) a.c b.a) (fun _ _ => trivial) ?_
  refine Tr.callV rfl rfl rfl rfl Body132 (wide_plus (plF (plF (plF (0, 0) a.a b.c) a.b b.b) a.c b.a) (19 * a.d) b.e) (fun _ _ => trivial) ?_
  refine Tr.callV rfl rfl rfl rfl Body132 (wide_plus (plF (plF (plF (plF (0, 0) a.a b.c) a.b b.b) a.c b.a) (19 * a.d) b.e) (19 * a.e) b.d) (fun _ _ => trivial) ?_
  refine Tr.alloc (cs := ([u64 0] ++ [u64 0])) rfl Zr137 rfl ?_
  intro n11 hn11 hf11
  refine Tr.storeAll rfl rfl rfl rfl (by simp [isCell]) Sz137 (by (simp; done)) (by exact mem0) (by (simp; done)) (by exact upd0) ?_
  refine Tr.nil ?_
  refine at_n ?_
  refine Sat.seq ?_
  refine Sat.draw [(0, 0), (0, 1), (0, 2), (0, 3), (1, 4), (0, 5), (0, 6), (0, 7), (1, 8), (0, 10), (0, 11), (0, 12), (1, 13), (0, 14), (0, 15), (0, 16), (1, 17), (0, 19), (0, 20), (0, 21), (1, 22), (0, 23), (0, 24), (0, 25), (1, 26), (0, 28), (0, 29), (0, 30), (1, 31), (0, 32), (0, 33), (0, 34), (1, 35), (0, 37), (0, 38), (0, 39), (0, 40), (1, 41), (3, 9), (3, 18), (3, 27), (3, 36), (3, 42), (2, 43), (4, 44)] Mixed (by kernel_rfl) ?_
  refine Tr.build (cs := [u64 0, u64 0]) rfl rfl rfl (fun w => by kernel_rfl) ?_
  refine Tr.move rfl rfl rfl ?_
  refine Tr.nilChk rfl rfl rfl ?_
  refine Tr.idxArr1 rfl rfl rfl rfl Tryz.underlying120 Sz71 0 rfl dE ?_
  refine Tr.loadE rfl rfl rfl Tryz.underlying71 rfl (by (simp; done)) (hW.1 0 _ rfl) ?_
  refine Tr.move rfl rfl rfl ?_
  refine Tr.nilChk rfl rfl rfl ?_
  refine Tr.idxArr1 rfl rfl rfl rfl Tryz.underlying120 Sz71 3 rfl dE ?_
  refine Tr.loadE rfl rfl rfl Tryz.underlying71 rfl (by (simp; done)) (hW.2 3 _ rfl) ?_
  refine Tr.move rfl rfl rfl ?_
  refine Tr.nilChk rfl rfl rfl ?_
  refine Tr.idxArr1 rfl rfl rfl rfl Tryz.underlying120 Sz71 1 rfl dE ?_
  refine Tr.loadE rfl rfl rfl Tryz.underlying71 rfl (by (simp; done)) (hW.1 1 _ rfl) ?_
  refine Tr.move rfl rfl rfl ?_
  refine Tr.nilChk rfl rfl rfl ?_
  refine Tr.idxArr1 rfl rfl rfl rfl Tryz.underlying120 Sz71 2 rfl dE ?_
  refine Tr.loadE rfl rfl rfl Tryz.underlying71 rfl (by (simp; done)) (hW.2 2 _ rfl) ?_
  refine Tr.move rfl rfl rfl ?_
  refine Tr.nilChk rfl rfl rfl ?_
  refine Tr.idxArr1 rfl rfl rfl rfl Tryz.underlying120 Sz71 2 rfl dE ?_
  refine Tr.loadE rfl rfl rfl Tryz.underlying71 rfl (by (simp; done)) (hW.1 2 _ rfl) ?_
  refine Tr.move rfl rfl rfl ?_
  refine Tr.nilChk rfl rfl rfl ?_
  refine Tr.idxArr1 rfl rfl rfl rfl Tryz.underlying120 Sz71 1 rfl dE ?_
  refine Tr.loadE rfl rfl rfl Tryz.underlying71 rfl (by (simp; done)) (hW.2 1 _ rfl) ?_
  refine Tr.move rfl rfl rfl ?_
  refine Tr.nilChk rfl rfl rfl ?_
  refine Tr.idxArr1 rfl rfl rfl rfl Tryz.underlying120 Sz71 3 rfl dE ?_
  refine Tr.loadE rfl rfl rfl Tryz.underlying71 rfl (by (simp; done)) (hW.1 3 _ rfl) ?_
  refine Tr.move rfl rfl rfl ?_
  refine Tr.nilChk rfl rfl rfl ?_
  refine Tr.idxArr1 rfl rfl rfl rfl Tryz.underlying120 Sz71 0 rfl dE ?_
  refine Tr.loadE rfl rfl rfl Tryz.underlying71 rfl (by (simp; done)) (hW.2 0 _ rfl) ?_
  refine Tr.move rfl rfl rfl ?_
  refine Tr.move rfl rfl rfl ?_
  refine Tr.nilChk rfl rfl rfl ?_
  refine Tr.idxArr1 rfl rfl rfl rfl Tryz.underlying120 Sz71 4 rfl dE ?_
  refine Tr.loadE rfl rfl rfl Tryz.underlying71 rfl (by (simp; done)) (hW.2 4 _ rfl) ?_
  refine Tr.callV rfl rfl rfl rfl Body132 (wide_plus (0, 0) a.a b.d) (fun _ _ => trivial) ?_
  refine Tr.callV rfl rfl rfl rfl Body132 (wide_plus (plF (0, 0) a.a b.d) a.b b.c) (fun _ _ => trivial) ?_
  refine Tr.callV rfl rfl rfl rfl Body132 (wide_plus (plF (plF (0, 0) a.a b.d) a.b b.c) a.c b.b) (fun _ _ => trivial) ?_
  refine Tr.callV rfl rfl rfl rfl Body132 (wide_plus (plF (plF (plF (0, 0) a.a b.d) a.b b.c) a.c b.b) a.d b.a) (fun _ _ => trivial) ?_
  refine Tr.callV rfl rfl rfl rfl Body132 (wide_plus (plF (plF (plF (plF (0, 0) a.a b.d) a.b b.c) a.c b.b) a.d b.a) (19 * a.e) b.e) (fun _ _ => trivial) ?_
  refine Tr.alloc (cs := ([u64 0] ++ [u64 0])) rfl Zr137 rfl ?_
  intro n12 hn12 hf12
  refine Tr.storeAll rfl rfl rfl rfl (by simp [isCell]) Sz137 (by (simp; done)) (by exact mem0) (by (simp; done)) (by exact upd0) ?_
  refine Tr.nil ?_
  refine at_n ?_
  refine Sat.seq ?_
  refine Sat.draw [(0, 0), (0, 1), (0, 2), (0, 3), (1, 4), (0, 5), (0, 6), (0, 7), (1, 8), (0, 10), (0, 11), (0, 12), (1, 13), (0, 14), (0, 15), (0, 16), (1, 17), (0, 19), (0, 20), (0, 21), (1, 22), (0, 23), (0, 24), (0, 25), (1, 26), (0, 28), (0, 29), (0, 30), (1, 31), (0, 32), (0, 33), (0, 34), (1, 35), (0, 37), (0, 38), (0, 39), (1, 40), (0, 41), (0, 42), (0, 43), (1, 44), (3, 9), (3, 18), (3, 27), (3, 36), (3, 45), (2, 46), (4, 47)] Mixed (by kernel_rfl) ?_
  refine Tr.build (cs := [u64 0, u64 0]) rfl rfl rfl (fun w => by kernel_rfl) ?_
  refine Tr.move rfl rfl rfl ?_
  refine Tr.nilChk rfl rfl rfl ?_
  refine Tr.idxArr1 rfl rfl rfl rfl Tryz.underlying120 Sz71 0 rfl dE ?_
  refine Tr.loadE rfl rfl rfl Tryz.underlying71 rfl (by (simp; done)) (hW.1 0 _ rfl) ?_
  refine Tr.move rfl rfl rfl ?_
  refine Tr.nilChk rfl rfl rfl ?_
  refine Tr.idxArr1 rfl rfl rfl rfl Tryz.underlying120 Sz71 4 rfl dE ?_
  refine Tr.loadE rfl rfl rfl Tryz.underlying71 rfl (by (simp; done)) (hW.2 4 _ rfl) ?_
  refine Tr.move rfl rfl rfl ?_
  refine Tr.nilChk rfl rfl rfl ?_
  refine Tr.idxArr1 rfl rfl rfl rfl Tryz.underlying120 Sz71 1 rfl dE ?_
  refine Tr.loadE rfl rfl rfl Tryz.underlying71 rfl (by (simp; done)) (hW.1 1 _ rfl) ?_
  refine Tr.move rfl rfl rfl ?_
  refine Tr.nilChk rfl rfl rfl ?_
  refine Tr.idxArr1 rfl rfl rfl rfl Tryz.underlying120 Sz71 3 rfl dE ?_
  refine Tr.loadE rfl rfl rfl Tryz.underlying71 rfl (by (simp; done)) (hW.2 3 _ rfl) ?_
  refine Tr.move rfl rfl rfl ?_
  refine Tr.nilChk rfl rfl rfl ?_
  refine Tr.idxArr1 rfl rfl rfl rfl Tryz.underlying120 Sz71 2 rfl dE ?_
  refine Tr.loadE rfl rfl rfl Tryz.underlying71 rfl (by (simp; done)) (hW.1 2 _ rfl) ?_
  refine Tr.move rfl rfl rfl ?_
  refine Tr.nilChk rfl rfl rfl ?_
  refine Tr.idxArr1 rfl rfl rfl rfl Tryz.underlying120 Sz71 2 rfl dE ?_
  refine Tr.loadE rfl rfl rfl Tryz.underlying71 rfl (by (simp; done)) (hW.2 2 _ rfl) ?_
  refine Tr.move rfl rfl rfl ?_
  refine Tr.nilChk rfl rfl rfl ?_
  refine Tr.idxArr1 rfl rfl rfl rfl Tryz.underlying120 Sz71 3 rfl dE ?_
  refine Tr.loadE rfl rfl rfl Tryz.underlying71 rfl (by (simp; done)) (hW.1 3 _ rfl) ?_
  refine Tr.move rfl rfl rfl ?_
  refine Tr.nilChk rfl rfl rfl ?_
  refine Tr.idxArr1 rfl rfl rfl rfl Tryz.underlying120 Sz71 1 rfl dE ?_
  refine Tr.loadE rfl rfl rfl Tryz.underlying71 rfl (by (simp; done)) (hW.2 1 _ rfl) ?_
  refine Tr.move rfl rfl rfl ?_
  refine Tr.nilChk rfl rfl rfl ?_
  refine Tr.idxArr1 rfl rfl rfl rfl Tryz.underlying120 Sz71 4 rfl dE ?_
  refine Tr.loadE rfl rfl rfl Tryz.underlying71 rfl (by (simp; done)) (hW.1 4 _ rfl) ?_
  refine Tr.move rfl rfl rfl ?_
  refine Tr.nilChk rfl rfl rfl ?_
  refine Tr.idxArr1 rfl rfl rfl rfl Tryz.underlying120 Sz71 0 rfl dE ?_
  refine Tr.loadE rfl rfl rfl Tryz.underlying71 rfl (by (simp; done)) (hW.2 0 _ rfl) ?_
  refine Tr.callV rfl rfl rfl rfl Body132 (wide_plus (0, 0) a.a b.e) (fun _ _ => trivial) ?_
  refine Tr.callV rfl rfl rfl rfl Body132 (wide_plus (plF (0, 0) a.a b.e) a.b b.d) (fun _ _ => trivial) ?_
  refine Tr.callV rfl rfl rfl rfl Body132 (wide_plus (plF (plF (0, 0) a.a b.e) a.b b.d) a.c b.c) (fun _ _ => trivial) ?_
  refine Tr.callV rfl rfl rfl rfl Body132 (wide_plus (plF (plF (plF (0, 0) a.a b.e) a.b b.d) a.c b.c) a.d b.b) (fun _ _ => trivial) ?_
  refine Tr.callV rfl rfl rfl rfl Body132 (wide_plus (plF (plF (plF (plF (0, 0) a.a b.e) a.b b.d) a.c b.c) a.d b.b) a.e b.a) (fun _ _ => trivial) ?_
  refine Tr.alloc (cs := ([u64 0] ++ [u64 0])) rfl Zr137 rfl ?_
  intro n13 hn13 hf13
  refine Tr.storeAll rfl rfl rfl rfl (by simp [isCell]) Sz137 (by (simp; done)) (by exact mem0) (by (simp; done)) (by exact upd0) ?_
  refine Tr.nil ?_
  refine at_n ?_
  refine Sat.seq ?_
  refine Sat.draw [(0, 0), (1, 1), (0, 2), (1, 3), (0, 7), (1, 8), (0, 9), (1, 10), (0, 13), (1, 14), (0, 15), (1, 16), (0, 19), (1, 20), (0, 21), (1, 22), (0, 25), (1, 26), (0, 27), (1, 28), (3, 4), (0, 5), (0, 6), (3, 11), (0, 12), (3, 17), (0, 18), (3, 23), (0, 24), (3, 29), (0, 30), (0, 31), (3, 32), (4, 33)] Mixed (by kernel_rfl) ?_
  refine Tr.fld rfl rfl rfl Tryz.underlying137 rfl Sz71 dE _ rfl ?_
  refine Tr.load1 rfl rfl rfl Tryz.underlying71 rfl (by exact mem4) (by rfl) ?_
  refine Tr.and_u64 rfl rfl rfl (show evIn _ _ = some (u64 2251799813685247) from rfl) ?_
  refine Tr.loadAll rfl rfl rfl Tryz.underlying137 rfl Sz137 (by exact mem0) (by (simp; done)) ?_
  refine Tr.fld rfl rfl rfl Tryz.underlying137 rfl Sz71 dE _ rfl ?_
  refine Tr.load1 rfl rfl rfl Tryz.underlying71 rfl (by exact mem3) (by rfl) ?_
  refine Tr.and_u64 rfl rfl rfl (show evIn _ _ = some (u64 2251799813685247) from rfl) ?_
  refine Tr.loadAll rfl rfl rfl Tryz.underlying137 rfl Sz137 (by exact mem4) (by (simp; done)) ?_
  refine Tr.fld rfl rfl rfl Tryz.underlying137 rfl Sz71 dE _ rfl ?_
  refine Tr.load1 rfl rfl rfl Tryz.underlying71 rfl (by exact mem2) (by rfl) ?_
  refine Tr.and_u64 rfl rfl rfl (show evIn _ _ = some (u64 2251799813685247) from rfl) ?_
  refine Tr.loadAll rfl rfl rfl Tryz.underlying137 rfl Sz137 (by exact mem3) (by (simp; done)) ?_
  refine Tr.fld rfl rfl rfl Tryz.underlying137 rfl Sz71 dE _ rfl ?_
  refine Tr.load1 rfl rfl rfl Tryz.underlying71 rfl (by exact mem1) (by rfl) ?_
  refine Tr.and_u64 rfl rfl rfl (show evIn _ _ = some (u64 2251799813685247) from rfl) ?_
  refine Tr.loadAll rfl rfl rfl Tryz.underlying137 rfl Sz137 (by exact mem2) (by (simp; done)) ?_
  refine Tr.fld rfl rfl rfl Tryz.underlying137 rfl Sz71 dE _ rfl ?_
  refine Tr.load1 rfl rfl rfl Tryz.underlying71 rfl (by exact mem0) (by rfl) ?_
  refine Tr.and_u64 rfl rfl rfl (show evIn _ _ = some (u64 2251799813685247) from rfl) ?_
  refine Tr.loadAll rfl rfl rfl Tryz.underlying137 rfl Sz137 (by exact mem1) (by (simp; done)) ?_
  refine Tr.callV rfl rfl rfl rfl Body133 (wide_upper (s4F a b)) (fun _ _ => trivial) ?_
  refine Tr.mul_u64 rfl rfl (show evIn _ _ = some (u64 19) from rfl) rfl ?_
  refine Tr.add_u64 rfl rfl rfl rfl ?_
  refine Tr.callV rfl rfl rfl rfl Body133 (wide_upper (s0F a b)) (fun _ _ => trivial) ?_
  refine Tr.add_u64 rfl rfl rfl rfl ?_
  refine Tr.callV rfl rfl rfl rfl Body133 (wide_upper (s1F a b)) (fun _ _ => trivial) ?_
  refine Tr.add_u64 rfl rfl rfl rfl ?_
  refine Tr.callV rfl rfl rfl rfl Body133 (wide_upper (s2F a b)) (fun _ _ => trivial) ?_
  refine Tr.add_u64 rfl rfl rfl rfl ?_
  refine Tr.callV rfl rfl rfl rfl Body133 (wide_upper (s3F a b)) (fun _ _ => trivial) ?_
  refine Tr.add_u64 rfl rfl rfl rfl ?_
  refine Tr.build (cs := wordsV (⟨((s0F a b).2 &&& LOW) + 19 * upF (s4F a b), ((s1F a b).2 &&& LOW) + upF (s0F a b), ((s2F a b).2 &&& LOW) + upF (s1F a b), ((s3F a b).2 &&& LOW) + upF (s2F a b), ((s4F a b).2 &&& LOW) + upF (s3F a b)⟩ : W5).l) rfl rfl rfl (fun w => by kernel_rfl) ?_
  refine Tr.callV rfl rfl rfl rfl Body134 (field_carried ⟨((s0F a b).2 &&& LOW) + 19 * upF (s4F a b), ((s1F a b).2 &&& LOW) + upF (s0F a b), ((s2F a b).2 &&& LOW) + upF (s1F a b), ((s3F a b).2 &&& LOW) + upF (s2F a b), ((s4F a b).2 &&& LOW) + upF (s3F a b)⟩) (fun _ _ => trivial) ?_
  refine Tr.storeAll rfl rfl rfl rfl (by simp [isCell]) Sz120 (by (simp [W5.l_length]; done)) (by exact mem5) (by (simp; done)) (by exact upd5) ?_
  refine Tr.nil ?_
  refine at_n ?_
  refine Sat.ret ?_
  refine en_r ?_
  refine ⟨_, [], res_cell rfl rfl Tryz.underlying120 rfl Sz120 (by exact mem5) (by simp [W5.l_length]), sP, sP, ?_, rfl⟩
  rfl

set_option maxRecDepth 100000 in
set_option maxHeartbeats 4000000 in
theorem field_store (w : W5) : Meets Tryz.prog 113 [agg (wordsV w.l)] [] (fun _ => True) (fun v out => v = agg (bytesV (fb (fe w.v))) ∧ out = []) := by
  intro W hW
  refine calls_of (hp0 := []) Tryz.func113 rfl 88 Tryz.ntmps113 rfl (HRep.nil _) ?_
  refine Sat.seq ?_
  refine Sat.region ?_
  refine Tr.boxA rfl rfl ?_
  intro n1 hn1 hf1
  refine Tr.alloc (cs := (bytesV (List.replicate 32 0))) rfl Zr32 rfl ?_
  intro n2 hn2 hf2
  refine Tr.nil ?_
  refine at_n ?_
  refine Sat.seq ?_
  refine Sat.region ?_
  refine Tr.loadAll rfl rfl rfl Tryz.underlying120 rfl Sz120 (by exact mem1) (by (simp [W5.l_length]; done)) ?_
  refine Tr.callV rfl rfl rfl rfl Body134 (field_carried w) (fun _ _ => trivial) ?_
  refine Tr.storeAll rfl rfl rfl rfl (by simp [isCell]) Sz120 (by (simp [W5.l_length]; done)) (by exact mem1) (by (simp [W5.l_length]; done)) (by exact upd1) ?_
  refine Tr.nil ?_
  refine at_n ?_
  refine Sat.seq ?_
  refine Sat.region ?_
  refine Tr.idxArr1 rfl rfl rfl rfl Tryz.underlying120 Sz71 0 rfl dE ?_
  refine Tr.load1 rfl rfl rfl Tryz.underlying71 rfl (by exact mem1) (by rfl) ?_
  refine Tr.add_u64 rfl rfl rfl (show evIn _ _ = some (u64 19) from rfl) ?_
  refine Tr.shr_u64 rfl rfl rfl rfl 51 rfl dE ?_
  refine Tr.assign rfl rfl rfl ?_
  refine Tr.nil ?_
  refine at_n ?_
  refine Sat.seq ?_
  refine Sat.seq ?_
  refine Sat.region ?_
  refine Tr.assign rfl rfl rfl ?_
  refine Tr.nil ?_
  refine at_n ?_
  refine Sat.block ?_
  refine Sat.rounds 5 (SRounds.more ?_)
  refine Sat.seq ?_
  refine Sat.seq ?_
  refine Sat.region ?_
  refine Tr.move rfl rfl rfl ?_
  refine Tr.lss rfl rfl rfl rfl rfl ?_
  refine Tr.nil ?_
  refine at_n ?_
  refine Sat.cond_t rfl (rfl) ?_
  refine Sat.skip ?_
  refine at_n ?_
  refine Sat.seq ?_
  refine Sat.block ?_
  refine Sat.region ?_
  refine Tr.move rfl rfl rfl ?_
  refine Tr.idxArr1 rfl rfl rfl rfl Tryz.underlying120 Sz71 1 rfl oM ?_
  refine Tr.load1 rfl rfl rfl Tryz.underlying71 rfl (by exact mem1) (by rfl) ?_
  refine Tr.move rfl rfl rfl ?_
  refine Tr.add_u64 rfl rfl rfl rfl ?_
  refine Tr.shr_u64 rfl rfl rfl rfl 51 rfl dE ?_
  refine Tr.assign rfl rfl rfl ?_
  refine Tr.nil ?_
  refine bl_n ?_
  refine at_n ?_
  refine Sat.region ?_
  refine Tr.move rfl rfl rfl ?_
  refine Tr.add_i64 rfl rfl rfl rfl oM ?_
  refine Tr.assign rfl rfl rfl ?_
  refine Tr.nil ?_
  refine at_n (SRounds.more ?_)
  refine Sat.seq ?_
  refine Sat.seq ?_
  refine Sat.region ?_
  refine Tr.move rfl rfl rfl ?_
  refine Tr.lss rfl rfl rfl rfl rfl ?_
  refine Tr.nil ?_
  refine at_n ?_
  refine Sat.cond_t rfl (rfl) ?_
  refine Sat.skip ?_
  refine at_n ?_
  refine Sat.seq ?_
  refine Sat.block ?_
  refine Sat.region ?_
  refine Tr.move rfl rfl rfl ?_
  refine Tr.idxArr1 rfl rfl rfl rfl Tryz.underlying120 Sz71 2 rfl oM ?_
  refine Tr.load1 rfl rfl rfl Tryz.underlying71 rfl (by exact mem1) (by rfl) ?_
  refine Tr.move rfl rfl rfl ?_
  refine Tr.add_u64 rfl rfl rfl rfl ?_
  refine Tr.shr_u64 rfl rfl rfl rfl 51 rfl dE ?_
  refine Tr.assign rfl rfl rfl ?_
  refine Tr.nil ?_
  refine bl_n ?_
  refine at_n ?_
  refine Sat.region ?_
  refine Tr.move rfl rfl rfl ?_
  refine Tr.add_i64 rfl rfl rfl rfl oM ?_
  refine Tr.assign rfl rfl rfl ?_
  refine Tr.nil ?_
  refine at_n (SRounds.more ?_)
  refine Sat.seq ?_
  refine Sat.seq ?_
  refine Sat.region ?_
  refine Tr.move rfl rfl rfl ?_
  refine Tr.lss rfl rfl rfl rfl rfl ?_
  refine Tr.nil ?_
  refine at_n ?_
  refine Sat.cond_t rfl (rfl) ?_
  refine Sat.skip ?_
  refine at_n ?_
  refine Sat.seq ?_
  refine Sat.block ?_
  refine Sat.region ?_
  refine Tr.move rfl rfl rfl ?_
  refine Tr.idxArr1 rfl rfl rfl rfl Tryz.underlying120 Sz71 3 rfl oM ?_
  refine Tr.load1 rfl rfl rfl Tryz.underlying71 rfl (by exact mem1) (by rfl) ?_
  refine Tr.move rfl rfl rfl ?_
  refine Tr.add_u64 rfl rfl rfl rfl ?_
  refine Tr.shr_u64 rfl rfl rfl rfl 51 rfl dE ?_
  refine Tr.assign rfl rfl rfl ?_
  refine Tr.nil ?_
  refine bl_n ?_
  refine at_n ?_
  refine Sat.region ?_
  refine Tr.move rfl rfl rfl ?_
  refine Tr.add_i64 rfl rfl rfl rfl oM ?_
  refine Tr.assign rfl rfl rfl ?_
  refine Tr.nil ?_
  refine at_n (SRounds.more ?_)
  refine Sat.seq ?_
  refine Sat.seq ?_
  refine Sat.region ?_
  refine Tr.move rfl rfl rfl ?_
  refine Tr.lss rfl rfl rfl rfl rfl ?_
  refine Tr.nil ?_
  refine at_n ?_
  refine Sat.cond_t rfl (rfl) ?_
  refine Sat.skip ?_
  refine at_n ?_
  refine Sat.seq ?_
  refine Sat.block ?_
  refine Sat.region ?_
  refine Tr.move rfl rfl rfl ?_
  refine Tr.idxArr1 rfl rfl rfl rfl Tryz.underlying120 Sz71 4 rfl oM ?_
  refine Tr.load1 rfl rfl rfl Tryz.underlying71 rfl (by exact mem1) (by rfl) ?_
  refine Tr.move rfl rfl rfl ?_
  refine Tr.add_u64 rfl rfl rfl rfl ?_
  refine Tr.shr_u64 rfl rfl rfl rfl 51 rfl dE ?_
  refine Tr.assign rfl rfl rfl ?_
  refine Tr.nil ?_
  refine bl_n ?_
  refine at_n ?_
  refine Sat.region ?_
  refine Tr.move rfl rfl rfl ?_
  refine Tr.add_i64 rfl rfl rfl rfl oM ?_
  refine Tr.assign rfl rfl rfl ?_
  refine Tr.nil ?_
  refine at_n (SRounds.more ?_)
  refine Sat.seq ?_
  refine Sat.seq ?_
  refine Sat.region ?_
  refine Tr.move rfl rfl rfl ?_
  refine Tr.lss rfl rfl rfl rfl rfl ?_
  refine Tr.nil ?_
  refine at_n ?_
  refine Sat.cond_f rfl (rfl) ?_
  refine Sat.exit ?_
  refine at_x ?_
  refine at_x ?_
  refine bl_h ?_
  refine at_n ?_
  refine Sat.seq ?_
  refine Sat.region ?_
  refine Tr.idxArr1 rfl rfl rfl rfl Tryz.underlying120 Sz71 0 rfl dE ?_
  refine Tr.load1 rfl rfl rfl Tryz.underlying71 rfl (by exact mem1) (by rfl) ?_
  refine Tr.move rfl rfl rfl ?_
  refine Tr.mul_u64 rfl rfl (show evIn _ _ = some (u64 19) from rfl) rfl ?_
  refine Tr.add_u64 rfl rfl rfl rfl ?_
  refine Tr.idxArr1 rfl rfl rfl rfl Tryz.underlying120 Sz71 0 rfl dE ?_
  refine Tr.store1 rfl rfl rfl rfl rfl Sz71 (by exact mem1) (by (simp [W5.l_length]; done)) (by exact set_words _ _ _) (by exact upd1) ?_
  refine Tr.nil ?_
  refine at_n ?_
  refine Sat.seq ?_
  refine Sat.seq ?_
  refine Sat.region ?_
  refine Tr.move rfl rfl rfl ?_
  refine Tr.nil ?_
  refine at_n ?_
  refine Sat.block ?_
  refine Sat.rounds 5 (SRounds.more ?_)
  refine Sat.seq ?_
  refine Sat.region ?_
  refine Tr.lss rfl rfl rfl rfl rfl ?_
  refine Tr.nil ?_
  refine at_n ?_
  refine Sat.seq ?_
  refine Sat.cond_t rfl (rfl) ?_
  refine Sat.skip ?_
  refine at_n ?_
  refine Sat.seq ?_
  refine Sat.block ?_
  refine Sat.seq ?_
  refine Sat.region ?_
  refine Tr.move rfl rfl rfl ?_
  refine Tr.assign rfl rfl rfl ?_
  refine Tr.nil ?_
  refine at_n ?_
  refine Sat.seq ?_
  refine Sat.draw [(0, 0), (0, 1), (0, 2), (1, 3), (0, 4), (0, 5), (1, 6), (0, 7), (0, 8), (0, 9), (4, 10)] Mixed (by kernel_rfl) ?_
  refine Tr.move rfl rfl rfl ?_
  refine Tr.add_i64 rfl rfl rfl rfl oM ?_
  refine Tr.idxArr1 rfl rfl rfl rfl Tryz.underlying120 Sz71 1 rfl oM ?_
  refine Tr.load1 rfl rfl rfl Tryz.underlying71 rfl (by exact mem1) (by rfl) ?_
  refine Tr.move rfl rfl rfl ?_
  refine Tr.idxArr1 rfl rfl rfl rfl Tryz.underlying120 Sz71 0 rfl oM ?_
  refine Tr.load1 rfl rfl rfl Tryz.underlying71 rfl (by exact mem1) (by rfl) ?_
  refine Tr.shr_u64 rfl rfl rfl rfl 51 rfl dE ?_
  refine Tr.add_u64 rfl rfl rfl rfl ?_
  refine Tr.idxArr1 rfl rfl rfl rfl Tryz.underlying120 Sz71 1 rfl oM ?_
  refine Tr.store1 rfl rfl rfl rfl rfl Sz71 (by exact mem1) (by (simp [W5.l_length]; done)) (by exact set_words _ _ _) (by exact upd1) ?_
  refine Tr.nil ?_
  refine at_n ?_
  refine Sat.region ?_
  refine Tr.move rfl rfl rfl ?_
  refine Tr.idxArr1 rfl rfl rfl rfl Tryz.underlying120 Sz71 0 rfl oM ?_
  refine Tr.load1 rfl rfl rfl Tryz.underlying71 rfl (by exact mem1) (by rfl) ?_
  refine Tr.and_u64 rfl rfl rfl (show evIn _ _ = some (u64 2251799813685247) from rfl) ?_
  refine Tr.idxArr1 rfl rfl rfl rfl Tryz.underlying120 Sz71 0 rfl oM ?_
  refine Tr.store1 rfl rfl rfl rfl rfl Sz71 (by exact mem1) (by (simp [W5.l_length]; done)) (by exact set_words _ _ _) (by exact upd1) ?_
  refine Tr.nil ?_
  refine bl_n ?_
  refine at_n ?_
  refine Sat.region ?_
  refine Tr.add_i64 rfl rfl rfl rfl oM ?_
  refine Tr.move rfl rfl rfl ?_
  refine Tr.nil ?_
  refine at_n (SRounds.more ?_)
  refine Sat.seq ?_
  refine Sat.region ?_
  refine Tr.lss rfl rfl rfl rfl rfl ?_
  refine Tr.nil ?_
  refine at_n ?_
  refine Sat.seq ?_
  refine Sat.cond_t rfl (rfl) ?_
  refine Sat.skip ?_
  refine at_n ?_
  refine Sat.seq ?_
  refine Sat.block ?_
  refine Sat.seq ?_
  refine Sat.region ?_
  refine Tr.move rfl rfl rfl ?_
  refine Tr.assign rfl rfl rfl ?_
  refine Tr.nil ?_
  refine at_n ?_
  refine Sat.seq ?_
  refine Sat.draw [(0, 0), (0, 1), (0, 2), (1, 3), (0, 4), (0, 5), (1, 6), (0, 7), (0, 8), (0, 9), (4, 10)] Mixed (by kernel_rfl) ?_
  refine Tr.move rfl rfl rfl ?_
  refine Tr.add_i64 rfl rfl rfl rfl oM ?_
  refine Tr.idxArr1 rfl rfl rfl rfl Tryz.underlying120 Sz71 2 rfl oM ?_
  refine Tr.load1 rfl rfl rfl Tryz.underlying71 rfl (by exact mem1) (by rfl) ?_
  refine Tr.move rfl rfl rfl ?_
  refine Tr.idxArr1 rfl rfl rfl rfl Tryz.underlying120 Sz71 1 rfl oM ?_
  refine Tr.load1 rfl rfl rfl Tryz.underlying71 rfl (by exact mem1) (by rfl) ?_
  refine Tr.shr_u64 rfl rfl rfl rfl 51 rfl dE ?_
  refine Tr.add_u64 rfl rfl rfl rfl ?_
  refine Tr.idxArr1 rfl rfl rfl rfl Tryz.underlying120 Sz71 2 rfl oM ?_
  refine Tr.store1 rfl rfl rfl rfl rfl Sz71 (by exact mem1) (by (simp [W5.l_length]; done)) (by exact set_words _ _ _) (by exact upd1) ?_
  refine Tr.nil ?_
  refine at_n ?_
  refine Sat.region ?_
  refine Tr.move rfl rfl rfl ?_
  refine Tr.idxArr1 rfl rfl rfl rfl Tryz.underlying120 Sz71 1 rfl oM ?_
  refine Tr.load1 rfl rfl rfl Tryz.underlying71 rfl (by exact mem1) (by rfl) ?_
  refine Tr.and_u64 rfl rfl rfl (show evIn _ _ = some (u64 2251799813685247) from rfl) ?_
  refine Tr.idxArr1 rfl rfl rfl rfl Tryz.underlying120 Sz71 1 rfl oM ?_
  refine Tr.store1 rfl rfl rfl rfl rfl Sz71 (by exact mem1) (by (simp [W5.l_length]; done)) (by exact set_words _ _ _) (by exact upd1) ?_
  refine Tr.nil ?_
  refine bl_n ?_
  refine at_n ?_
  refine Sat.region ?_
  refine Tr.add_i64 rfl rfl rfl rfl oM ?_
  refine Tr.move rfl rfl rfl ?_
  refine Tr.nil ?_
  refine at_n (SRounds.more ?_)
  refine Sat.seq ?_
  refine Sat.region ?_
  refine Tr.lss rfl rfl rfl rfl rfl ?_
  refine Tr.nil ?_
  refine at_n ?_
  refine Sat.seq ?_
  refine Sat.cond_t rfl (rfl) ?_
  refine Sat.skip ?_
  refine at_n ?_
  refine Sat.seq ?_
  refine Sat.block ?_
  refine Sat.seq ?_
  refine Sat.region ?_
  refine Tr.move rfl rfl rfl ?_
  refine Tr.assign rfl rfl rfl ?_
  refine Tr.nil ?_
  refine at_n ?_
  refine Sat.seq ?_
  refine Sat.draw [(0, 0), (0, 1), (0, 2), (1, 3), (0, 4), (0, 5), (1, 6), (0, 7), (0, 8), (0, 9), (4, 10)] Mixed (by kernel_rfl) ?_
  refine Tr.move rfl rfl rfl ?_
  refine Tr.add_i64 rfl rfl rfl rfl oM ?_
  refine Tr.idxArr1 rfl rfl rfl rfl Tryz.underlying120 Sz71 3 rfl oM ?_
  refine Tr.load1 rfl rfl rfl Tryz.underlying71 rfl (by exact mem1) (by rfl) ?_
  refine Tr.move rfl rfl rfl ?_
  refine Tr.idxArr1 rfl rfl rfl rfl Tryz.underlying120 Sz71 2 rfl oM ?_
  refine Tr.load1 rfl rfl rfl Tryz.underlying71 rfl (by exact mem1) (by rfl) ?_
  refine Tr.shr_u64 rfl rfl rfl rfl 51 rfl dE ?_
  refine Tr.add_u64 rfl rfl rfl rfl ?_
  refine Tr.idxArr1 rfl rfl rfl rfl Tryz.underlying120 Sz71 3 rfl oM ?_
  refine Tr.store1 rfl rfl rfl rfl rfl Sz71 (by exact mem1) (by (simp [W5.l_length]; done)) (by exact set_words _ _ _) (by exact upd1) ?_
  refine Tr.nil ?_
  refine at_n ?_
  refine Sat.region ?_
  refine Tr.move rfl rfl rfl ?_
  refine Tr.idxArr1 rfl rfl rfl rfl Tryz.underlying120 Sz71 2 rfl oM ?_
  refine Tr.load1 rfl rfl rfl Tryz.underlying71 rfl (by exact mem1) (by rfl) ?_
  refine Tr.and_u64 rfl rfl rfl (show evIn _ _ = some (u64 2251799813685247) from rfl) ?_
  refine Tr.idxArr1 rfl rfl rfl rfl Tryz.underlying120 Sz71 2 rfl oM ?_
  refine Tr.store1 rfl rfl rfl rfl rfl Sz71 (by exact mem1) (by (simp [W5.l_length]; done)) (by exact set_words _ _ _) (by exact upd1) ?_
  refine Tr.nil ?_
  refine bl_n ?_
  refine at_n ?_
  refine Sat.region ?_
  refine Tr.add_i64 rfl rfl rfl rfl oM ?_
  refine Tr.move rfl rfl rfl ?_
  refine Tr.nil ?_
  refine at_n (SRounds.more ?_)
  refine Sat.seq ?_
  refine Sat.region ?_
  refine Tr.lss rfl rfl rfl rfl rfl ?_
  refine Tr.nil ?_
  refine at_n ?_
  refine Sat.seq ?_
  refine Sat.cond_t rfl (rfl) ?_
  refine Sat.skip ?_
  refine at_n ?_
  refine Sat.seq ?_
  refine Sat.block ?_
  refine Sat.seq ?_
  refine Sat.region ?_
  refine Tr.move rfl rfl rfl ?_
  refine Tr.assign rfl rfl rfl ?_
  refine Tr.nil ?_
  refine at_n ?_
  refine Sat.seq ?_
  refine Sat.draw [(0, 0), (0, 1), (0, 2), (1, 3), (0, 4), (0, 5), (1, 6), (0, 7), (0, 8), (0, 9), (4, 10)] Mixed (by kernel_rfl) ?_
  refine Tr.move rfl rfl rfl ?_
  refine Tr.add_i64 rfl rfl rfl rfl oM ?_
  refine Tr.idxArr1 rfl rfl rfl rfl Tryz.underlying120 Sz71 4 rfl oM ?_
  refine Tr.load1 rfl rfl rfl Tryz.underlying71 rfl (by exact mem1) (by rfl) ?_
  refine Tr.move rfl rfl rfl ?_
  refine Tr.idxArr1 rfl rfl rfl rfl Tryz.underlying120 Sz71 3 rfl oM ?_
  refine Tr.load1 rfl rfl rfl Tryz.underlying71 rfl (by exact mem1) (by rfl) ?_
  refine Tr.shr_u64 rfl rfl rfl rfl 51 rfl dE ?_
  refine Tr.add_u64 rfl rfl rfl rfl ?_
  refine Tr.idxArr1 rfl rfl rfl rfl Tryz.underlying120 Sz71 4 rfl oM ?_
  refine Tr.store1 rfl rfl rfl rfl rfl Sz71 (by exact mem1) (by (simp [W5.l_length]; done)) (by exact set_words _ _ _) (by exact upd1) ?_
  refine Tr.nil ?_
  refine at_n ?_
  refine Sat.region ?_
  refine Tr.move rfl rfl rfl ?_
  refine Tr.idxArr1 rfl rfl rfl rfl Tryz.underlying120 Sz71 3 rfl oM ?_
  refine Tr.load1 rfl rfl rfl Tryz.underlying71 rfl (by exact mem1) (by rfl) ?_
  refine Tr.and_u64 rfl rfl rfl (show evIn _ _ = some (u64 2251799813685247) from rfl) ?_
  refine Tr.idxArr1 rfl rfl rfl rfl Tryz.underlying120 Sz71 3 rfl oM ?_
  refine Tr.store1 rfl rfl rfl rfl rfl Sz71 (by exact mem1) (by (simp [W5.l_length]; done)) (by exact set_words _ _ _) (by exact upd1) ?_
  refine Tr.nil ?_
  refine bl_n ?_
  refine at_n ?_
  refine Sat.region ?_
  refine Tr.add_i64 rfl rfl rfl rfl oM ?_
  refine Tr.move rfl rfl rfl ?_
  refine Tr.nil ?_
  refine at_n (SRounds.more ?_)
  refine Sat.seq ?_
  refine Sat.region ?_
  refine Tr.lss rfl rfl rfl rfl rfl ?_
  refine Tr.nil ?_
  refine at_n ?_
  refine Sat.seq ?_
  refine Sat.cond_f rfl (rfl) ?_
  refine Sat.exit ?_
  refine at_x ?_
  refine at_x ?_
  refine bl_h ?_
  refine at_n ?_
  refine Sat.seq ?_
  refine Sat.region ?_
  refine Tr.idxArr1 rfl rfl rfl rfl Tryz.underlying120 Sz71 4 rfl dE ?_
  refine Tr.load1 rfl rfl rfl Tryz.underlying71 rfl (by exact mem1) (by rfl) ?_
  refine Tr.and_u64 rfl rfl rfl (show evIn _ _ = some (u64 2251799813685247) from rfl) ?_
  refine Tr.idxArr1 rfl rfl rfl rfl Tryz.underlying120 Sz71 4 rfl dE ?_
  refine Tr.store1 rfl rfl rfl rfl rfl Sz71 (by exact mem1) (by (simp [W5.l_length]; done)) (by exact set_words _ _ _) (by exact upd1) ?_
  refine Tr.nil ?_
  refine at_n ?_
  refine Sat.seq ?_
  refine Sat.region ?_
  refine Tr.alloc (cs := (bytesV (List.replicate 32 0))) rfl Zr32 rfl ?_
  intro n6 hn6 hf6
  refine Tr.nil ?_
  refine at_n ?_
  refine Sat.seq ?_
  refine Sat.draw [(0, 0), (0, 1), (1, 2), (0, 3), (1, 4), (0, 5), (0, 6), (4, 7)] Mixed (by kernel_rfl) ?_
  refine Tr.sliceArrLH 0 8 rfl rfl rfl rfl rfl rfl rfl dE dE dE Tryz.underlying32 Sz5 ?_
  refine Tr.idxArr1 rfl rfl rfl rfl Tryz.underlying120 Sz71 0 rfl dE ?_
  refine Tr.load1 rfl rfl rfl Tryz.underlying71 rfl (by exact mem2) (by rfl) ?_
  refine Tr.idxArr1 rfl rfl rfl rfl Tryz.underlying120 Sz71 1 rfl dE ?_
  refine Tr.load1 rfl rfl rfl Tryz.underlying71 rfl (by exact mem2) (by rfl) ?_
  refine Tr.shl_u64 rfl rfl rfl rfl 51 rfl dE ?_
  refine Tr.or_u64 rfl rfl rfl rfl ?_
  refine Tr.callL (L := [⟨n6, bytesV (List.replicate 32 0), 32, 32⟩]) rfl rfl rfl rfl rfl Body114 (field_put n6 0 8 32 32 (List.replicate 32 0) ((stF w).a ||| shl64 (stF w).b 51) _ dE sP) (pm_cons (by repeat (exact rem_here)) pm_nil) (lent_ok rfl) (fun w h => own_blk h (by exact mem0)) ?_
  rintro v59 out59 rfl
  rw [set8_1]
  refine Tr.nil ?_
  refine at_n ?_
  refine Sat.seq ?_
  refine Sat.draw [(0, 0), (0, 1), (1, 2), (0, 3), (0, 4), (1, 5), (0, 6), (0, 7), (4, 8)] Mixed (by kernel_rfl) ?_
  refine Tr.sliceArrLH 8 16 rfl rfl rfl rfl rfl rfl rfl dE dE dE Tryz.underlying32 Sz5 ?_
  refine Tr.idxArr1 rfl rfl rfl rfl Tryz.underlying120 Sz71 1 rfl dE ?_
  refine Tr.load1 rfl rfl rfl Tryz.underlying71 rfl (by exact mem2) (by rfl) ?_
  refine Tr.shr_u64 rfl rfl rfl rfl 13 rfl dE ?_
  refine Tr.idxArr1 rfl rfl rfl rfl Tryz.underlying120 Sz71 2 rfl dE ?_
  refine Tr.load1 rfl rfl rfl Tryz.underlying71 rfl (by exact mem2) (by rfl) ?_
  refine Tr.shl_u64 rfl rfl rfl rfl 38 rfl dE ?_
  refine Tr.or_u64 rfl rfl rfl rfl ?_
  refine Tr.callL (L := [⟨n6, bytesV (by8 ((stF w).a ||| shl64 (stF w).b 51) ++ List.replicate 24 0), 32, 32⟩]) rfl rfl rfl rfl rfl Body114 (field_put n6 8 8 24 32 (by8 ((stF w).a ||| shl64 (stF w).b 51) ++ List.replicate 24 0) (shr64 (stF w).b 13 ||| shl64 (stF w).c 38) _ dE (by simp [by8_length])) (pm_cons (by repeat (exact rem_here)) pm_nil) (lent_ok rfl) (fun w h => own_blk h (by exact mem0)) ?_
  rintro v68 out68 rfl
  rw [set8_2]
  refine Tr.nil ?_
  refine at_n ?_
  refine Sat.seq ?_
  refine Sat.draw [(0, 0), (0, 1), (1, 2), (0, 3), (0, 4), (1, 5), (0, 6), (0, 7), (4, 8)] Mixed (by kernel_rfl) ?_
  refine Tr.sliceArrLH 16 24 rfl rfl rfl rfl rfl rfl rfl dE dE dE Tryz.underlying32 Sz5 ?_
  refine Tr.idxArr1 rfl rfl rfl rfl Tryz.underlying120 Sz71 2 rfl dE ?_
  refine Tr.load1 rfl rfl rfl Tryz.underlying71 rfl (by exact mem2) (by rfl) ?_
  refine Tr.shr_u64 rfl rfl rfl rfl 26 rfl dE ?_
  refine Tr.idxArr1 rfl rfl rfl rfl Tryz.underlying120 Sz71 3 rfl dE ?_
  refine Tr.load1 rfl rfl rfl Tryz.underlying71 rfl (by exact mem2) (by rfl) ?_
  refine Tr.shl_u64 rfl rfl rfl rfl 25 rfl dE ?_
  refine Tr.or_u64 rfl rfl rfl rfl ?_
  refine Tr.callL (L := [⟨n6, bytesV (by8 ((stF w).a ||| shl64 (stF w).b 51) ++ by8 (shr64 (stF w).b 13 ||| shl64 (stF w).c 38) ++ List.replicate 16 0), 32, 32⟩]) rfl rfl rfl rfl rfl Body114 (field_put n6 16 8 16 32 (by8 ((stF w).a ||| shl64 (stF w).b 51) ++ by8 (shr64 (stF w).b 13 ||| shl64 (stF w).c 38) ++ List.replicate 16 0) (shr64 (stF w).c 26 ||| shl64 (stF w).d 25) _ dE (by simp [by8_length])) (pm_cons (by repeat (exact rem_here)) pm_nil) (lent_ok rfl) (fun w h => own_blk h (by exact mem0)) ?_
  rintro v77 out77 rfl
  rw [set8_3]
  refine Tr.nil ?_
  refine at_n ?_
  refine Sat.seq ?_
  refine Sat.draw [(0, 0), (0, 1), (1, 2), (0, 3), (0, 4), (1, 5), (0, 6), (0, 7), (4, 8)] Mixed (by kernel_rfl) ?_
  refine Tr.sliceArrLH 24 32 rfl rfl rfl rfl rfl rfl rfl dE dE dE Tryz.underlying32 Sz5 ?_
  refine Tr.idxArr1 rfl rfl rfl rfl Tryz.underlying120 Sz71 3 rfl dE ?_
  refine Tr.load1 rfl rfl rfl Tryz.underlying71 rfl (by exact mem2) (by rfl) ?_
  refine Tr.shr_u64 rfl rfl rfl rfl 39 rfl dE ?_
  refine Tr.idxArr1 rfl rfl rfl rfl Tryz.underlying120 Sz71 4 rfl dE ?_
  refine Tr.load1 rfl rfl rfl Tryz.underlying71 rfl (by exact mem2) (by rfl) ?_
  refine Tr.shl_u64 rfl rfl rfl rfl 12 rfl dE ?_
  refine Tr.or_u64 rfl rfl rfl rfl ?_
  refine Tr.callL (L := [⟨n6, bytesV (by8 ((stF w).a ||| shl64 (stF w).b 51) ++ by8 (shr64 (stF w).b 13 ||| shl64 (stF w).c 38) ++ by8 (shr64 (stF w).c 26 ||| shl64 (stF w).d 25) ++ List.replicate 8 0), 32, 32⟩]) rfl rfl rfl rfl rfl Body114 (field_put n6 24 8 8 32 (by8 ((stF w).a ||| shl64 (stF w).b 51) ++ by8 (shr64 (stF w).b 13 ||| shl64 (stF w).c 38) ++ by8 (shr64 (stF w).c 26 ||| shl64 (stF w).d 25) ++ List.replicate 8 0) (shr64 (stF w).d 39 ||| shl64 (stF w).e 12) _ dE (by simp [by8_length])) (pm_cons (by repeat (exact rem_here)) pm_nil) (lent_ok rfl) (fun w h => own_blk h (by exact mem0)) ?_
  rintro v86 out86 rfl
  rw [set8_4]
  refine Tr.nil ?_
  refine at_n ?_
  refine Sat.seq ?_
  refine Sat.region ?_
  refine Tr.loadAll rfl rfl rfl Tryz.underlying32 rfl Sz32 (by exact mem0) (by (simp [by8_length]; done)) ?_
  refine Tr.storeAll rfl rfl rfl rfl (by exact bytesV_cell _) Sz32 (by (simp [by8_length]; done)) (by exact mem1) (by (simp; done)) (by exact upd1) ?_
  refine Tr.nil ?_
  refine at_n ?_
  refine Sat.ret ?_
  refine en_r ?_
  refine ⟨_, [], res_cell rfl rfl Tryz.underlying32 rfl Sz32 (by exact mem1) (by simp [by8_length]), sP, sP, ?_, rfl⟩
  rw [fb_fe, ← store_eq, ← by8_store]

set_option maxRecDepth 100000 in
set_option maxHeartbeats 1000000 in
theorem field_Rest (a : List UInt8) (ha : a.length = 32) : Meets Tryz.prog 110 [agg (bytesV a)] [] (fun _ => True) (fun v out => v = agg (bytesV (fb (fe (le a)))) ∧ out = []) := by
  intro W hW
  refine calls_of (hp0 := []) Tryz.func110 rfl 6 Tryz.ntmps110 rfl (HRep.nil _) ?_
  refine Sat.seq ?_
  refine Sat.region ?_
  refine Tr.boxA rfl rfl ?_
  intro n1 hn1 hf1
  refine Tr.alloc (cs := (bytesV (List.replicate 32 0))) rfl Zr32 rfl ?_
  intro n2 hn2 hf2
  refine Tr.nil ?_
  refine at_n ?_
  refine Sat.seq ?_
  refine Sat.region ?_
  refine Tr.loadAll rfl rfl rfl Tryz.underlying32 rfl Sz32 (by exact mem1) (by (simp [ha]; done)) ?_
  refine Tr.callV rfl rfl rfl rfl Body111 (field_load a ha) (fun _ _ => trivial) ?_
  refine Tr.callV rfl rfl rfl rfl Body113 (field_store (ldN a)) (fun _ _ => trivial) ?_
  refine Tr.storeAll rfl rfl rfl rfl (by exact bytesV_cell _) Sz32 (by (simp [fb_length]; done)) (by exact mem0) (by (simp; done)) (by exact upd0) ?_
  refine Tr.nil ?_
  refine at_n ?_
  refine Sat.ret ?_
  refine en_r ?_
  refine ⟨_, [], res_cell rfl rfl Tryz.underlying32 rfl Sz32 (by exact mem0) (by simp [fb_length]), sP, sP, ?_, rfl⟩
  rw [ldN_v ha]

set_option maxRecDepth 100000 in
set_option maxHeartbeats 1000000 in
theorem field_Canon (a : List UInt8) (ha : a.length = 32) : Meets Tryz.prog 71 [agg (bytesV a)] [] (fun _ => True) (fun v out => v = .bool (decide (fb (fe (le a)) = a)) ∧ out = []) := by
  intro W hW
  refine calls_of (hp0 := []) Tryz.func71 rfl 7 Tryz.ntmps71 rfl (HRep.nil _) ?_
  refine Sat.seq ?_
  refine Sat.region ?_
  refine Tr.boxA rfl rfl ?_
  intro n1 hn1 hf1
  refine Tr.assign rfl rfl rfl ?_
  refine Tr.nil ?_
  refine at_n ?_
  refine Sat.seq ?_
  refine Sat.draw [(1, 0), (1, 2), (3, 1), (0, 3), (0, 4)] Mixed (by kernel_rfl) ?_
  refine Tr.loadAll rfl rfl rfl Tryz.underlying32 rfl Sz32 (by exact mem0) (by (simp [ha]; done)) ?_
  refine Tr.loadAll rfl rfl rfl Tryz.underlying32 rfl Sz32 (by exact mem0) (by (simp [ha]; done)) ?_
  refine Tr.callV rfl rfl rfl rfl Body110 (field_Rest a ha) (fun _ _ => trivial) ?_
  refine Tr.eql_bytes rfl rfl rfl rfl Tryz.eqGuardType32 Tryz.underlying32 Tryz.underlying5 Sz5 (by (simp [fb_length]; done)) (by (simp [ha]; done)) rfl ?_
  refine Tr.assign rfl rfl rfl ?_
  refine Tr.nil ?_
  refine at_n ?_
  refine Sat.ret ?_
  refine en_r ?_
  refine ⟨_, [], res_tmp rfl rfl, sP, sP, ?_, rfl⟩
  rfl

set_option maxRecDepth 100000 in
set_option maxHeartbeats 1000000 in
theorem field_Same (a b : List UInt8) (ha : a.length = 32) (hb : b.length = 32) : Meets Tryz.prog 117 [agg (bytesV a), agg (bytesV b)] [] (fun _ => True) (fun v out => v = .bool (decide (fe (le a) = fe (le b))) ∧ out = []) := by
  intro W hW
  refine calls_of (hp0 := []) Tryz.func117 rfl 10 Tryz.ntmps117 rfl (HRep.nil _) ?_
  refine Sat.seq ?_
  refine Sat.region ?_
  refine Tr.boxA rfl rfl ?_
  intro n2 hn2 hf2
  refine Tr.boxA rfl rfl ?_
  intro n3 hn3 hf3
  refine Tr.assign rfl rfl rfl ?_
  refine Tr.nil ?_
  refine at_n ?_
  refine Sat.seq ?_
  refine Sat.draw [(1, 0), (1, 2), (3, 1), (3, 3), (0, 4), (0, 5)] Mixed (by kernel_rfl) ?_
  refine Tr.loadAll rfl rfl rfl Tryz.underlying32 rfl Sz32 (by exact mem1) (by (simp [ha]; done)) ?_
  refine Tr.loadAll rfl rfl rfl Tryz.underlying32 rfl Sz32 (by exact mem0) (by (simp [hb]; done)) ?_
  refine Tr.callV rfl rfl rfl rfl Body110 (field_Rest a ha) (fun _ _ => trivial) ?_
  refine Tr.callV rfl rfl rfl rfl Body110 (field_Rest b hb) (fun _ _ => trivial) ?_
  refine Tr.eql_bytes rfl rfl rfl rfl Tryz.eqGuardType32 Tryz.underlying32 Tryz.underlying5 Sz5 (by (simp [fb_length]; done)) (by (simp [fb_length]; done)) rfl ?_
  refine Tr.assign rfl rfl rfl ?_
  refine Tr.nil ?_
  refine at_n ?_
  refine Sat.ret ?_
  refine en_r ?_
  refine ⟨_, [], res_tmp rfl rfl, sP, sP, ?_, rfl⟩
  rw [fb_dec]

set_option maxRecDepth 100000 in
set_option maxHeartbeats 1000000 in
theorem field_Odd (a : List UInt8) (ha : a.length = 32) : Meets Tryz.prog 118 [agg (bytesV a)] [] (fun _ => True) (fun v out => v = .bool (decide ((fe (le a)).val % 2 = 1)) ∧ out = []) := by
  intro W hW
  refine calls_of (hp0 := []) Tryz.func118 rfl 8 Tryz.ntmps118 rfl (HRep.nil _) ?_
  refine Sat.seq ?_
  refine Sat.region ?_
  refine Tr.boxA rfl rfl ?_
  intro n1 hn1 hf1
  refine Tr.assign rfl rfl rfl ?_
  refine Tr.nil ?_
  refine at_n ?_
  refine Sat.seq ?_
  refine Sat.region ?_
  refine Tr.loadAll rfl rfl rfl Tryz.underlying32 rfl Sz32 (by exact mem0) (by (simp [ha]; done)) ?_
  refine Tr.callV rfl rfl rfl rfl Body110 (field_Rest a ha) (fun _ _ => trivial) ?_
  refine Tr.idxA1 rfl rfl rfl rfl Tryz.underlying32 Sz5 Tryz.underlying5 rfl 0 rfl oM (by rfl) ?_
  refine Tr.and_u8 rfl rfl rfl (show evIn _ _ = some (u8 1) from rfl) ?_
  refine Tr.eqi rfl rfl rfl rfl rfl ?_
  refine Tr.assign rfl rfl rfl ?_
  refine Tr.nil ?_
  refine at_n ?_
  refine Sat.ret ?_
  refine en_r ?_
  refine ⟨_, [], res_tmp rfl rfl, sP, sP, ?_, rfl⟩
  exact congrArg Value.bool (odd_byte _)

structure PowS where
  k : Nat
  p : W5
  a : UInt64
  b : UInt64
  c : UInt64
  d : UInt64
theorem leb_small (x : UInt64) : leb 8 x.toNat ++ List.replicate 24 0 = leb 32 x.toNat := by
  have h := leb_split 24 8 x.toNat
  rw [show x.toNat / 256 ^ 8 = 0 from Nat.div_eq_of_lt x.toNat_lt] at h
  rw [show leb 24 0 = List.replicate 24 0 from by decide] at h
  exact h.symm

set_option maxRecDepth 100000 in
set_option maxHeartbeats 1000000 in
theorem field_Of (x : UInt64) : Meets Tryz.prog 74 [u64 x] [] (fun _ => True) (fun v out => v = agg (bytesV (fb (fe x.toNat))) ∧ out = []) := by
  intro W hW
  refine calls_of (hp0 := []) Tryz.func74 rfl 8 Tryz.ntmps74 rfl (HRep.nil _) ?_
  refine Sat.seq ?_
  refine Sat.region ?_
  refine Tr.alloc (cs := (bytesV (List.replicate 32 0))) rfl Zr32 rfl ?_
  intro n2 hn2 hf2
  refine Tr.nil ?_
  refine at_n ?_
  refine Sat.seq ?_
  refine Sat.region ?_
  refine Tr.alloc (cs := (bytesV (List.replicate 32 0))) rfl Zr32 rfl ?_
  intro n3 hn3 hf3
  refine Tr.nil ?_
  refine at_n ?_
  refine Sat.seq ?_
  refine Sat.region ?_
  refine Tr.sliceArrHi 8 rfl rfl rfl rfl rfl dE dE Tryz.underlying32 Sz5 ?_
  refine Tr.move rfl rfl rfl ?_
  refine Tr.callL (L := [⟨n3, bytesV (List.replicate 32 0), 32, 32⟩]) rfl rfl rfl rfl rfl Body114 (field_put n3 0 8 32 32 (List.replicate 32 0) (x) _ dE sP) (pm_cons (by repeat (exact rem_here)) pm_nil) (lent_ok rfl) (fun w h => own_blk h (by exact mem0)) ?_
  rintro v6 out6 rfl
  rw [set8_1]
  refine Tr.nil ?_
  refine at_n ?_
  refine Sat.seq ?_
  refine Sat.region ?_
  refine Tr.loadAll rfl rfl rfl Tryz.underlying32 rfl Sz32 (by exact mem0) (by (simp [by8_length]; done)) ?_
  refine Tr.storeAll rfl rfl rfl rfl (by exact bytesV_cell _) Sz32 (by (simp [by8_length]; done)) (by exact mem1) (by (simp; done)) (by exact upd1) ?_
  refine Tr.nil ?_
  refine at_n ?_
  refine Sat.ret ?_
  refine en_r ?_
  refine ⟨_, [], res_cell rfl rfl Tryz.underlying32 rfl Sz32 (by exact mem1) (by simp [by8_length]), sP, sP, ?_, rfl⟩
  rw [fe_small, by8_eq]
  exact congrArg (fun l => agg (bytesV l)) (leb_small x)

set_option maxRecDepth 100000 in
set_option maxHeartbeats 2000000 in
theorem field_Add (a b : List UInt8) (ha : a.length = 32) (hb : b.length = 32) : Meets Tryz.prog 75 [agg (bytesV a), agg (bytesV b)] [] (fun _ => True) (fun v out => v = agg (bytesV (fb (fe (le a) + fe (le b)))) ∧ out = []) := by
  intro W hW
  refine calls_of (hp0 := []) Tryz.func75 rfl 26 Tryz.ntmps75 rfl (HRep.nil _) ?_
  refine Sat.seq ?_
  refine Sat.region ?_
  refine Tr.boxA rfl rfl ?_
  intro n2 hn2 hf2
  refine Tr.boxA rfl rfl ?_
  intro n3 hn3 hf3
  refine Tr.alloc (cs := (bytesV (List.replicate 32 0))) rfl Zr32 rfl ?_
  intro n4 hn4 hf4
  refine Tr.nil ?_
  refine at_n ?_
  refine Sat.seq ?_
  refine Sat.draw [(1, 0), (1, 2), (3, 1), (3, 3), (2, 4), (2, 5), (4, 6), (4, 7)] Mixed (by kernel_rfl) ?_
  refine Tr.loadAll rfl rfl rfl Tryz.underlying32 rfl Sz32 (by exact mem2) (by (simp [ha]; done)) ?_
  refine Tr.loadAll rfl rfl rfl Tryz.underlying32 rfl Sz32 (by exact mem1) (by (simp [hb]; done)) ?_
  refine Tr.callV rfl rfl rfl rfl Body111 (field_load a ha) (fun _ _ => trivial) ?_
  refine Tr.callV rfl rfl rfl rfl Body111 (field_load b hb) (fun _ _ => trivial) ?_
  refine Tr.alloc (cs := (wordsV (List.replicate 5 0))) rfl Zr120 rfl ?_
  intro n5 hn5 hf5
  refine Tr.alloc (cs := (wordsV (List.replicate 5 0))) rfl Zr120 rfl ?_
  intro n6 hn6 hf6
  refine Tr.storeAll rfl rfl rfl rfl (by simp [isCell]) Sz120 (by (simp [W5.l_length]; done)) (by exact mem1) (by (simp; done)) (by exact upd1) ?_
  refine Tr.storeAll rfl rfl rfl rfl (by simp [isCell]) Sz120 (by (simp [W5.l_length]; done)) (by exact mem0) (by (simp; done)) (by exact upd0) ?_
  refine Tr.nil ?_
  refine at_n ?_
  refine Sat.seq ?_
  refine Sat.seq ?_
  refine Sat.region ?_
  refine Tr.move rfl rfl rfl ?_
  refine Tr.nil ?_
  refine at_n ?_
  refine Sat.block ?_
  refine Sat.rounds 6 (SRounds.more ?_)
  refine Sat.seq ?_
  refine Sat.region ?_
  refine Tr.lss rfl rfl rfl rfl rfl ?_
  refine Tr.nil ?_
  refine at_n ?_
  refine Sat.seq ?_
  refine Sat.cond_t rfl (rfl) ?_
  refine Sat.skip ?_
  refine at_n ?_
  refine Sat.seq ?_
  refine Sat.block ?_
  refine Sat.seq ?_
  refine Sat.region ?_
  refine Tr.move rfl rfl rfl ?_
  refine Tr.assign rfl rfl rfl ?_
  refine Tr.nil ?_
  refine at_n ?_
  refine Sat.draw [(0, 0), (0, 1), (1, 2), (0, 3), (0, 4), (1, 5), (0, 6), (0, 7), (4, 8)] Mixed (by kernel_rfl) ?_
  refine Tr.move rfl rfl rfl ?_
  refine Tr.idxArr1 rfl rfl rfl rfl Tryz.underlying120 Sz71 0 rfl oM ?_
  refine Tr.load1 rfl rfl rfl Tryz.underlying71 rfl (by exact mem1) (by rfl) ?_
  refine Tr.move rfl rfl rfl ?_
  refine Tr.idxArr1 rfl rfl rfl rfl Tryz.underlying120 Sz71 0 rfl oM ?_
  refine Tr.load1 rfl rfl rfl Tryz.underlying71 rfl (by exact mem0) (by rfl) ?_
  refine Tr.add_u64 rfl rfl rfl rfl ?_
  refine Tr.idxArr1 rfl rfl rfl rfl Tryz.underlying120 Sz71 0 rfl oM ?_
  refine Tr.store1 rfl rfl rfl rfl rfl Sz71 (by exact mem1) (by (simp [W5.l_length]; done)) (by exact set_words _ _ _) (by exact upd1) ?_
  refine Tr.nil ?_
  refine bl_n ?_
  refine at_n ?_
  refine Sat.region ?_
  refine Tr.add_i64 rfl rfl rfl rfl oM ?_
  refine Tr.move rfl rfl rfl ?_
  refine Tr.nil ?_
  refine at_n (SRounds.more ?_)
  refine Sat.seq ?_
  refine Sat.region ?_
  refine Tr.lss rfl rfl rfl rfl rfl ?_
  refine Tr.nil ?_
  refine at_n ?_
  refine Sat.seq ?_
  refine Sat.cond_t rfl (rfl) ?_
  refine Sat.skip ?_
  refine at_n ?_
  refine Sat.seq ?_
  refine Sat.block ?_
  refine Sat.seq ?_
  refine Sat.region ?_
  refine Tr.move rfl rfl rfl ?_
  refine Tr.assign rfl rfl rfl ?_
  refine Tr.nil ?_
  refine at_n ?_
  refine Sat.draw [(0, 0), (0, 1), (1, 2), (0, 3), (0, 4), (1, 5), (0, 6), (0, 7), (4, 8)] Mixed (by kernel_rfl) ?_
  refine Tr.move rfl rfl rfl ?_
  refine Tr.idxArr1 rfl rfl rfl rfl Tryz.underlying120 Sz71 1 rfl oM ?_
  refine Tr.load1 rfl rfl rfl Tryz.underlying71 rfl (by exact mem1) (by rfl) ?_
  refine Tr.move rfl rfl rfl ?_
  refine Tr.idxArr1 rfl rfl rfl rfl Tryz.underlying120 Sz71 1 rfl oM ?_
  refine Tr.load1 rfl rfl rfl Tryz.underlying71 rfl (by exact mem0) (by rfl) ?_
  refine Tr.add_u64 rfl rfl rfl rfl ?_
  refine Tr.idxArr1 rfl rfl rfl rfl Tryz.underlying120 Sz71 1 rfl oM ?_
  refine Tr.store1 rfl rfl rfl rfl rfl Sz71 (by exact mem1) (by (simp [W5.l_length]; done)) (by exact set_words _ _ _) (by exact upd1) ?_
  refine Tr.nil ?_
  refine bl_n ?_
  refine at_n ?_
  refine Sat.region ?_
  refine Tr.add_i64 rfl rfl rfl rfl oM ?_
  refine Tr.move rfl rfl rfl ?_
  refine Tr.nil ?_
  refine at_n (SRounds.more ?_)
  refine Sat.seq ?_
  refine Sat.region ?_
  refine Tr.lss rfl rfl rfl rfl rfl ?_
  refine Tr.nil ?_
  refine at_n ?_
  refine Sat.seq ?_
  refine Sat.cond_t rfl (rfl) ?_
  refine Sat.skip ?_
  refine at_n ?_
  refine Sat.seq ?_
  refine Sat.block ?_
  refine Sat.seq ?_
  refine Sat.region ?_
  refine Tr.move rfl rfl rfl ?_
  refine Tr.assign rfl rfl rfl ?_
  refine Tr.nil ?_
  refine at_n ?_
  refine Sat.draw [(0, 0), (0, 1), (1, 2), (0, 3), (0, 4), (1, 5), (0, 6), (0, 7), (4, 8)] Mixed (by kernel_rfl) ?_
  refine Tr.move rfl rfl rfl ?_
  refine Tr.idxArr1 rfl rfl rfl rfl Tryz.underlying120 Sz71 2 rfl oM ?_
  refine Tr.load1 rfl rfl rfl Tryz.underlying71 rfl (by exact mem1) (by rfl) ?_
  refine Tr.move rfl rfl rfl ?_
  refine Tr.idxArr1 rfl rfl rfl rfl Tryz.underlying120 Sz71 2 rfl oM ?_
  refine Tr.load1 rfl rfl rfl Tryz.underlying71 rfl (by exact mem0) (by rfl) ?_
  refine Tr.add_u64 rfl rfl rfl rfl ?_
  refine Tr.idxArr1 rfl rfl rfl rfl Tryz.underlying120 Sz71 2 rfl oM ?_
  refine Tr.store1 rfl rfl rfl rfl rfl Sz71 (by exact mem1) (by (simp [W5.l_length]; done)) (by exact set_words _ _ _) (by exact upd1) ?_
  refine Tr.nil ?_
  refine bl_n ?_
  refine at_n ?_
  refine Sat.region ?_
  refine Tr.add_i64 rfl rfl rfl rfl oM ?_
  refine Tr.move rfl rfl rfl ?_
  refine Tr.nil ?_
  refine at_n (SRounds.more ?_)
  refine Sat.seq ?_
  refine Sat.region ?_
  refine Tr.lss rfl rfl rfl rfl rfl ?_
  refine Tr.nil ?_
  refine at_n ?_
  refine Sat.seq ?_
  refine Sat.cond_t rfl (rfl) ?_
  refine Sat.skip ?_
  refine at_n ?_
  refine Sat.seq ?_
  refine Sat.block ?_
  refine Sat.seq ?_
  refine Sat.region ?_
  refine Tr.move rfl rfl rfl ?_
  refine Tr.assign rfl rfl rfl ?_
  refine Tr.nil ?_
  refine at_n ?_
  refine Sat.draw [(0, 0), (0, 1), (1, 2), (0, 3), (0, 4), (1, 5), (0, 6), (0, 7), (4, 8)] Mixed (by kernel_rfl) ?_
  refine Tr.move rfl rfl rfl ?_
  refine Tr.idxArr1 rfl rfl rfl rfl Tryz.underlying120 Sz71 3 rfl oM ?_
  refine Tr.load1 rfl rfl rfl Tryz.underlying71 rfl (by exact mem1) (by rfl) ?_
  refine Tr.move rfl rfl rfl ?_
  refine Tr.idxArr1 rfl rfl rfl rfl Tryz.underlying120 Sz71 3 rfl oM ?_
  refine Tr.load1 rfl rfl rfl Tryz.underlying71 rfl (by exact mem0) (by rfl) ?_
  refine Tr.add_u64 rfl rfl rfl rfl ?_
  refine Tr.idxArr1 rfl rfl rfl rfl Tryz.underlying120 Sz71 3 rfl oM ?_
  refine Tr.store1 rfl rfl rfl rfl rfl Sz71 (by exact mem1) (by (simp [W5.l_length]; done)) (by exact set_words _ _ _) (by exact upd1) ?_
  refine Tr.nil ?_
  refine bl_n ?_
  refine at_n ?_
  refine Sat.region ?_
  refine Tr.add_i64 rfl rfl rfl rfl oM ?_
  refine Tr.move rfl rfl rfl ?_
  refine Tr.nil ?_
  refine at_n (SRounds.more ?_)
  refine Sat.seq ?_
  refine Sat.region ?_
  refine Tr.lss rfl rfl rfl rfl rfl ?_
  refine Tr.nil ?_
  refine at_n ?_
  refine Sat.seq ?_
  refine Sat.cond_t rfl (rfl) ?_
  refine Sat.skip ?_
  refine at_n ?_
  refine Sat.seq ?_
  refine Sat.block ?_
  refine Sat.seq ?_
  refine Sat.region ?_
  refine Tr.move rfl rfl rfl ?_
  refine Tr.assign rfl rfl rfl ?_
  refine Tr.nil ?_
  refine at_n ?_
  refine Sat.draw [(0, 0), (0, 1), (1, 2), (0, 3), (0, 4), (1, 5), (0, 6), (0, 7), (4, 8)] Mixed (by kernel_rfl) ?_
  refine Tr.move rfl rfl rfl ?_
  refine Tr.idxArr1 rfl rfl rfl rfl Tryz.underlying120 Sz71 4 rfl oM ?_
  refine Tr.load1 rfl rfl rfl Tryz.underlying71 rfl (by exact mem1) (by rfl) ?_
  refine Tr.move rfl rfl rfl ?_
  refine Tr.idxArr1 rfl rfl rfl rfl Tryz.underlying120 Sz71 4 rfl oM ?_
  refine Tr.load1 rfl rfl rfl Tryz.underlying71 rfl (by exact mem0) (by rfl) ?_
  refine Tr.add_u64 rfl rfl rfl rfl ?_
  refine Tr.idxArr1 rfl rfl rfl rfl Tryz.underlying120 Sz71 4 rfl oM ?_
  refine Tr.store1 rfl rfl rfl rfl rfl Sz71 (by exact mem1) (by (simp [W5.l_length]; done)) (by exact set_words _ _ _) (by exact upd1) ?_
  refine Tr.nil ?_
  refine bl_n ?_
  refine at_n ?_
  refine Sat.region ?_
  refine Tr.add_i64 rfl rfl rfl rfl oM ?_
  refine Tr.move rfl rfl rfl ?_
  refine Tr.nil ?_
  refine at_n (SRounds.more ?_)
  refine Sat.seq ?_
  refine Sat.region ?_
  refine Tr.lss rfl rfl rfl rfl rfl ?_
  refine Tr.nil ?_
  refine at_n ?_
  refine Sat.seq ?_
  refine Sat.cond_f rfl (rfl) ?_
  refine Sat.exit ?_
  refine at_x ?_
  refine at_x ?_
  refine bl_h ?_
  refine at_n ?_
  refine Sat.seq ?_
  refine Sat.region ?_
  refine Tr.loadAll rfl rfl rfl Tryz.underlying120 rfl Sz120 (by exact mem1) (by (simp [W5.l_length]; done)) ?_
  refine Tr.callV rfl rfl rfl rfl Body113 (field_store (addF (ldN a) (ldN b))) (fun _ _ => trivial) ?_
  refine Tr.storeAll rfl rfl rfl rfl (by exact bytesV_cell _) Sz32 (by (simp [fb_length]; done)) (by exact mem2) (by (simp; done)) (by exact upd2) ?_
  refine Tr.nil ?_
  refine at_n ?_
  refine Sat.ret ?_
  refine en_r ?_
  refine ⟨_, [], res_cell rfl rfl Tryz.underlying32 rfl Sz32 (by exact mem2) (by simp [fb_length]), sP, sP, ?_, rfl⟩
  rw [addF_fe ha hb]

set_option maxRecDepth 100000 in
set_option maxHeartbeats 2000000 in
theorem field_Sub (a b : List UInt8) (ha : a.length = 32) (hb : b.length = 32) : Meets Tryz.prog 73 [agg (bytesV a), agg (bytesV b)] [] (fun _ => True) (fun v out => v = agg (bytesV (fb (fe (le a) - fe (le b)))) ∧ out = []) := by
  intro W hW
  refine calls_of (hp0 := []) Tryz.func73 rfl 34 Tryz.ntmps73 rfl (HRep.nil _) ?_
  refine Sat.seq ?_
  refine Sat.region ?_
  refine Tr.boxA rfl rfl ?_
  intro n2 hn2 hf2
  refine Tr.boxA rfl rfl ?_
  intro n3 hn3 hf3
  refine Tr.alloc (cs := (bytesV (List.replicate 32 0))) rfl Zr32 rfl ?_
  intro n4 hn4 hf4
  refine Tr.nil ?_
  refine at_n ?_
  refine Sat.seq ?_
  refine Sat.draw [(1, 0), (1, 2), (3, 1), (3, 3), (2, 4), (2, 5), (4, 6), (4, 7)] Mixed (by kernel_rfl) ?_
  refine Tr.loadAll rfl rfl rfl Tryz.underlying32 rfl Sz32 (by exact mem2) (by (simp [ha]; done)) ?_
  refine Tr.loadAll rfl rfl rfl Tryz.underlying32 rfl Sz32 (by exact mem1) (by (simp [hb]; done)) ?_
  refine Tr.callV rfl rfl rfl rfl Body111 (field_load a ha) (fun _ _ => trivial) ?_
  refine Tr.callV rfl rfl rfl rfl Body111 (field_load b hb) (fun _ _ => trivial) ?_
  refine Tr.alloc (cs := (wordsV (List.replicate 5 0))) rfl Zr120 rfl ?_
  intro n5 hn5 hf5
  refine Tr.alloc (cs := (wordsV (List.replicate 5 0))) rfl Zr120 rfl ?_
  intro n6 hn6 hf6
  refine Tr.storeAll rfl rfl rfl rfl (by simp [isCell]) Sz120 (by (simp [W5.l_length]; done)) (by exact mem1) (by (simp; done)) (by exact upd1) ?_
  refine Tr.storeAll rfl rfl rfl rfl (by simp [isCell]) Sz120 (by (simp [W5.l_length]; done)) (by exact mem0) (by (simp; done)) (by exact upd0) ?_
  refine Tr.nil ?_
  refine at_n ?_
  refine Sat.seq ?_
  refine Sat.region ?_
  refine Tr.idxArr1 rfl rfl rfl rfl Tryz.underlying120 Sz71 0 rfl dE ?_
  refine Tr.load1 rfl rfl rfl Tryz.underlying71 rfl (by exact mem1) (by rfl) ?_
  refine Tr.idxArr1 rfl rfl rfl rfl Tryz.underlying120 Sz71 0 rfl dE ?_
  refine Tr.load1 rfl rfl rfl Tryz.underlying71 rfl (by exact mem0) (by rfl) ?_
  refine Tr.sub_u64 rfl rfl (show evIn _ _ = some (u64 9007199254740916) from rfl) rfl ?_
  refine Tr.add_u64 rfl rfl rfl rfl ?_
  refine Tr.idxArr1 rfl rfl rfl rfl Tryz.underlying120 Sz71 0 rfl dE ?_
  refine Tr.store1 rfl rfl rfl rfl rfl Sz71 (by exact mem1) (by (simp [W5.l_length]; done)) (by exact set_words _ _ _) (by exact upd1) ?_
  refine Tr.nil ?_
  refine at_n ?_
  refine Sat.seq ?_
  refine Sat.seq ?_
  refine Sat.region ?_
  refine Tr.assign rfl rfl rfl ?_
  refine Tr.nil ?_
  refine at_n ?_
  refine Sat.block ?_
  refine Sat.rounds 5 (SRounds.more ?_)
  refine Sat.seq ?_
  refine Sat.seq ?_
  refine Sat.region ?_
  refine Tr.move rfl rfl rfl ?_
  refine Tr.lss rfl rfl rfl rfl rfl ?_
  refine Tr.nil ?_
  refine at_n ?_
  refine Sat.cond_t rfl (rfl) ?_
  refine Sat.skip ?_
  refine at_n ?_
  refine Sat.seq ?_
  refine Sat.block ?_
  refine Sat.draw [(0, 0), (0, 1), (1, 2), (0, 3), (0, 4), (1, 5), (0, 6), (0, 7), (0, 8), (4, 9)] Mixed (by kernel_rfl) ?_
  refine Tr.move rfl rfl rfl ?_
  refine Tr.idxArr1 rfl rfl rfl rfl Tryz.underlying120 Sz71 1 rfl oM ?_
  refine Tr.load1 rfl rfl rfl Tryz.underlying71 rfl (by exact mem1) (by rfl) ?_
  refine Tr.move rfl rfl rfl ?_
  refine Tr.idxArr1 rfl rfl rfl rfl Tryz.underlying120 Sz71 1 rfl oM ?_
  refine Tr.load1 rfl rfl rfl Tryz.underlying71 rfl (by exact mem0) (by rfl) ?_
  refine Tr.sub_u64 rfl rfl (show evIn _ _ = some (u64 9007199254740988) from rfl) rfl ?_
  refine Tr.add_u64 rfl rfl rfl rfl ?_
  refine Tr.idxArr1 rfl rfl rfl rfl Tryz.underlying120 Sz71 1 rfl oM ?_
  refine Tr.store1 rfl rfl rfl rfl rfl Sz71 (by exact mem1) (by (simp [W5.l_length]; done)) (by exact set_words _ _ _) (by exact upd1) ?_
  refine Tr.nil ?_
  refine bl_n ?_
  refine at_n ?_
  refine Sat.region ?_
  refine Tr.move rfl rfl rfl ?_
  refine Tr.add_i64 rfl rfl rfl rfl oM ?_
  refine Tr.assign rfl rfl rfl ?_
  refine Tr.nil ?_
  refine at_n (SRounds.more ?_)
  refine Sat.seq ?_
  refine Sat.seq ?_
  refine Sat.region ?_
  refine Tr.move rfl rfl rfl ?_
  refine Tr.lss rfl rfl rfl rfl rfl ?_
  refine Tr.nil ?_
  refine at_n ?_
  refine Sat.cond_t rfl (rfl) ?_
  refine Sat.skip ?_
  refine at_n ?_
  refine Sat.seq ?_
  refine Sat.block ?_
  refine Sat.draw [(0, 0), (0, 1), (1, 2), (0, 3), (0, 4), (1, 5), (0, 6), (0, 7), (0, 8), (4, 9)] Mixed (by kernel_rfl) ?_
  refine Tr.move rfl rfl rfl ?_
  refine Tr.idxArr1 rfl rfl rfl rfl Tryz.underlying120 Sz71 2 rfl oM ?_
  refine Tr.load1 rfl rfl rfl Tryz.underlying71 rfl (by exact mem1) (by rfl) ?_
  refine Tr.move rfl rfl rfl ?_
  refine Tr.idxArr1 rfl rfl rfl rfl Tryz.underlying120 Sz71 2 rfl oM ?_
  refine Tr.load1 rfl rfl rfl Tryz.underlying71 rfl (by exact mem0) (by rfl) ?_
  refine Tr.sub_u64 rfl rfl (show evIn _ _ = some (u64 9007199254740988) from rfl) rfl ?_
  refine Tr.add_u64 rfl rfl rfl rfl ?_
  refine Tr.idxArr1 rfl rfl rfl rfl Tryz.underlying120 Sz71 2 rfl oM ?_
  refine Tr.store1 rfl rfl rfl rfl rfl Sz71 (by exact mem1) (by (simp [W5.l_length]; done)) (by exact set_words _ _ _) (by exact upd1) ?_
  refine Tr.nil ?_
  refine bl_n ?_
  refine at_n ?_
  refine Sat.region ?_
  refine Tr.move rfl rfl rfl ?_
  refine Tr.add_i64 rfl rfl rfl rfl oM ?_
  refine Tr.assign rfl rfl rfl ?_
  refine Tr.nil ?_
  refine at_n (SRounds.more ?_)
  refine Sat.seq ?_
  refine Sat.seq ?_
  refine Sat.region ?_
  refine Tr.move rfl rfl rfl ?_
  refine Tr.lss rfl rfl rfl rfl rfl ?_
  refine Tr.nil ?_
  refine at_n ?_
  refine Sat.cond_t rfl (rfl) ?_
  refine Sat.skip ?_
  refine at_n ?_
  refine Sat.seq ?_
  refine Sat.block ?_
  refine Sat.draw [(0, 0), (0, 1), (1, 2), (0, 3), (0, 4), (1, 5), (0, 6), (0, 7), (0, 8), (4, 9)] Mixed (by kernel_rfl) ?_
  refine Tr.move rfl rfl rfl ?_
  refine Tr.idxArr1 rfl rfl rfl rfl Tryz.underlying120 Sz71 3 rfl oM ?_
  refine Tr.load1 rfl rfl rfl Tryz.underlying71 rfl (by exact mem1) (by rfl) ?_
  refine Tr.move rfl rfl rfl ?_
  refine Tr.idxArr1 rfl rfl rfl rfl Tryz.underlying120 Sz71 3 rfl oM ?_
  refine Tr.load1 rfl rfl rfl Tryz.underlying71 rfl (by exact mem0) (by rfl) ?_
  refine Tr.sub_u64 rfl rfl (show evIn _ _ = some (u64 9007199254740988) from rfl) rfl ?_
  refine Tr.add_u64 rfl rfl rfl rfl ?_
  refine Tr.idxArr1 rfl rfl rfl rfl Tryz.underlying120 Sz71 3 rfl oM ?_
  refine Tr.store1 rfl rfl rfl rfl rfl Sz71 (by exact mem1) (by (simp [W5.l_length]; done)) (by exact set_words _ _ _) (by exact upd1) ?_
  refine Tr.nil ?_
  refine bl_n ?_
  refine at_n ?_
  refine Sat.region ?_
  refine Tr.move rfl rfl rfl ?_
  refine Tr.add_i64 rfl rfl rfl rfl oM ?_
  refine Tr.assign rfl rfl rfl ?_
  refine Tr.nil ?_
  refine at_n (SRounds.more ?_)
  refine Sat.seq ?_
  refine Sat.seq ?_
  refine Sat.region ?_
  refine Tr.move rfl rfl rfl ?_
  refine Tr.lss rfl rfl rfl rfl rfl ?_
  refine Tr.nil ?_
  refine at_n ?_
  refine Sat.cond_t rfl (rfl) ?_
  refine Sat.skip ?_
  refine at_n ?_
  refine Sat.seq ?_
  refine Sat.block ?_
  refine Sat.draw [(0, 0), (0, 1), (1, 2), (0, 3), (0, 4), (1, 5), (0, 6), (0, 7), (0, 8), (4, 9)] Mixed (by kernel_rfl) ?_
  refine Tr.move rfl rfl rfl ?_
  refine Tr.idxArr1 rfl rfl rfl rfl Tryz.underlying120 Sz71 4 rfl oM ?_
  refine Tr.load1 rfl rfl rfl Tryz.underlying71 rfl (by exact mem1) (by rfl) ?_
  refine Tr.move rfl rfl rfl ?_
  refine Tr.idxArr1 rfl rfl rfl rfl Tryz.underlying120 Sz71 4 rfl oM ?_
  refine Tr.load1 rfl rfl rfl Tryz.underlying71 rfl (by exact mem0) (by rfl) ?_
  refine Tr.sub_u64 rfl rfl (show evIn _ _ = some (u64 9007199254740988) from rfl) rfl ?_
  refine Tr.add_u64 rfl rfl rfl rfl ?_
  refine Tr.idxArr1 rfl rfl rfl rfl Tryz.underlying120 Sz71 4 rfl oM ?_
  refine Tr.store1 rfl rfl rfl rfl rfl Sz71 (by exact mem1) (by (simp [W5.l_length]; done)) (by exact set_words _ _ _) (by exact upd1) ?_
  refine Tr.nil ?_
  refine bl_n ?_
  refine at_n ?_
  refine Sat.region ?_
  refine Tr.move rfl rfl rfl ?_
  refine Tr.add_i64 rfl rfl rfl rfl oM ?_
  refine Tr.assign rfl rfl rfl ?_
  refine Tr.nil ?_
  refine at_n (SRounds.more ?_)
  refine Sat.seq ?_
  refine Sat.seq ?_
  refine Sat.region ?_
  refine Tr.move rfl rfl rfl ?_
  refine Tr.lss rfl rfl rfl rfl rfl ?_
  refine Tr.nil ?_
  refine at_n ?_
  refine Sat.cond_f rfl (rfl) ?_
  refine Sat.exit ?_
  refine at_x ?_
  refine at_x ?_
  refine bl_h ?_
  refine at_n ?_
  refine Sat.seq ?_
  refine Sat.region ?_
  refine Tr.loadAll rfl rfl rfl Tryz.underlying120 rfl Sz120 (by exact mem1) (by (simp [W5.l_length]; done)) ?_
  refine Tr.callV rfl rfl rfl rfl Body113 (field_store (subF (ldN a) (ldN b))) (fun _ _ => trivial) ?_
  refine Tr.storeAll rfl rfl rfl rfl (by exact bytesV_cell _) Sz32 (by (simp [fb_length]; done)) (by exact mem2) (by (simp; done)) (by exact upd2) ?_
  refine Tr.nil ?_
  refine at_n ?_
  refine Sat.ret ?_
  refine en_r ?_
  refine ⟨_, [], res_cell rfl rfl Tryz.underlying32 rfl Sz32 (by exact mem2) (by simp [fb_length]), sP, sP, ?_, rfl⟩
  rw [subL_fe ha hb]

set_option maxRecDepth 100000 in
set_option maxHeartbeats 1000000 in
theorem field_Neg (a : List UInt8) (ha : a.length = 32) : Meets Tryz.prog 79 [agg (bytesV a)] [] (fun _ => True) (fun v out => v = agg (bytesV (fb (- fe (le a)))) ∧ out = []) := by
  intro W hW
  refine calls_of (hp0 := []) Tryz.func79 rfl 6 Tryz.ntmps79 rfl (HRep.nil _) ?_
  refine Sat.seq ?_
  refine Sat.region ?_
  refine Tr.boxA rfl rfl ?_
  intro n1 hn1 hf1
  refine Tr.alloc (cs := (bytesV (List.replicate 32 0))) rfl Zr32 rfl ?_
  intro n2 hn2 hf2
  refine Tr.nil ?_
  refine at_n ?_
  refine Sat.seq ?_
  refine Sat.region ?_
  refine Tr.build (cs := bytesV (List.replicate 32 0)) rfl rfl rfl (fun w => by kernel_rfl) ?_
  refine Tr.loadAll rfl rfl rfl Tryz.underlying32 rfl Sz32 (by exact mem1) (by (simp [ha]; done)) ?_
  refine Tr.callV rfl rfl rfl rfl Body73 (field_Sub (List.replicate 32 0) a rfl ha) (fun _ _ => trivial) ?_
  refine Tr.storeAll rfl rfl rfl rfl (by exact bytesV_cell _) Sz32 (by (simp [fb_length]; done)) (by exact mem0) (by (simp; done)) (by exact upd0) ?_
  refine Tr.nil ?_
  refine at_n ?_
  refine Sat.ret ?_
  refine en_r ?_
  refine ⟨_, [], res_cell rfl rfl Tryz.underlying32 rfl Sz32 (by exact mem0) (by simp [fb_length]), sP, sP, ?_, rfl⟩
  rw [show fe (le (List.replicate 32 0)) - fe (le a) = - fe (le a) from by rw [show fe (le (List.replicate 32 0)) = 0 by kernel_rfl]; grind]

set_option maxRecDepth 100000 in
set_option maxHeartbeats 1000000 in
theorem field_Mul (a b : List UInt8) (ha : a.length = 32) (hb : b.length = 32) : Meets Tryz.prog 72 [agg (bytesV a), agg (bytesV b)] [] (fun _ => True) (fun v out => v = agg (bytesV (fb (fe (le a) * fe (le b)))) ∧ out = []) := by
  intro W hW
  refine calls_of (hp0 := []) Tryz.func72 rfl 13 Tryz.ntmps72 rfl (HRep.nil _) ?_
  refine Sat.seq ?_
  refine Sat.region ?_
  refine Tr.boxA rfl rfl ?_
  intro n2 hn2 hf2
  refine Tr.boxA rfl rfl ?_
  intro n3 hn3 hf3
  refine Tr.alloc (cs := (bytesV (List.replicate 32 0))) rfl Zr32 rfl ?_
  intro n4 hn4 hf4
  refine Tr.nil ?_
  refine at_n ?_
  refine Sat.seq ?_
  refine Sat.draw [(1, 0), (1, 2), (3, 1), (3, 3), (2, 4), (2, 5), (4, 6), (4, 7)] Mixed (by kernel_rfl) ?_
  refine Tr.loadAll rfl rfl rfl Tryz.underlying32 rfl Sz32 (by exact mem2) (by (simp [ha]; done)) ?_
  refine Tr.loadAll rfl rfl rfl Tryz.underlying32 rfl Sz32 (by exact mem1) (by (simp [hb]; done)) ?_
  refine Tr.callV rfl rfl rfl rfl Body111 (field_load a ha) (fun _ _ => trivial) ?_
  refine Tr.callV rfl rfl rfl rfl Body111 (field_load b hb) (fun _ _ => trivial) ?_
  refine Tr.alloc (cs := (wordsV (List.replicate 5 0))) rfl Zr120 rfl ?_
  intro n5 hn5 hf5
  refine Tr.alloc (cs := (wordsV (List.replicate 5 0))) rfl Zr120 rfl ?_
  intro n6 hn6 hf6
  refine Tr.storeAll rfl rfl rfl rfl (by simp [isCell]) Sz120 (by (simp [W5.l_length]; done)) (by exact mem1) (by (simp; done)) (by exact upd1) ?_
  refine Tr.storeAll rfl rfl rfl rfl (by simp [isCell]) Sz120 (by (simp [W5.l_length]; done)) (by exact mem0) (by (simp; done)) (by exact upd0) ?_
  refine Tr.nil ?_
  refine at_n ?_
  refine Sat.seq ?_
  refine Sat.region ?_
  refine Tr.callV rfl rfl rfl rfl Body112 (field_product n5 n6 (ldN a) (ldN b)) (fun w h => ⟨sees_own h (by exact mem1), sees_own h (by exact mem0)⟩) ?_
  refine Tr.callV rfl rfl rfl rfl Body113 (field_store (mulF (ldN a) (ldN b))) (fun _ _ => trivial) ?_
  refine Tr.storeAll rfl rfl rfl rfl (by exact bytesV_cell _) Sz32 (by (simp [fb_length]; done)) (by exact mem2) (by (simp; done)) (by exact upd2) ?_
  refine Tr.nil ?_
  refine at_n ?_
  refine Sat.ret ?_
  refine en_r ?_
  refine ⟨_, [], res_cell rfl rfl Tryz.underlying32 rfl Sz32 (by exact mem2) (by simp [fb_length]), sP, sP, ?_, rfl⟩
  rw [mulL_fe ha hb]

set_option maxRecDepth 100000 in
set_option maxHeartbeats 1000000 in
theorem field_shifted (a b c d : UInt64) : Meets Tryz.prog 135 [agg (wordsV [a, b, c, d])] [] (fun _ => True) (fun v out => v = agg (wordsV [shl64 a 1, shl64 b 1 ||| shr64 a 63, shl64 c 1 ||| shr64 b 63, shl64 d 1 ||| shr64 c 63]) ∧ out = []) := by
  intro W hW
  refine calls_of (hp0 := []) Tryz.func135 rfl 25 Tryz.ntmps135 rfl (HRep.nil _) ?_
  refine Sat.seq ?_
  refine Sat.region ?_
  refine Tr.boxA rfl rfl ?_
  intro n1 hn1 hf1
  refine Tr.alloc (cs := (wordsV (List.replicate 4 0))) rfl Zr92 rfl ?_
  intro n2 hn2 hf2
  refine Tr.nil ?_
  refine at_n ?_
  refine Sat.seq ?_
  refine Sat.seq ?_
  refine Sat.region ?_
  refine Tr.assign rfl rfl rfl ?_
  refine Tr.nil ?_
  refine at_n ?_
  refine Sat.block ?_
  refine Sat.rounds 4 (SRounds.more ?_)
  refine Sat.seq ?_
  refine Sat.seq ?_
  refine Sat.region ?_
  refine Tr.move rfl rfl rfl ?_
  refine Tr.gtr rfl rfl rfl rfl rfl ?_
  refine Tr.nil ?_
  refine at_n ?_
  refine Sat.cond_t rfl (rfl) ?_
  refine Sat.skip ?_
  refine at_n ?_
  refine Sat.seq ?_
  refine Sat.block ?_
  refine Sat.draw [(0, 0), (0, 1), (0, 2), (1, 3), (0, 4), (0, 5), (0, 6), (0, 7), (1, 8), (0, 9), (0, 10), (0, 11), (4, 12)] Mixed (by kernel_rfl) ?_
  refine Tr.move rfl rfl rfl ?_
  refine Tr.move rfl rfl rfl ?_
  refine Tr.idxArr1 rfl rfl rfl rfl Tryz.underlying92 Sz71 3 rfl oM ?_
  refine Tr.load1 rfl rfl rfl Tryz.underlying71 rfl (by exact mem1) (by rfl) ?_
  refine Tr.shl_u64 rfl rfl rfl rfl 1 rfl dE ?_
  refine Tr.move rfl rfl rfl ?_
  refine Tr.sub_i64 rfl rfl rfl rfl oM ?_
  refine Tr.idxArr1 rfl rfl rfl rfl Tryz.underlying92 Sz71 2 rfl oM ?_
  refine Tr.load1 rfl rfl rfl Tryz.underlying71 rfl (by exact mem1) (by rfl) ?_
  refine Tr.shr_u64 rfl rfl rfl rfl 63 rfl dE ?_
  refine Tr.or_u64 rfl rfl rfl rfl ?_
  refine Tr.idxArr1 rfl rfl rfl rfl Tryz.underlying92 Sz71 3 rfl oM ?_
  refine Tr.store1 rfl rfl rfl rfl rfl Sz71 (by exact mem1) (by (simp; done)) (by exact set_words _ _ _) (by exact upd1) ?_
  refine Tr.nil ?_
  refine bl_n ?_
  refine at_n ?_
  refine Sat.region ?_
  refine Tr.move rfl rfl rfl ?_
  refine Tr.sub_i64 rfl rfl rfl rfl oM ?_
  refine Tr.assign rfl rfl rfl ?_
  refine Tr.nil ?_
  refine at_n (SRounds.more ?_)
  refine Sat.seq ?_
  refine Sat.seq ?_
  refine Sat.region ?_
  refine Tr.move rfl rfl rfl ?_
  refine Tr.gtr rfl rfl rfl rfl rfl ?_
  refine Tr.nil ?_
  refine at_n ?_
  refine Sat.cond_t rfl (rfl) ?_
  refine Sat.skip ?_
  refine at_n ?_
  refine Sat.seq ?_
  refine Sat.block ?_
  refine Sat.draw [(0, 0), (0, 1), (0, 2), (1, 3), (0, 4), (0, 5), (0, 6), (0, 7), (1, 8), (0, 9), (0, 10), (0, 11), (4, 12)] Mixed (by kernel_rfl) ?_
  refine Tr.move rfl rfl rfl ?_
  refine Tr.move rfl rfl rfl ?_
  refine Tr.idxArr1 rfl rfl rfl rfl Tryz.underlying92 Sz71 2 rfl oM ?_
  refine Tr.load1 rfl rfl rfl Tryz.underlying71 rfl (by exact mem1) (by rfl) ?_
  refine Tr.shl_u64 rfl rfl rfl rfl 1 rfl dE ?_
  refine Tr.move rfl rfl rfl ?_
  refine Tr.sub_i64 rfl rfl rfl rfl oM ?_
  refine Tr.idxArr1 rfl rfl rfl rfl Tryz.underlying92 Sz71 1 rfl oM ?_
  refine Tr.load1 rfl rfl rfl Tryz.underlying71 rfl (by exact mem1) (by rfl) ?_
  refine Tr.shr_u64 rfl rfl rfl rfl 63 rfl dE ?_
  refine Tr.or_u64 rfl rfl rfl rfl ?_
  refine Tr.idxArr1 rfl rfl rfl rfl Tryz.underlying92 Sz71 2 rfl oM ?_
  refine Tr.store1 rfl rfl rfl rfl rfl Sz71 (by exact mem1) (by (simp; done)) (by exact set_words _ _ _) (by exact upd1) ?_
  refine Tr.nil ?_
  refine bl_n ?_
  refine at_n ?_
  refine Sat.region ?_
  refine Tr.move rfl rfl rfl ?_
  refine Tr.sub_i64 rfl rfl rfl rfl oM ?_
  refine Tr.assign rfl rfl rfl ?_
  refine Tr.nil ?_
  refine at_n (SRounds.more ?_)
  refine Sat.seq ?_
  refine Sat.seq ?_
  refine Sat.region ?_
  refine Tr.move rfl rfl rfl ?_
  refine Tr.gtr rfl rfl rfl rfl rfl ?_
  refine Tr.nil ?_
  refine at_n ?_
  refine Sat.cond_t rfl (rfl) ?_
  refine Sat.skip ?_
  refine at_n ?_
  refine Sat.seq ?_
  refine Sat.block ?_
  refine Sat.draw [(0, 0), (0, 1), (0, 2), (1, 3), (0, 4), (0, 5), (0, 6), (0, 7), (1, 8), (0, 9), (0, 10), (0, 11), (4, 12)] Mixed (by kernel_rfl) ?_
  refine Tr.move rfl rfl rfl ?_
  refine Tr.move rfl rfl rfl ?_
  refine Tr.idxArr1 rfl rfl rfl rfl Tryz.underlying92 Sz71 1 rfl oM ?_
  refine Tr.load1 rfl rfl rfl Tryz.underlying71 rfl (by exact mem1) (by rfl) ?_
  refine Tr.shl_u64 rfl rfl rfl rfl 1 rfl dE ?_
  refine Tr.move rfl rfl rfl ?_
  refine Tr.sub_i64 rfl rfl rfl rfl oM ?_
  refine Tr.idxArr1 rfl rfl rfl rfl Tryz.underlying92 Sz71 0 rfl oM ?_
  refine Tr.load1 rfl rfl rfl Tryz.underlying71 rfl (by exact mem1) (by rfl) ?_
  refine Tr.shr_u64 rfl rfl rfl rfl 63 rfl dE ?_
  refine Tr.or_u64 rfl rfl rfl rfl ?_
  refine Tr.idxArr1 rfl rfl rfl rfl Tryz.underlying92 Sz71 1 rfl oM ?_
  refine Tr.store1 rfl rfl rfl rfl rfl Sz71 (by exact mem1) (by (simp; done)) (by exact set_words _ _ _) (by exact upd1) ?_
  refine Tr.nil ?_
  refine bl_n ?_
  refine at_n ?_
  refine Sat.region ?_
  refine Tr.move rfl rfl rfl ?_
  refine Tr.sub_i64 rfl rfl rfl rfl oM ?_
  refine Tr.assign rfl rfl rfl ?_
  refine Tr.nil ?_
  refine at_n (SRounds.more ?_)
  refine Sat.seq ?_
  refine Sat.seq ?_
  refine Sat.region ?_
  refine Tr.move rfl rfl rfl ?_
  refine Tr.gtr rfl rfl rfl rfl rfl ?_
  refine Tr.nil ?_
  refine at_n ?_
  refine Sat.cond_f rfl (rfl) ?_
  refine Sat.exit ?_
  refine at_x ?_
  refine at_x ?_
  refine bl_h ?_
  refine at_n ?_
  refine Sat.seq ?_
  refine Sat.region ?_
  refine Tr.idxArr1 rfl rfl rfl rfl Tryz.underlying92 Sz71 0 rfl dE ?_
  refine Tr.load1 rfl rfl rfl Tryz.underlying71 rfl (by exact mem1) (by rfl) ?_
  refine Tr.shl_u64 rfl rfl rfl rfl 1 rfl dE ?_
  refine Tr.idxArr1 rfl rfl rfl rfl Tryz.underlying92 Sz71 0 rfl dE ?_
  refine Tr.store1 rfl rfl rfl rfl rfl Sz71 (by exact mem1) (by (simp; done)) (by exact set_words _ _ _) (by exact upd1) ?_
  refine Tr.nil ?_
  refine at_n ?_
  refine Sat.seq ?_
  refine Sat.region ?_
  refine Tr.loadAll rfl rfl rfl Tryz.underlying92 rfl Sz92 (by exact mem1) (by (simp; done)) ?_
  refine Tr.storeAll rfl rfl rfl rfl (by simp [isCell]) Sz92 (by (simp; done)) (by exact mem0) (by (simp; done)) (by exact upd0) ?_
  refine Tr.nil ?_
  refine at_n ?_
  refine Sat.ret ?_
  refine en_r ?_
  refine ⟨_, [], res_cell rfl rfl Tryz.underlying92 rfl Sz92 (by exact mem0) sP, sP, sP, ?_, rfl⟩
  rfl

set_option maxRecDepth 100000 in
set_option maxHeartbeats 2000000 in
theorem field_ones (f l : UInt8) : Meets Tryz.prog 116 [u8 f, u8 l] [] (fun _ => True) (fun v out => v = agg (bytesV (onesB f l)) ∧ out = []) := by
  intro W hW
  refine calls_of (hp0 := []) Tryz.func116 rfl 18 Tryz.ntmps116 rfl (HRep.nil _) ?_
  refine Sat.seq ?_
  refine Sat.region ?_
  refine Tr.alloc (cs := (bytesV (List.replicate 32 0))) rfl Zr32 rfl ?_
  intro n4 hn4 hf4
  refine Tr.nil ?_
  refine at_n ?_
  refine Sat.seq ?_
  refine Sat.region ?_
  refine Tr.alloc (cs := (bytesV (List.replicate 32 0))) rfl Zr32 rfl ?_
  intro n5 hn5 hf5
  refine Tr.nil ?_
  refine at_n ?_
  refine Sat.seq ?_
  refine Sat.seq ?_
  refine Sat.region ?_
  refine Tr.move rfl rfl rfl ?_
  refine Tr.nil ?_
  refine at_n ?_
  refine Sat.block ?_
  refine Sat.loop (ι := Nat) (fun k => ⟨[(0, u8 f), (1, u8 l), (4, ptr n4 0), (5, ptr n5 0), (7, i64 (k : Int))], [⟨n5, bytesV (List.replicate k 255 ++ List.replicate (32 - k) 0), 32, 32⟩, ⟨n4, bytesV (List.replicate 32 0), 32, 32⟩]⟩) (fun k => k ≤ 32) (fun k => 32 - k) (0) ?_ ?_ ?_
  · omega
  · exact weak_of (wk1 rfl (wk1 rfl (wk1 rfl (wk1 rfl (wk1 rfl wk0))))) (wh1 (by exact mem0) (wh1 (by exact mem1) wh0)) (by repeat (first | exact ns_nil | refine ns_keep rfl ?_))
  ·
    rintro k hi
    refine Sat.seq ?_
    refine Sat.region ?_
    refine Tr.lss rfl rfl rfl rfl rfl ?_
    refine Tr.nil ?_
    refine at_n ?_
    refine Sat.seq ?_
    refine Sat.condP rfl (fun hc0 => ?_) (fun hc0 => ?_)
    ·
      have hk2 : k < 32 := by omega
      refine Sat.skip ?_
      refine at_n ?_
      refine Sat.seq ?_
      refine Sat.block ?_
      refine Sat.seq ?_
      refine Sat.region ?_
      refine Tr.move rfl rfl rfl ?_
      refine Tr.assign rfl rfl rfl ?_
      refine Tr.nil ?_
      refine at_n ?_
      refine Sat.region ?_
      refine Tr.move rfl rfl rfl ?_
      refine Tr.idxArr1 rfl rfl rfl rfl Tryz.underlying32 Sz5 _ rfl oM ?_
      refine Tr.store1 rfl rfl rfl (show evIn _ _ = some (u8 255) from rfl) rfl Sz5 (by exact mem0) (by (simp; omega)) (by exact set_bytes _ _ _) (by exact upd0) ?_
      refine Tr.nil ?_
      refine bl_n ?_
      refine at_n ?_
      refine Sat.region ?_
      refine Tr.add_i64 rfl rfl rfl rfl oM ?_
      refine Tr.move rfl rfl rfl ?_
      refine Tr.nil ?_
      refine at_n ?_
      exact ⟨k + 1, by omega, by omega, weak_of (wk1 rfl (wk1 rfl (wk1 rfl (wk1 rfl (wk1 rfl wk0))))) (wh1 (by rw [← ones_step hk2]; exact mem0) (wh1 (by exact mem1) wh0)) (by repeat (first | exact ns_nil | refine ns_keep rfl ?_))⟩
    ·
      obtain rfl : k = 32 := by omega
      rw [show ((List.replicate 32 255 ++ List.replicate (32 - 32) 0) : List UInt8) = List.replicate 32 255 from rfl]
      refine Sat.exit ?_
      refine at_x ?_
      refine at_x ?_
      refine bl_h ?_
      refine at_n ?_
      refine Sat.seq ?_
      refine Sat.region ?_
      refine Tr.move rfl rfl rfl ?_
      refine Tr.move rfl rfl rfl ?_
      refine Tr.idxArr1 rfl rfl rfl rfl Tryz.underlying32 Sz5 0 rfl dE ?_
      refine Tr.store1 rfl rfl rfl rfl rfl Sz5 (by exact mem0) (by (simp; done)) (by exact set_bytes _ _ _) (by exact upd0) ?_
      refine Tr.idxArr1 rfl rfl rfl rfl Tryz.underlying32 Sz5 31 rfl dE ?_
      refine Tr.store1 rfl rfl rfl rfl rfl Sz5 (by exact mem0) (by (simp; done)) (by exact set_bytes _ _ _) (by exact upd0) ?_
      refine Tr.nil ?_
      refine at_n ?_
      refine Sat.seq ?_
      refine Sat.region ?_
      refine Tr.loadAll rfl rfl rfl Tryz.underlying32 rfl Sz32 (by exact mem0) (by (simp; done)) ?_
      refine Tr.storeAll rfl rfl rfl rfl (by exact bytesV_cell _) Sz32 (by (simp; done)) (by exact mem1) (by (simp; done)) (by exact upd1) ?_
      refine Tr.nil ?_
      refine at_n ?_
      refine Sat.ret ?_
      refine en_r ?_
      refine ⟨_, [], res_cell rfl rfl Tryz.underlying32 rfl Sz32 (by exact mem1) sP, sP, sP, ?_, rfl⟩
      rfl

set_option maxRecDepth 100000 in
set_option maxHeartbeats 4000000 in
theorem field_Pow (a e : List UInt8) (ha : a.length = 32) (he : e.length = 32) : Meets Tryz.prog 115 [agg (bytesV a), agg (bytesV e)] [] (fun _ => True) (fun v out => v = agg (bytesV (fb (fpow (fe (le a)) (le e)))) ∧ out = []) := by
  intro W hW
  have hE : le e < 2 ^ 256 := le32 he
  have hXf : (ldN a).fit := (ldN_lt a).fit
  have hXv : fe (ldN a).v = fe (le a) := by rw [ldN_v ha]
  refine calls_of (hp0 := []) Tryz.func115 rfl 26 Tryz.ntmps115 rfl (HRep.nil _) ?_
  refine Sat.seq ?_
  refine Sat.region ?_
  refine Tr.boxA rfl rfl ?_
  intro n2 hn2 hf2
  refine Tr.boxA rfl rfl ?_
  intro n3 hn3 hf3
  refine Tr.alloc (cs := (bytesV (List.replicate 32 0))) rfl Zr32 rfl ?_
  intro n4 hn4 hf4
  refine Tr.nil ?_
  refine at_n ?_
  refine Sat.seq ?_
  refine Sat.draw [(1, 0), (1, 2), (0, 4), (3, 1), (3, 3), (2, 5), (2, 6), (2, 7), (4, 8), (4, 9), (4, 10)] Mixed (by kernel_rfl) ?_
  refine Tr.loadAll rfl rfl rfl Tryz.underlying32 rfl Sz32 (by exact mem2) (by (simp [ha]; done)) ?_
  refine Tr.loadAll rfl rfl rfl Tryz.underlying32 rfl Sz32 (by exact mem1) (by (simp [he]; done)) ?_
  refine Tr.build (cs := wordsV (⟨1, 0, 0, 0, 0⟩ : W5).l) rfl rfl rfl (fun w => by kernel_rfl) ?_
  refine Tr.callV rfl rfl rfl rfl Body111 (field_load a ha) (fun _ _ => trivial) ?_
  refine Tr.callV rfl rfl rfl rfl Body131 (field_quarters e he) (fun _ _ => trivial) ?_
  refine Tr.alloc (cs := (wordsV (List.replicate 5 0))) rfl Zr120 rfl ?_
  intro n5 hn5 hf5
  refine Tr.alloc (cs := (wordsV (List.replicate 4 0))) rfl Zr92 rfl ?_
  intro n6 hn6 hf6
  refine Tr.alloc (cs := (wordsV (List.replicate 5 0))) rfl Zr120 rfl ?_
  intro n7 hn7 hf7
  refine Tr.storeAll rfl rfl rfl rfl (by simp [isCell]) Sz120 (by (simp [W5.l_length]; done)) (by exact mem2) (by (simp; done)) (by exact upd2) ?_
  refine Tr.storeAll rfl rfl rfl rfl (by simp [isCell]) Sz92 (by (simp; done)) (by exact mem1) (by (simp; done)) (by exact upd1) ?_
  refine Tr.storeAll rfl rfl rfl rfl (by simp [isCell]) Sz120 (by (simp [W5.l_length]; done)) (by exact mem0) (by (simp; done)) (by exact upd0) ?_
  refine Tr.nil ?_
  refine at_n ?_
  refine Sat.seq ?_
  refine Sat.seq ?_
  refine Sat.region ?_
  refine Tr.move rfl rfl rfl ?_
  refine Tr.nil ?_
  refine at_n ?_
  refine Sat.block ?_
  refine Sat.loop (ι := PowS) (fun s => ⟨[(4, ptr n4 0), (5, ptr n5 0), (6, ptr n6 0), (7, ptr n7 0), (13, i64 (s.k : Int))], [⟨n7, wordsV s.p.l, 120, 5⟩, ⟨n6, wordsV [s.a, s.b, s.c, s.d], 92, 4⟩, ⟨n5, wordsV (ldN a).l, 120, 5⟩, ⟨n4, bytesV (List.replicate 32 0), 32, 32⟩]⟩) (fun s => PowI (le e) (fe (le a)) s.k s.p s.a s.b s.c s.d) (fun s => 256 - s.k) (⟨0, ⟨1, 0, 0, 0, 0⟩, qw e 0, qw e 1, qw e 2, qw e 3⟩) ?_ ?_ ?_
  · exact PowI.first he _
  · exact weak_of (wk1 rfl (wk1 rfl (wk1 rfl (wk1 rfl (wk1 rfl wk0))))) (wh1 (by exact mem0) (wh1 (by exact mem1) (wh1 (by exact mem2) (wh1 (by exact mem3) wh0)))) (by repeat (first | exact ns_nil | refine ns_keep rfl ?_))
  ·
    rintro s hs
    have hsl := hs.le
    refine Sat.seq ?_
    refine Sat.region ?_
    refine Tr.lss rfl rfl rfl rfl rfl ?_
    refine Tr.nil ?_
    refine at_n ?_
    refine Sat.seq ?_
    refine Sat.condP rfl (fun hc0 => ?_) (fun hc0 => ?_)
    ·
      have hk2 : s.k < 256 := by omega
      refine Sat.skip ?_
      refine at_n ?_
      refine Sat.seq ?_
      refine Sat.block ?_
      refine Sat.seq ?_
      refine Sat.region ?_
      refine Tr.callV rfl rfl rfl rfl Body112 (field_product n7 n7 s.p s.p) (fun w h => ⟨sees_own h (by exact mem0), sees_own h (by exact mem0)⟩) ?_
      refine Tr.storeAll rfl rfl rfl rfl (by simp [isCell]) Sz120 (by (simp [W5.l_length]; done)) (by exact mem0) (by (simp [W5.l_length]; done)) (by exact upd0) ?_
      refine Tr.nil ?_
      refine at_n ?_
      refine Sat.join (ι := W5) (fun u => ⟨[(4, ptr n4 0), (5, ptr n5 0), (6, ptr n6 0), (7, ptr n7 0), (13, i64 (s.k : Int))], [⟨n7, wordsV u.l, 120, 5⟩, ⟨n6, wordsV [s.a, s.b, s.c, s.d], 92, 4⟩, ⟨n5, wordsV (ldN a).l, 120, 5⟩, ⟨n4, bytesV (List.replicate 32 0), 32, 32⟩]⟩) (fun u => PowI (le e) (fe (le a)) (s.k + 1) u (shl64 s.a 1) (shl64 s.b 1 ||| shr64 s.a 63) (shl64 s.c 1 ||| shr64 s.b 63) (shl64 s.d 1 ||| shr64 s.c 63)) ?_ ?_
      ·
        refine Sat.seq ?_
        refine Sat.region ?_
        refine Tr.idxArr1 rfl rfl rfl rfl Tryz.underlying92 Sz71 3 rfl dE ?_
        refine Tr.load1 rfl rfl rfl Tryz.underlying71 rfl (by exact mem1) (by rfl) ?_
        refine Tr.shr_u64 rfl rfl rfl rfl 63 rfl dE ?_
        refine Tr.eqi rfl rfl rfl rfl rfl ?_
        refine Tr.nil ?_
        refine at_n ?_
        refine Sat.condP rfl (fun hc1 => ?_) (fun hc1 => ?_)
        ·
          have hb1 : (shr64 s.d 63).toNat = 1 := by omega
          refine Sat.region ?_
          refine Tr.callV rfl rfl rfl rfl Body112 (field_product n7 n5 (mulF s.p s.p) (ldN a)) (fun w h => ⟨sees_own h (by exact mem0), sees_own h (by exact mem2)⟩) ?_
          refine Tr.storeAll rfl rfl rfl rfl (by simp [isCell]) Sz120 (by (simp [W5.l_length]; done)) (by exact mem0) (by (simp [W5.l_length]; done)) (by exact upd0) ?_
          refine Tr.nil ?_
          refine at_n ?_
          exact ⟨mulF (mulF s.p s.p) (ldN a), hs.odd hE hk2 hXf hXv hb1, weak_of (wk1 rfl (wk1 rfl (wk1 rfl (wk1 rfl (wk1 rfl wk0))))) (wh1 (by exact mem0) (wh1 (by exact mem1) (wh1 (by exact mem2) (wh1 (by exact mem3) wh0)))) (by repeat (first | exact ns_nil | refine ns_keep rfl ?_))⟩
        ·
          have hb1 : ¬ (shr64 s.d 63).toNat = 1 := by omega
          refine Sat.skip ?_
          refine at_n ?_
          exact ⟨mulF s.p s.p, hs.even hE hk2 hb1, weak_of (wk1 rfl (wk1 rfl (wk1 rfl (wk1 rfl (wk1 rfl wk0))))) (wh1 (by exact mem0) (wh1 (by exact mem1) (wh1 (by exact mem2) (wh1 (by exact mem3) wh0)))) (by repeat (first | exact ns_nil | refine ns_keep rfl ?_))⟩
      ·
        intro u hj
        have hu := hj
        refine Sat.region ?_
        refine Tr.loadAll rfl rfl rfl Tryz.underlying92 rfl Sz92 (by exact mem1) (by (simp; done)) ?_
        refine Tr.callV rfl rfl rfl rfl Body135 (field_shifted s.a s.b s.c s.d) (fun _ _ => trivial) ?_
        refine Tr.storeAll rfl rfl rfl rfl (by simp [isCell]) Sz92 (by (simp; done)) (by exact mem1) (by (simp; done)) (by exact upd1) ?_
        refine Tr.nil ?_
        refine bl_n ?_
        refine at_n ?_
        refine Sat.region ?_
        refine Tr.add_i64 rfl rfl rfl rfl oM ?_
        refine Tr.move rfl rfl rfl ?_
        refine Tr.nil ?_
        refine at_n ?_
        exact ⟨⟨s.k + 1, u, _, _, _, _⟩, hu, by simp only []; omega, weak_of (wk1 rfl (wk1 rfl (wk1 rfl (wk1 rfl (wk1 rfl wk0))))) (wh1 (by exact mem0) (wh1 (by exact mem1) (wh1 (by exact mem2) (wh1 (by exact mem3) wh0)))) (by repeat (first | exact ns_nil | refine ns_keep rfl ?_))⟩
    ·
      have hke : s.k = 256 := by omega
      have hfin : fe s.p.v = fpow (fe (le a)) (le e) := by rw [hke] at hs; exact hs.last
      refine Sat.exit ?_
      refine at_x ?_
      refine at_x ?_
      refine bl_h ?_
      refine at_n ?_
      refine Sat.seq ?_
      refine Sat.region ?_
      refine Tr.loadAll rfl rfl rfl Tryz.underlying120 rfl Sz120 (by exact mem0) (by (simp [W5.l_length]; done)) ?_
      refine Tr.callV rfl rfl rfl rfl Body113 (field_store s.p) (fun _ _ => trivial) ?_
      refine Tr.storeAll rfl rfl rfl rfl (by exact bytesV_cell _) Sz32 (by (simp [fb_length]; done)) (by exact mem3) (by (simp; done)) (by exact upd3) ?_
      refine Tr.nil ?_
      refine at_n ?_
      refine Sat.ret ?_
      refine en_r ?_
      refine ⟨_, [], res_cell rfl rfl Tryz.underlying32 rfl Sz32 (by exact mem3) (by simp [fb_length]), sP, sP, ?_, rfl⟩
      rw [hfin]

set_option maxRecDepth 100000 in
set_option maxHeartbeats 1000000 in
theorem field_Inv (a : List UInt8) (ha : a.length = 32) : Meets Tryz.prog 78 [agg (bytesV a)] [] (fun _ => True) (fun v out => v = agg (bytesV (fb (finv (fe (le a))))) ∧ out = []) := by
  intro W hW
  refine calls_of (hp0 := []) Tryz.func78 rfl 6 Tryz.ntmps78 rfl (HRep.nil _) ?_
  refine Sat.seq ?_
  refine Sat.region ?_
  refine Tr.boxA rfl rfl ?_
  intro n1 hn1 hf1
  refine Tr.alloc (cs := (bytesV (List.replicate 32 0))) rfl Zr32 rfl ?_
  intro n2 hn2 hf2
  refine Tr.nil ?_
  refine at_n ?_
  refine Sat.seq ?_
  refine Sat.draw [(1, 0), (3, 1), (3, 2), (4, 3)] Mixed (by kernel_rfl) ?_
  refine Tr.loadAll rfl rfl rfl Tryz.underlying32 rfl Sz32 (by exact mem1) (by (simp [ha]; done)) ?_
  refine Tr.callV rfl rfl rfl rfl Body116 (field_ones 235 127) (fun _ _ => trivial) ?_
  refine Tr.callV rfl rfl rfl rfl Body115 (field_Pow a (onesB 235 127) ha (onesB_length _ _)) (fun _ _ => trivial) ?_
  refine Tr.storeAll rfl rfl rfl rfl (by exact bytesV_cell _) Sz32 (by (simp [fb_length]; done)) (by exact mem0) (by (simp; done)) (by exact upd0) ?_
  refine Tr.nil ?_
  refine at_n ?_
  refine Sat.ret ?_
  refine en_r ?_
  refine ⟨_, [], res_cell rfl rfl Tryz.underlying32 rfl Sz32 (by exact mem0) (by simp [fb_length]), sP, sP, ?_, rfl⟩
  rw [ones_inv]; rfl

end Go.Proofs.YtmddgelpllffoaaGreat
end

section
namespace Go.Proofs.YtmddgelpllffoaaGreat
open Go Hw
set_option linter.unusedVariables false
set_option linter.unusedSimpArgs false

open Ed

theorem f_mul (x y : Fp) : Meets Tryz.prog 72 [agg (bytesV (fb x)), agg (bytesV (fb y))] [] (fun _ => True) (fun v out => v = agg (bytesV (fb (x * y))) ∧ out = []) := by
  have h := field_Mul (fb x) (fb y) (fb_length x) (fb_length y)
  rwa [fe_fb x, fe_fb y] at h

theorem f_add (x y : Fp) : Meets Tryz.prog 75 [agg (bytesV (fb x)), agg (bytesV (fb y))] [] (fun _ => True) (fun v out => v = agg (bytesV (fb (x + y))) ∧ out = []) := by
  have h := field_Add (fb x) (fb y) (fb_length x) (fb_length y)
  rwa [fe_fb x, fe_fb y] at h

theorem f_sub (x y : Fp) : Meets Tryz.prog 73 [agg (bytesV (fb x)), agg (bytesV (fb y))] [] (fun _ => True) (fun v out => v = agg (bytesV (fb (x - y))) ∧ out = []) := by
  have h := field_Sub (fb x) (fb y) (fb_length x) (fb_length y)
  rwa [fe_fb x, fe_fb y] at h

theorem f_neg (x : Fp) : Meets Tryz.prog 79 [agg (bytesV (fb x))] [] (fun _ => True) (fun v out => v = agg (bytesV (fb (-x))) ∧ out = []) := by
  have h := field_Neg (fb x) (fb_length x)
  rwa [fe_fb x] at h

theorem f_inv (x : Fp) : Meets Tryz.prog 78 [agg (bytesV (fb x))] [] (fun _ => True) (fun v out => v = agg (bytesV (fb (finv x))) ∧ out = []) := by
  have h := field_Inv (fb x) (fb_length x)
  rwa [fe_fb x] at h

theorem f_odd (x : Fp) : Meets Tryz.prog 118 [agg (bytesV (fb x))] [] (fun _ => True) (fun v out => v = .bool (decide (x.val % 2 = 1)) ∧ out = []) := by
  have h := field_Odd (fb x) (fb_length x)
  rwa [fe_fb x] at h

theorem f_same_raw (x : Fp) (a : List UInt8) (ha : a.length = 32) : Meets Tryz.prog 117 [agg (bytesV (fb x)), agg (bytesV a)] [] (fun _ => True) (fun v out => v = .bool (decide (x = fe (le a))) ∧ out = []) := by
  have h := field_Same (fb x) a (fb_length x) ha
  rwa [fe_fb x] at h
theorem f_pow_root (a : List UInt8) (ha : a.length = 32) : Meets Tryz.prog 115 [agg (bytesV a), agg (bytesV (onesB 254 15))] [] (fun _ => True) (fun v out => v = agg (bytesV (fb (fpow (fe (le a)) ((PF + 3) / 8)))) ∧ out = []) := by
  have h := field_Pow a (onesB 254 15) ha (onesB_length _ _)
  rwa [ones_root] at h
theorem f_pow_unit : Meets Tryz.prog 115 [agg (bytesV (fb (fe (2 : UInt64).toNat))), agg (bytesV (onesB 251 31))] [] (fun _ => True) (fun v out => v = agg (bytesV (fb (fpow (fe 2) ((PF - 1) / 4)))) ∧ out = []) := by
  have h := field_Pow (fb (fe (2 : UInt64).toNat)) (onesB 251 31) (fb_length _) (onesB_length _ _)
  rwa [ones_unit, fe_fb] at h
theorem f_one : Meets Tryz.prog 74 [u64 1] [] (fun _ => True) (fun v out => v = agg (bytesV (fb 1)) ∧ out = []) := by
  have h := field_Of 1
  rwa [show fe (1 : UInt64).toNat = 1 from rfl] at h

set_option maxRecDepth 100000 in
set_option maxHeartbeats 2000000 in
theorem field_Root (a : List UInt8) (X : Fp) (ha : a.length = 32) (hX : fe (le a) = X) : Meets Tryz.prog 77 [agg (bytesV a)] [] (fun _ => True) (fun v out => v = .tuple #[agg (bytesV (fb (fRoot X).1)), .bool (fRoot X).2] ∧ out = []) := by
  intro W hW
  obtain ⟨r0, hr0⟩ : ∃ r, fpow X ((PF + 3) / 8) = r := ⟨_, rfl⟩
  obtain ⟨un, hun⟩ : ∃ r, fpow (fe 2) ((PF - 1) / 4) = r := ⟨_, rfl⟩
  obtain ⟨r1, hr1⟩ : ∃ r, fRoot1 X = r := ⟨_, rfl⟩
  have hp0 := f_pow_root a ha
  have hpu := f_pow_unit
  rw [hX, hr0] at hp0
  rw [hun] at hpu
  have hm := fun y => f_same_raw y a ha
  rw [hX] at hm
  have hr1' : r1 = if r0 * r0 = X then r0 else r0 * un := by rw [← hr1, fRoot1, hr0, hun]
  have hR : fRoot X = if r1 * r1 = X then ((if r1.val % 2 = 1 then -r1 else r1), true) else (0, false) := by rw [fRoot, hr1]
  clear hr1
  refine calls_of (hp0 := []) Tryz.func77 rfl 31 Tryz.ntmps77 rfl (HRep.nil _) ?_
  refine Sat.seq ?_
  refine Sat.region ?_
  refine Tr.boxA rfl rfl ?_
  intro n1 hn1 hf1
  refine Tr.alloc (cs := (bytesV (List.replicate 32 0))) rfl Zr32 rfl ?_
  intro n2 hn2 hf2
  refine Tr.assign rfl rfl rfl ?_
  refine Tr.nil ?_
  refine at_n ?_
  refine Sat.seq ?_
  refine Sat.draw [(1, 0), (3, 1), (3, 2), (2, 3), (4, 4)] Mixed (by kernel_rfl) ?_
  refine Tr.loadAll rfl rfl rfl Tryz.underlying32 rfl Sz32 (by exact mem1) (by (simp [ha]; done)) ?_
  refine Tr.callV rfl rfl rfl rfl Body116 (field_ones 254 15) (fun _ _ => trivial) ?_
  refine Tr.callV rfl rfl rfl rfl Body115 (hp0) (fun _ _ => trivial) ?_
  refine Tr.alloc (cs := (bytesV (List.replicate 32 0))) rfl Zr32 rfl ?_
  intro n4 hn4 hf4
  refine Tr.storeAll rfl rfl rfl rfl (by exact bytesV_cell _) Sz32 (by (simp [fb_length]; done)) (by exact mem0) (by (simp; done)) (by exact upd0) ?_
  refine Tr.nil ?_
  refine at_n ?_
  refine Sat.join (ι := Unit) (fun _u => ⟨[(1, ptr n1 0), (2, ptr n2 0), (4, ptr n4 0)], [⟨n4, bytesV (fb r1), 32, 32⟩, ⟨n2, bytesV (List.replicate 32 0), 32, 32⟩, ⟨n1, bytesV a, 32, (bytesV a).length⟩]⟩) (fun _u => True) ?_ ?_
  ·
    refine Sat.seq ?_
    refine Sat.draw [(1, 0), (1, 1), (1, 3), (3, 2), (3, 4), (0, 5)] Mixed (by kernel_rfl) ?_
    refine Tr.loadAll rfl rfl rfl Tryz.underlying32 rfl Sz32 (by exact mem0) (by (simp [fb_length]; done)) ?_
    refine Tr.loadAll rfl rfl rfl Tryz.underlying32 rfl Sz32 (by exact mem0) (by (simp [fb_length]; done)) ?_
    refine Tr.loadAll rfl rfl rfl Tryz.underlying32 rfl Sz32 (by exact mem2) (by (simp [ha]; done)) ?_
    refine Tr.callV rfl rfl rfl rfl Body72 (f_mul r0 r0) (fun _ _ => trivial) ?_
    refine Tr.callV rfl rfl rfl rfl Body117 (hm (r0 * r0)) (fun _ _ => trivial) ?_
    refine Tr.not rfl rfl rfl ?_
    refine Tr.nil ?_
    refine at_n ?_
    refine Sat.condNP rfl (fun hc0 => ?_) (fun hc0 => ?_)
    ·
      refine Sat.draw [(1, 0), (3, 1), (3, 2), (3, 3), (3, 4), (4, 5)] Mixed (by kernel_rfl) ?_
      refine Tr.loadAll rfl rfl rfl Tryz.underlying32 rfl Sz32 (by exact mem0) (by (simp [fb_length]; done)) ?_
      refine Tr.callV rfl rfl rfl rfl Body74 (field_Of 2) (fun _ _ => trivial) ?_
      refine Tr.callV rfl rfl rfl rfl Body116 (field_ones 251 31) (fun _ _ => trivial) ?_
      refine Tr.callV rfl rfl rfl rfl Body115 (hpu) (fun _ _ => trivial) ?_
      refine Tr.callV rfl rfl rfl rfl Body72 (f_mul r0 un) (fun _ _ => trivial) ?_
      refine Tr.storeAll rfl rfl rfl rfl (by exact bytesV_cell _) Sz32 (by (simp [fb_length]; done)) (by exact mem0) (by (simp [fb_length]; done)) (by exact upd0) ?_
      refine Tr.nil ?_
      refine at_n ?_
      (rw [hr1', if_neg hc0]; exact ⟨(), trivial, weak_of (wk1 rfl (wk1 rfl (wk1 rfl wk0))) (wh1 (by exact mem0) (wh1 (by exact mem1) (wh1 (by exact mem2) wh0))) (by repeat (first | exact ns_nil | refine ns_keep rfl ?_))⟩)
    ·
      refine Sat.skip ?_
      refine at_n ?_
      (rw [hr1', if_pos hc0]; exact ⟨(), trivial, weak_of (wk1 rfl (wk1 rfl (wk1 rfl wk0))) (wh1 (by exact mem0) (wh1 (by exact mem1) (wh1 (by exact mem2) wh0))) (by repeat (first | exact ns_nil | refine ns_keep rfl ?_))⟩)
  ·
    intro _u hj
    skip
    refine Sat.seq ?_
    refine Sat.seq ?_
    refine Sat.draw [(1, 0), (1, 1), (1, 3), (3, 2), (3, 4), (0, 5)] Mixed (by kernel_rfl) ?_
    refine Tr.loadAll rfl rfl rfl Tryz.underlying32 rfl Sz32 (by exact mem0) (by (simp [fb_length]; done)) ?_
    refine Tr.loadAll rfl rfl rfl Tryz.underlying32 rfl Sz32 (by exact mem0) (by (simp [fb_length]; done)) ?_
    refine Tr.loadAll rfl rfl rfl Tryz.underlying32 rfl Sz32 (by exact mem2) (by (simp [ha]; done)) ?_
    refine Tr.callV rfl rfl rfl rfl Body72 (f_mul r1 r1) (fun _ _ => trivial) ?_
    refine Tr.callV rfl rfl rfl rfl Body117 (hm (r1 * r1)) (fun _ _ => trivial) ?_
    refine Tr.not rfl rfl rfl ?_
    refine Tr.nil ?_
    refine at_n ?_
    refine Sat.condNP rfl (fun hc1 => ?_) (fun hc1 => ?_)
    ·
      refine Sat.seq ?_
      refine Sat.region ?_
      refine Tr.build (cs := bytesV (List.replicate 32 0)) rfl rfl rfl (fun w => by kernel_rfl) ?_
      refine Tr.storeAll rfl rfl rfl rfl (by exact bytesV_cell _) Sz32 (by (simp; done)) (by exact mem1) (by (simp; done)) (by exact upd1) ?_
      refine Tr.assign rfl rfl rfl ?_
      refine Tr.nil ?_
      refine at_n ?_
      refine Sat.ret ?_
      refine at_r ?_
      refine en_r ?_
      refine ⟨_, [], res_cell_tmp rfl rfl rfl Tryz.underlying32 rfl Sz32 (by exact mem1) sP, sP, sP, ?_, rfl⟩
      (rw [hR, if_neg hc1, fb_zero]; done)
    ·
      refine Sat.skip ?_
      refine at_n ?_
      refine Sat.join (ι := Unit) (fun _u => ⟨[(2, ptr n2 0), (4, ptr n4 0)], [⟨n4, bytesV (fb (if r1.val % 2 = 1 then -r1 else r1)), 32, 32⟩, ⟨n2, bytesV (List.replicate 32 0), 32, 32⟩]⟩) (fun _u => True) ?_ ?_
      ·
        refine Sat.seq ?_
        refine Sat.region ?_
        refine Tr.loadAll rfl rfl rfl Tryz.underlying32 rfl Sz32 (by exact mem0) (by (simp [fb_length]; done)) ?_
        refine Tr.callV rfl rfl rfl rfl Body118 (f_odd r1) (fun _ _ => trivial) ?_
        refine Tr.nil ?_
        refine at_n ?_
        refine Sat.condP rfl (fun hc2 => ?_) (fun hc2 => ?_)
        ·
          refine Sat.region ?_
          refine Tr.loadAll rfl rfl rfl Tryz.underlying32 rfl Sz32 (by exact mem0) (by (simp [fb_length]; done)) ?_
          refine Tr.callV rfl rfl rfl rfl Body79 (f_neg r1) (fun _ _ => trivial) ?_
          refine Tr.storeAll rfl rfl rfl rfl (by exact bytesV_cell _) Sz32 (by (simp [fb_length]; done)) (by exact mem0) (by (simp [fb_length]; done)) (by exact upd0) ?_
          refine Tr.nil ?_
          refine at_n ?_
          (rw [if_pos hc2]; exact ⟨(), trivial, weak_of (wk1 rfl (wk1 rfl wk0)) (wh1 (by exact mem0) (wh1 (by exact mem1) wh0)) (by repeat (first | exact ns_nil | refine ns_keep rfl ?_))⟩)
        ·
          refine Sat.skip ?_
          refine at_n ?_
          (rw [if_neg hc2]; exact ⟨(), trivial, weak_of (wk1 rfl (wk1 rfl wk0)) (wh1 (by exact mem0) (wh1 (by exact mem1) wh0)) (by repeat (first | exact ns_nil | refine ns_keep rfl ?_))⟩)
      ·
        intro _u hj
        skip
        refine Sat.seq ?_
        refine Sat.region ?_
        refine Tr.loadAll rfl rfl rfl Tryz.underlying32 rfl Sz32 (by exact mem0) (by (simp [fb_length]; done)) ?_
        refine Tr.storeAll rfl rfl rfl rfl (by exact bytesV_cell _) Sz32 (by (simp [fb_length]; done)) (by exact mem1) (by (simp; done)) (by exact upd1) ?_
        refine Tr.assign rfl rfl rfl ?_
        refine Tr.nil ?_
        refine at_n ?_
        refine Sat.ret ?_
        refine en_r ?_
        refine ⟨_, [], res_cell_tmp rfl rfl rfl Tryz.underlying32 rfl Sz32 (by exact mem1) (by simp [fb_length]), sP, sP, ?_, rfl⟩
        (rw [hR, if_pos hc1]; done)

end Go.Proofs.YtmddgelpllffoaaGreat
end

section
namespace Ed
open Hw Go
set_option linter.unusedVariables false

theorem fb32 (x : Fp) : (fb x).length = 32 := fb_length x
/-- the bytes of a point -/
def pb (P : Pt Fp) : List UInt8 := if P.x.val % 2 = 1 then (fb P.y).set 31 ((fb P.y).getD 31 0 ||| 128) else fb P.y
theorem pb_length (P : Pt Fp) : (pb P).length = 32 := by
  unfold pb
  split
  · rw [List.length_set, fb_length]
  · exact fb_length _
def topB (b : List UInt8) : Bool := !decide (((b.getD 31 0 &&& 128).toNat : Int) = 0)
def lowB (b : List UInt8) : List UInt8 := b.set 31 (b.getD 31 0 &&& 127)
theorem lowB_length {b : List UInt8} (h : b.length = 32) : (lowB b).length = 32 := by rw [lowB, List.length_set, h]
/-- the X of a Y, and whether there is one -/
def xOf (Y : Fp) : Fp × Bool := fRoot ((Y * Y - 1) * finv (fD * (Y * Y) + 1))
def rdP (b : List UInt8) : Option (Pt Fp) :=
  if fb (fe (le (lowB b))) = lowB b then
    (if (xOf (fe (le (lowB b)))).2 = true ∧ ¬ (topB b = true ∧ (xOf (fe (le (lowB b)))).1 = 0) then
      some ⟨if topB b = true then - (xOf (fe (le (lowB b)))).1 else (xOf (fe (le (lowB b)))).1, fe (le (lowB b))⟩
    else none)
  else none
theorem fRoot_sq {X : Fp} (h : (fRoot X).2 = true) : (fRoot X).1 * (fRoot X).1 = X := by
  unfold fRoot at h ⊢
  by_cases h1 : fRoot1 X * fRoot1 X = X
  · rw [if_pos h1]
    simp only
    split
    · rw [sq_neg, h1]
    · exact h1
  · rw [if_neg h1] at h; cases h
theorem xOf_on {Y : Fp} (h : (xOf Y).2 = true) : cv.on ⟨(xOf Y).1, Y⟩ :=
  cv.on_read (finv_mul (cv.below_ne Y)) (fRoot_sq h)
theorem neg_mk (x y : Fp) : neg ⟨x, y⟩ = ⟨-x, y⟩ := rfl
theorem rdP_on {b : List UInt8} {P : Pt Fp} (h : rdP b = some P) : cv.on P := by
  unfold rdP at h
  split at h
  · split at h
    · rename_i h1 h2
      simp only [Option.some.injEq] at h
      subst h
      have := xOf_on h2.1
      split
      · have h3 := cv.on_neg this
        rw [neg_mk] at h3
        exact h3
      · exact this
    · cases h
  · cases h
/-- what Check says of a point's numbers -/
def pchk (x y : List UInt8) : Int := if fb (fe (le x)) = x ∧ fb (fe (le y)) = y ∧ fe (le y) * fe (le y) - fe (le x) * fe (le x) = 1 + fD * (fe (le x) * fe (le x) * (fe (le y) * fe (le y))) then 0 else 2
theorem pchk_on {P : Pt Fp} (h : cv.on P) : pchk (fb P.x) (fb P.y) = 0 := by
  have h1 := (cv.on_iff P).1 h
  unfold pchk
  rw [fe_fb, fe_fb]
  exact if_pos (And.intro (Eq.refl (fb P.x)) (And.intro (Eq.refl (fb P.y)) h1))
/-- the base point -/
def bX : List UInt8 := [26, 213, 37, 143, 96, 45, 86, 201, 178, 167, 37, 149, 96, 199, 44, 105, 92, 220, 214, 253, 49, 226, 164, 192, 254, 83, 110, 205, 211, 54, 105, 33]
def bY : List UInt8 := (List.replicate 32 102).set 0 88
def bP : Pt Fp := ⟨fe (le bX), fe (le bY)⟩
theorem bP_x : fb bP.x = bX := by kernel_rfl
theorem bP_y : fb bP.y = bY := by kernel_rfl
theorem bP_on : cv.on bP := by
  show bP.y * bP.y - bP.x * bP.x = 1 + fD * bP.x * bP.x * bP.y * bP.y
  kernel_rfl
theorem lin_step (a b j : Nat) (hj : j < 256) {P Q : Pt Fp} (hP : cv.on P) (hQ : cv.on Q) : cv.lin (a / 2 ^ (256 - (j + 1))) (b / 2 ^ (256 - (j + 1))) P Q =
    (if a.testBit (255 - j) then (if b.testBit (255 - j) then cv.add (cv.add (cv.lin (a / 2 ^ (256 - j)) (b / 2 ^ (256 - j)) P Q) (cv.lin (a / 2 ^ (256 - j)) (b / 2 ^ (256 - j)) P Q)) (cv.add P Q) else cv.add (cv.add (cv.lin (a / 2 ^ (256 - j)) (b / 2 ^ (256 - j)) P Q) (cv.lin (a / 2 ^ (256 - j)) (b / 2 ^ (256 - j)) P Q)) P)
     else (if b.testBit (255 - j) then cv.add (cv.add (cv.lin (a / 2 ^ (256 - j)) (b / 2 ^ (256 - j)) P Q) (cv.lin (a / 2 ^ (256 - j)) (b / 2 ^ (256 - j)) P Q)) Q else cv.add (cv.lin (a / 2 ^ (256 - j)) (b / 2 ^ (256 - j)) P Q) (cv.lin (a / 2 ^ (256 - j)) (b / 2 ^ (256 - j)) P Q))) := by
  have ha := next_div a j hj
  have hb := next_div b j hj
  rw [ha, hb]
  have e : ∀ n : Nat, n.testBit (255 - j) = decide (n / 2 ^ (255 - j) % 2 = 1) := fun n => Nat.testBit_eq_decide_div_mod_eq
  rw [e a, e b]
  rw [← cv.lin_two hP hQ]
  generalize a / 2 ^ (256 - j) = A
  generalize b / 2 ^ (256 - j) = B
  have h1 : a / 2 ^ (255 - j) % 2 = 0 ∨ a / 2 ^ (255 - j) % 2 = 1 := by omega
  have h2 : b / 2 ^ (255 - j) % 2 = 0 ∨ b / 2 ^ (255 - j) % 2 = 1 := by omega
  rcases h1 with h1 | h1 <;> rcases h2 with h2 | h2 <;> rw [h1, h2]
  · rfl
  · exact cv.lin_right hP hQ _ _
  · exact cv.lin_left hP hQ _ _
  · exact cv.lin_both hP hQ _ _
theorem lin_tt {a b j : Nat} (hj : j < 256) {P Q : Pt Fp} (hP : cv.on P) (hQ : cv.on Q) (h1 : a.testBit (255 - j) = true) (h2 : b.testBit (255 - j) = true) : cv.lin (a / 2 ^ (256 - (j + 1))) (b / 2 ^ (256 - (j + 1))) P Q = cv.add (cv.add (cv.lin (a / 2 ^ (256 - j)) (b / 2 ^ (256 - j)) P Q) (cv.lin (a / 2 ^ (256 - j)) (b / 2 ^ (256 - j)) P Q)) (cv.add P Q) := by
  rw [lin_step a b j hj hP hQ, h1, h2]; rfl
theorem lin_tf {a b j : Nat} (hj : j < 256) {P Q : Pt Fp} (hP : cv.on P) (hQ : cv.on Q) (h1 : a.testBit (255 - j) = true) (h2 : b.testBit (255 - j) = false) : cv.lin (a / 2 ^ (256 - (j + 1))) (b / 2 ^ (256 - (j + 1))) P Q = cv.add (cv.add (cv.lin (a / 2 ^ (256 - j)) (b / 2 ^ (256 - j)) P Q) (cv.lin (a / 2 ^ (256 - j)) (b / 2 ^ (256 - j)) P Q)) P := by
  rw [lin_step a b j hj hP hQ, h1, h2]; rfl
theorem lin_ft {a b j : Nat} (hj : j < 256) {P Q : Pt Fp} (hP : cv.on P) (hQ : cv.on Q) (h1 : a.testBit (255 - j) = false) (h2 : b.testBit (255 - j) = true) : cv.lin (a / 2 ^ (256 - (j + 1))) (b / 2 ^ (256 - (j + 1))) P Q = cv.add (cv.add (cv.lin (a / 2 ^ (256 - j)) (b / 2 ^ (256 - j)) P Q) (cv.lin (a / 2 ^ (256 - j)) (b / 2 ^ (256 - j)) P Q)) Q := by
  rw [lin_step a b j hj hP hQ, h1, h2]; rfl
theorem lin_ff {a b j : Nat} (hj : j < 256) {P Q : Pt Fp} (hP : cv.on P) (hQ : cv.on Q) (h1 : a.testBit (255 - j) = false) (h2 : b.testBit (255 - j) = false) : cv.lin (a / 2 ^ (256 - (j + 1))) (b / 2 ^ (256 - (j + 1))) P Q = cv.add (cv.lin (a / 2 ^ (256 - j)) (b / 2 ^ (256 - j)) P Q) (cv.lin (a / 2 ^ (256 - j)) (b / 2 ^ (256 - j)) P Q) := by
  rw [lin_step a b j hj hP hQ, h1, h2]; rfl
theorem lin_first (a b : List UInt8) (ha : a.length = 32) (hb : b.length = 32) (P Q : Pt Fp) : (Wd.of (zero : Pt Fp)).rep (cv.lin (le a / 2 ^ (256 - 0)) (le b / 2 ^ (256 - 0)) P Q) := by
  have h1 := le32 ha
  have h2 := le32 hb
  rw [show 256 - 0 = 256 from rfl, Nat.div_eq_of_lt h1, Nat.div_eq_of_lt h2, cv.lin_zero]
  exact cv.rep_of zero
theorem lin_last (a b : Nat) (P Q : Pt Fp) : cv.lin (a / 2 ^ (256 - 256)) (b / 2 ^ (256 - 256)) P Q = cv.lin a b P Q := by rw [Nat.sub_self, Nat.pow_zero, Nat.div_one, Nat.div_one]
theorem lin_one (a : Nat) (P : Pt Fp) : cv.lin a 0 P zero = cv.mul a P := cv.add_zero _
/-- 8 times a point -/
def eight (P : Pt Fp) : Pt Fp := cv.add (cv.add (cv.add P P) (cv.add P P)) (cv.add (cv.add P P) (cv.add P P))
theorem eight_mul {P : Pt Fp} (h : cv.on P) : eight P = cv.mul 8 P := by
  rw [show (8 : Nat) = 2 * (2 * (2 * 1)) from rfl, cv.mul_two h, cv.mul_two h, cv.mul_two h, cv.mul_one]
  rfl
end Ed
end

section
namespace Go.Proofs.YtmddgelpllffoaaGreat
open Go Hw
set_option linter.unusedSimpArgs false
set_option linter.unusedVariables false
set_option maxRecDepth 100000
structure Point where
  fX : List UInt8
  fY : List UInt8
def Point.cells (x : Point) : List Value := bytesV x.fX ++ (bytesV x.fY)
structure Point.ok (x : Point) : Prop where
  l_fX : x.fX.length = 32
  l_fY : x.fY.length = 32
theorem Point.length {x : Point} (h : x.ok) : x.cells.length = 64 := by simp [Point.cells, bytesV, h.l_fX, h.l_fY]
theorem Point.isCell {x : Point} (h : x.ok) : ∀ u ∈ x.cells, isCell u = true := by
  intro u hu
  simp only [Point.cells, List.mem_append, List.mem_singleton, bytesV, List.mem_map] at hu
  rcases hu with ⟨_, _, rfl⟩ | ⟨_, _, rfl⟩ <;> rfl
theorem Point.row_fX {x : Point} (h : x.ok) : (x.cells.drop 0).take 32 = bytesV x.fX := by simp [Point.cells, bytesV, h.l_fX, h.l_fY, List.drop_append, List.take_append, List.drop_of_length_le, List.take_of_length_le]
theorem Point.rl_fX {x : Point} (h : x.ok) : (bytesV x.fX).length = 32 := by simp [bytesV, h.l_fX]
theorem Point.upd_fX {x : Point} (h : x.ok) (l : List UInt8) (hl : l.length = 32) : upd x.cells 0 (bytesV l) = ({ x with fX := l }).cells := by
  simp [upd, Point.cells, bytesV, h.l_fX, h.l_fY, hl, List.drop_append, List.take_append, List.drop_of_length_le, List.take_of_length_le]
theorem Point.see_fX {x : Point} (h : x.ok) : ∀ (j : Nat) (v : Value), (bytesV x.fX)[j]? = some v → x.cells[0 + j]? = some v := fun j v hj => by
  rw [← Point.row_fX h, List.getElem?_take] at hj
  split at hj
  · rwa [List.getElem?_drop] at hj
  · cases hj
theorem Point.row_fY {x : Point} (h : x.ok) : (x.cells.drop 32).take 32 = bytesV x.fY := by simp [Point.cells, bytesV, h.l_fX, h.l_fY, List.drop_append, List.take_append, List.drop_of_length_le, List.take_of_length_le]
theorem Point.rl_fY {x : Point} (h : x.ok) : (bytesV x.fY).length = 32 := by simp [bytesV, h.l_fY]
theorem Point.upd_fY {x : Point} (h : x.ok) (l : List UInt8) (hl : l.length = 32) : upd x.cells 32 (bytesV l) = ({ x with fY := l }).cells := by
  simp [upd, Point.cells, bytesV, h.l_fX, h.l_fY, hl, List.drop_append, List.take_append, List.drop_of_length_le, List.take_of_length_le]
theorem Point.see_fY {x : Point} (h : x.ok) : ∀ (j : Nat) (v : Value), (bytesV x.fY)[j]? = some v → x.cells[32 + j]? = some v := fun j v hj => by
  rw [← Point.row_fY h, List.getElem?_take] at hj
  split at hj
  · rwa [List.getElem?_drop] at hj
  · cases hj
def Point.zero : Point := ⟨List.replicate 32 0, List.replicate 32 0⟩
theorem Point.zero_ok : Point.zero.ok := by constructor <;> simp [Point.zero]
theorem Point.zr : Zr Tryz.prog 41 (agg Point.zero.cells) := by unfold Zr; kernel_rfl
theorem Point.eqq {x y : Point} (hx : x.ok) (hy : y.ok) (w : World) : (Op.equalIn 10000 41 (agg x.cells) (agg y.cells)).run Tryz.prog w = .ok (decide (x.fX = y.fX) && (decide (x.fY = y.fY) && (true))) w := by
  rw [show (10000 : Nat) = 9999 + 1 from rfl, run_equalIn_struct w 9999 41 x.cells.toArray y.cells.toArray (by kernel_rfl) (by kernel_rfl)]
  exact (eqFields_step dE (run_partN Tryz.underlying32 rfl Sz32 (Point.row_fX hx)) (run_partN Tryz.underlying32 rfl Sz32 (Point.row_fX hy)) (eq_bytesA Tryz.underlying32 Tryz.underlying5 Sz5 hx.l_fX hy.l_fX) (eqFields_step dE (run_partN Tryz.underlying32 rfl Sz32 (Point.row_fY hx)) (run_partN Tryz.underlying32 rfl Sz32 (Point.row_fY hy)) (eq_bytesA Tryz.underlying32 Tryz.underlying5 Sz5 hx.l_fY hy.l_fY) eqFields_nil))
theorem Point.eq_run {x y : Point} (hx : x.ok) (hy : y.ok) (w : World) [Decidable (x = y)] : (Op.equalIn 10000 41 (agg x.cells) (agg y.cells)).run Tryz.prog w = .ok (decide (x = y)) w := by
  rw [Point.eqq hx hy]
  congr 1
  obtain ⟨x0, x1⟩ := x
  obtain ⟨y0, y1⟩ := y
  rw [Bool.eq_iff_iff]
  simp only [Bool.and_eq_true, decide_eq_true_eq, Point.mk.injEq, and_true]
theorem Point.eq_runC {x y : Point} (hx : x.ok) (hy : y.ok) (w : World) : (Op.equalIn 10000 41 (agg x.cells) (agg y.cells)).run Tryz.prog w = .ok (@decide (x = y) (Classical.propDecidable (x = y))) w := @Point.eq_run x y hx hy w (Classical.propDecidable (x = y))
theorem Point.eg : Tryz.prog.eqGuardType Tryz.prog.depth 41 = false := by kernel_rfl
structure wide where
  fX : List UInt8
  fY : List UInt8
  fZ : List UInt8
  fT : List UInt8
def wide.cells (x : wide) : List Value := bytesV x.fX ++ (bytesV x.fY ++ (bytesV x.fZ ++ (bytesV x.fT)))
structure wide.ok (x : wide) : Prop where
  l_fX : x.fX.length = 32
  l_fY : x.fY.length = 32
  l_fZ : x.fZ.length = 32
  l_fT : x.fT.length = 32
theorem wide.length {x : wide} (h : x.ok) : x.cells.length = 128 := by simp [wide.cells, bytesV, h.l_fX, h.l_fY, h.l_fZ, h.l_fT]
theorem wide.isCell {x : wide} (h : x.ok) : ∀ u ∈ x.cells, isCell u = true := by
  intro u hu
  simp only [wide.cells, List.mem_append, List.mem_singleton, bytesV, List.mem_map] at hu
  rcases hu with ⟨_, _, rfl⟩ | ⟨_, _, rfl⟩ | ⟨_, _, rfl⟩ | ⟨_, _, rfl⟩ <;> rfl
theorem wide.row_fX {x : wide} (h : x.ok) : (x.cells.drop 0).take 32 = bytesV x.fX := by simp [wide.cells, bytesV, h.l_fX, h.l_fY, h.l_fZ, h.l_fT, List.drop_append, List.take_append, List.drop_of_length_le, List.take_of_length_le]
theorem wide.rl_fX {x : wide} (h : x.ok) : (bytesV x.fX).length = 32 := by simp [bytesV, h.l_fX]
theorem wide.upd_fX {x : wide} (h : x.ok) (l : List UInt8) (hl : l.length = 32) : upd x.cells 0 (bytesV l) = ({ x with fX := l }).cells := by
  simp [upd, wide.cells, bytesV, h.l_fX, h.l_fY, h.l_fZ, h.l_fT, hl, List.drop_append, List.take_append, List.drop_of_length_le, List.take_of_length_le]
theorem wide.see_fX {x : wide} (h : x.ok) : ∀ (j : Nat) (v : Value), (bytesV x.fX)[j]? = some v → x.cells[0 + j]? = some v := fun j v hj => by
  rw [← wide.row_fX h, List.getElem?_take] at hj
  split at hj
  · rwa [List.getElem?_drop] at hj
  · cases hj
theorem wide.row_fY {x : wide} (h : x.ok) : (x.cells.drop 32).take 32 = bytesV x.fY := by simp [wide.cells, bytesV, h.l_fX, h.l_fY, h.l_fZ, h.l_fT, List.drop_append, List.take_append, List.drop_of_length_le, List.take_of_length_le]
theorem wide.rl_fY {x : wide} (h : x.ok) : (bytesV x.fY).length = 32 := by simp [bytesV, h.l_fY]
theorem wide.upd_fY {x : wide} (h : x.ok) (l : List UInt8) (hl : l.length = 32) : upd x.cells 32 (bytesV l) = ({ x with fY := l }).cells := by
  simp [upd, wide.cells, bytesV, h.l_fX, h.l_fY, h.l_fZ, h.l_fT, hl, List.drop_append, List.take_append, List.drop_of_length_le, List.take_of_length_le]
theorem wide.see_fY {x : wide} (h : x.ok) : ∀ (j : Nat) (v : Value), (bytesV x.fY)[j]? = some v → x.cells[32 + j]? = some v := fun j v hj => by
  rw [← wide.row_fY h, List.getElem?_take] at hj
  split at hj
  · rwa [List.getElem?_drop] at hj
  · cases hj
theorem wide.row_fZ {x : wide} (h : x.ok) : (x.cells.drop 64).take 32 = bytesV x.fZ := by simp [wide.cells, bytesV, h.l_fX, h.l_fY, h.l_fZ, h.l_fT, List.drop_append, List.take_append, List.drop_of_length_le, List.take_of_length_le]
theorem wide.rl_fZ {x : wide} (h : x.ok) : (bytesV x.fZ).length = 32 := by simp [bytesV, h.l_fZ]
theorem wide.upd_fZ {x : wide} (h : x.ok) (l : List UInt8) (hl : l.length = 32) : upd x.cells 64 (bytesV l) = ({ x with fZ := l }).cells := by
  simp [upd, wide.cells, bytesV, h.l_fX, h.l_fY, h.l_fZ, h.l_fT, hl, List.drop_append, List.take_append, List.drop_of_length_le, List.take_of_length_le]
theorem wide.see_fZ {x : wide} (h : x.ok) : ∀ (j : Nat) (v : Value), (bytesV x.fZ)[j]? = some v → x.cells[64 + j]? = some v := fun j v hj => by
  rw [← wide.row_fZ h, List.getElem?_take] at hj
  split at hj
  · rwa [List.getElem?_drop] at hj
  · cases hj
theorem wide.row_fT {x : wide} (h : x.ok) : (x.cells.drop 96).take 32 = bytesV x.fT := by simp [wide.cells, bytesV, h.l_fX, h.l_fY, h.l_fZ, h.l_fT, List.drop_append, List.take_append, List.drop_of_length_le, List.take_of_length_le]
theorem wide.rl_fT {x : wide} (h : x.ok) : (bytesV x.fT).length = 32 := by simp [bytesV, h.l_fT]
theorem wide.upd_fT {x : wide} (h : x.ok) (l : List UInt8) (hl : l.length = 32) : upd x.cells 96 (bytesV l) = ({ x with fT := l }).cells := by
  simp [upd, wide.cells, bytesV, h.l_fX, h.l_fY, h.l_fZ, h.l_fT, hl, List.drop_append, List.take_append, List.drop_of_length_le, List.take_of_length_le]
theorem wide.see_fT {x : wide} (h : x.ok) : ∀ (j : Nat) (v : Value), (bytesV x.fT)[j]? = some v → x.cells[96 + j]? = some v := fun j v hj => by
  rw [← wide.row_fT h, List.getElem?_take] at hj
  split at hj
  · rwa [List.getElem?_drop] at hj
  · cases hj
def wide.zero : wide := ⟨List.replicate 32 0, List.replicate 32 0, List.replicate 32 0, List.replicate 32 0⟩
theorem wide.zero_ok : wide.zero.ok := by constructor <;> simp [wide.zero]
theorem wide.zr : Zr Tryz.prog 98 (agg wide.zero.cells) := by unfold Zr; kernel_rfl
theorem wide.eqq {x y : wide} (hx : x.ok) (hy : y.ok) (w : World) : (Op.equalIn 10000 98 (agg x.cells) (agg y.cells)).run Tryz.prog w = .ok (decide (x.fX = y.fX) && (decide (x.fY = y.fY) && (decide (x.fZ = y.fZ) && (decide (x.fT = y.fT) && (true))))) w := by
  rw [show (10000 : Nat) = 9999 + 1 from rfl, run_equalIn_struct w 9999 98 x.cells.toArray y.cells.toArray (by kernel_rfl) (by kernel_rfl)]
  exact (eqFields_step dE (run_partN Tryz.underlying32 rfl Sz32 (wide.row_fX hx)) (run_partN Tryz.underlying32 rfl Sz32 (wide.row_fX hy)) (eq_bytesA Tryz.underlying32 Tryz.underlying5 Sz5 hx.l_fX hy.l_fX) (eqFields_step dE (run_partN Tryz.underlying32 rfl Sz32 (wide.row_fY hx)) (run_partN Tryz.underlying32 rfl Sz32 (wide.row_fY hy)) (eq_bytesA Tryz.underlying32 Tryz.underlying5 Sz5 hx.l_fY hy.l_fY) (eqFields_step dE (run_partN Tryz.underlying32 rfl Sz32 (wide.row_fZ hx)) (run_partN Tryz.underlying32 rfl Sz32 (wide.row_fZ hy)) (eq_bytesA Tryz.underlying32 Tryz.underlying5 Sz5 hx.l_fZ hy.l_fZ) (eqFields_step dE (run_partN Tryz.underlying32 rfl Sz32 (wide.row_fT hx)) (run_partN Tryz.underlying32 rfl Sz32 (wide.row_fT hy)) (eq_bytesA Tryz.underlying32 Tryz.underlying5 Sz5 hx.l_fT hy.l_fT) eqFields_nil))))
theorem wide.eq_run {x y : wide} (hx : x.ok) (hy : y.ok) (w : World) [Decidable (x = y)] : (Op.equalIn 10000 98 (agg x.cells) (agg y.cells)).run Tryz.prog w = .ok (decide (x = y)) w := by
  rw [wide.eqq hx hy]
  congr 1
  obtain ⟨x0, x1, x2, x3⟩ := x
  obtain ⟨y0, y1, y2, y3⟩ := y
  rw [Bool.eq_iff_iff]
  simp only [Bool.and_eq_true, decide_eq_true_eq, wide.mk.injEq, and_true]
theorem wide.eq_runC {x y : wide} (hx : x.ok) (hy : y.ok) (w : World) : (Op.equalIn 10000 98 (agg x.cells) (agg y.cells)).run Tryz.prog w = .ok (@decide (x = y) (Classical.propDecidable (x = y))) w := @wide.eq_run x y hx hy w (Classical.propDecidable (x = y))
theorem wide.eg : Tryz.prog.eqGuardType Tryz.prog.depth 98 = false := by kernel_rfl
structure secrets where
  fNumber : List UInt8
  fRest : List UInt8
def secrets.cells (x : secrets) : List Value := bytesV x.fNumber ++ (bytesV x.fRest)
structure secrets.ok (x : secrets) : Prop where
  l_fNumber : x.fNumber.length = 32
  l_fRest : x.fRest.length = 32
theorem secrets.length {x : secrets} (h : x.ok) : x.cells.length = 64 := by simp [secrets.cells, bytesV, h.l_fNumber, h.l_fRest]
theorem secrets.isCell {x : secrets} (h : x.ok) : ∀ u ∈ x.cells, isCell u = true := by
  intro u hu
  simp only [secrets.cells, List.mem_append, List.mem_singleton, bytesV, List.mem_map] at hu
  rcases hu with ⟨_, _, rfl⟩ | ⟨_, _, rfl⟩ <;> rfl
theorem secrets.row_fNumber {x : secrets} (h : x.ok) : (x.cells.drop 0).take 32 = bytesV x.fNumber := by simp [secrets.cells, bytesV, h.l_fNumber, h.l_fRest, List.drop_append, List.take_append, List.drop_of_length_le, List.take_of_length_le]
theorem secrets.rl_fNumber {x : secrets} (h : x.ok) : (bytesV x.fNumber).length = 32 := by simp [bytesV, h.l_fNumber]
theorem secrets.upd_fNumber {x : secrets} (h : x.ok) (l : List UInt8) (hl : l.length = 32) : upd x.cells 0 (bytesV l) = ({ x with fNumber := l }).cells := by
  simp [upd, secrets.cells, bytesV, h.l_fNumber, h.l_fRest, hl, List.drop_append, List.take_append, List.drop_of_length_le, List.take_of_length_le]
theorem secrets.row_fRest {x : secrets} (h : x.ok) : (x.cells.drop 32).take 32 = bytesV x.fRest := by simp [secrets.cells, bytesV, h.l_fNumber, h.l_fRest, List.drop_append, List.take_append, List.drop_of_length_le, List.take_of_length_le]
theorem secrets.upd_fRest {x : secrets} (h : x.ok) (l : List UInt8) (hl : l.length = 32) : upd x.cells 32 (bytesV l) = ({ x with fRest := l }).cells := by
  simp [upd, secrets.cells, bytesV, h.l_fNumber, h.l_fRest, hl, List.drop_append, List.take_append, List.drop_of_length_le, List.take_of_length_le]
theorem secrets.see_fRest {x : secrets} (h : x.ok) : ∀ (j : Nat) (v : Value), (bytesV x.fRest)[j]? = some v → x.cells[32 + j]? = some v := fun j v hj => by
  rw [← secrets.row_fRest h, List.getElem?_take] at hj
  split at hj
  · rwa [List.getElem?_drop] at hj
  · cases hj
def secrets.zero : secrets := ⟨List.replicate 32 0, List.replicate 32 0⟩
theorem secrets.zero_ok : secrets.zero.ok := by constructor <;> simp [secrets.zero]
theorem secrets.zr : Zr Tryz.prog 67 (agg secrets.zero.cells) := by unfold Zr; kernel_rfl
theorem secrets.eqq {x y : secrets} (hx : x.ok) (hy : y.ok) (w : World) : (Op.equalIn 10000 67 (agg x.cells) (agg y.cells)).run Tryz.prog w = .ok (decide (x.fNumber = y.fNumber) && (decide (x.fRest = y.fRest) && (true))) w := by
  rw [show (10000 : Nat) = 9999 + 1 from rfl, run_equalIn_struct w 9999 67 x.cells.toArray y.cells.toArray (by kernel_rfl) (by kernel_rfl)]
  exact (eqFields_step dE (run_partN Tryz.underlying32 rfl Sz32 (secrets.row_fNumber hx)) (run_partN Tryz.underlying32 rfl Sz32 (secrets.row_fNumber hy)) (eq_bytesA Tryz.underlying32 Tryz.underlying5 Sz5 hx.l_fNumber hy.l_fNumber) (eqFields_step dE (run_partN Tryz.underlying22 rfl Sz22 (secrets.row_fRest hx)) (run_partN Tryz.underlying22 rfl Sz22 (secrets.row_fRest hy)) (eq_bytesA Tryz.underlying22 Tryz.underlying5 Sz5 hx.l_fRest hy.l_fRest) eqFields_nil))
theorem secrets.eq_run {x y : secrets} (hx : x.ok) (hy : y.ok) (w : World) [Decidable (x = y)] : (Op.equalIn 10000 67 (agg x.cells) (agg y.cells)).run Tryz.prog w = .ok (decide (x = y)) w := by
  rw [secrets.eqq hx hy]
  congr 1
  obtain ⟨x0, x1⟩ := x
  obtain ⟨y0, y1⟩ := y
  rw [Bool.eq_iff_iff]
  simp only [Bool.and_eq_true, decide_eq_true_eq, secrets.mk.injEq, and_true]
theorem secrets.eq_runC {x y : secrets} (hx : x.ok) (hy : y.ok) (w : World) : (Op.equalIn 10000 67 (agg x.cells) (agg y.cells)).run Tryz.prog w = .ok (@decide (x = y) (Classical.propDecidable (x = y))) w := @secrets.eq_run x y hx hy w (Classical.propDecidable (x = y))
theorem secrets.eg : Tryz.prog.eqGuardType Tryz.prog.depth 67 = false := by kernel_rfl
end Go.Proofs.YtmddgelpllffoaaGreat
end

section
namespace Hw
open Go
set_option linter.unusedSimpArgs false
set_option linter.unusedVariables false
set_option maxRecDepth 100000

/-- eight words, highest first -/
theorem lt_sp {n a b c : Nat} (h : n < 2 ^ c) (hc : a + b = c) : n < 2 ^ a * 2 ^ b := by subst hc; rw [← Nat.pow_add]; exact h
theorem top_sp {n a b c : Nat} (h : n < 2 ^ c) (hc : a + b = c) : n / 2 ^ a % 2 ^ b = n / 2 ^ a := Nat.mod_eq_of_lt (Nat.div_lt_of_lt_mul (lt_sp h hc))
theorem le_2p {a c : Nat} (h : a ≤ c) : 2 ^ a ≤ 2 ^ c := Nat.pow_le_pow_right (by decide) h
theorem pos_2p (c : Nat) : 0 < 2 ^ c := Nat.pow_pos (by decide)
def words8 (n : Nat) : List UInt64 := [448, 384, 320, 256, 192, 128, 64, 0].map fun e => w64 (n / 2 ^ e)
theorem words8_length (n : Nat) : (words8 n).length = 8 := rfl
theorem words8_zero : words8 0 = List.replicate 8 0 := by
  simp only [words8, List.map_cons, List.map_nil, Nat.zero_div]; rfl
theorem wvo8 (a b c d e f g h : UInt64) : wv [a, b, c, d, e, f, g, h] = ((((((a.toNat * 2 ^ 64 + b.toNat) * 2 ^ 64 + c.toNat) * 2 ^ 64 + d.toNat) * 2 ^ 64 + e.toNat) * 2 ^ 64 + f.toNat) * 2 ^ 64 + g.toNat) * 2 ^ 64 + h.toNat := by
  simp [wv]
theorem horner (n k : Nat) : n / 2 ^ (k + 64) * 2 ^ 64 + n / 2 ^ k % 2 ^ 64 = n / 2 ^ k := by
  rw [Nat.pow_add, ← Nat.div_div_eq_div_mul, Nat.mul_comm]
  exact Nat.div_add_mod _ _
theorem horn2 {n k m : Nat} (h : k + 64 = m) : n / 2 ^ m * 2 ^ 64 + n / 2 ^ k % 2 ^ 64 = n / 2 ^ k := by subst h; exact horner n k
theorem wv_words8 {n : Nat} (h : n < 2 ^ 512) : wv (words8 n) = n := by
  simp only [words8, List.map_cons, List.map_nil]
  rw [wvo8]
  simp only [w64_toNat]
  have h0 := top_sp (a := 448) (b := 64) h rfl
  rw [h0, horn2 (k := 384) (m := 448) rfl, horn2 (k := 320) (m := 384) rfl, horn2 (k := 256) (m := 320) rfl, horn2 (k := 192) (m := 256) rfl, horn2 (k := 128) (m := 192) rfl, horn2 (k := 64) (m := 128) rfl, horn2 (k := 0) (m := 64) rfl, Nat.pow_zero, Nat.div_one]
theorem words8_get (n : Nat) : ∀ j, j < 8 → (words8 n)[7 - j]? = some (w64 (n / 2 ^ (64 * j))) := fun j hj => by
  have e : ∀ j, j < 8 → ([448, 384, 320, 256, 192, 128, 64, 0] : List Nat)[7 - j]? = some (64 * j) := by decide
  rw [words8, List.getElem?_map, e j hj]; rfl
theorem pow256 (k : Nat) : 256 ^ k = 2 ^ (8 * k) := by rw [show (256 : Nat) = 2 ^ 8 by decide, ← Nat.pow_mul]
/-- one byte more -/
theorem words8_step (n k : Nat) (x : UInt8) (hn : n < 256 ^ k) (hk : k < 64) :
    words8 (n + 256 ^ k * x.toNat) = (words8 n).set (7 - k / 8) ((words8 n).getD (7 - k / 8) 0 ||| shl64 x.toUInt64 (8 * (k % 8))) := by
  have hx := x.toNat_lt
  apply List.ext_getElem?
  intro i
  rcases Nat.lt_or_ge i 8 with hi | hi
  · obtain ⟨j, hj, rfl⟩ : ∃ j, j < 8 ∧ i = 7 - j := ⟨7 - i, by omega, by omega⟩
    rw [words8_get _ j hj, List.getElem?_set, List.getD, words8_get _ (k / 8) oM, Option.getD_some]
    rw [pow256] at hn
    rcases Nat.lt_trichotomy j (k / 8) with h | h | h
    · rw [if_neg oM, words8_get _ j hj, pow256]
      congr 1
      apply UInt64.toNat_inj.1
      rw [w64_toNat, w64_toNat]
      have e : 2 ^ (8 * k) * x.toNat = 2 ^ (64 * j) * (2 ^ 64 * (2 ^ (8 * k - 64 * j - 64) * x.toNat)) := by
        rw [← Nat.mul_assoc, ← Nat.mul_assoc, ← Nat.pow_add, ← Nat.pow_add]
        congr 2; omega
      rw [e, Nat.add_mul_div_left _ _ (Nat.pow_pos dE), Nat.add_mul_mod_self_left]
    · subst h
      rw [if_pos rfl, if_pos (by rw [words8_length]; omega), pow256]
      congr 1
      apply UInt64.toNat_inj.1
      rw [UInt64.toNat_or, shl64_toNat, w64_toNat, w64_toNat, UInt8.toNat_toUInt64]
      have e : 2 ^ (8 * k) * x.toNat = 2 ^ (64 * (k / 8)) * (2 ^ (8 * (k % 8)) * x.toNat) := by
        rw [← Nat.mul_assoc, ← Nat.pow_add]
        congr 2; omega
      have hl : n / 2 ^ (64 * (k / 8)) < 2 ^ (8 * (k % 8)) := by
        apply Nat.div_lt_of_lt_mul
        rw [← Nat.pow_add]
        rw [show 64 * (k / 8) + 8 * (k % 8) = 8 * k by omega]; exact hn
      have hm : 8 * (k % 8) ≤ 56 := by omega
      have h8 : 2 ^ (8 * (k % 8)) ≤ 2 ^ 56 := Nat.pow_le_pow_right dE hm
      have hb : x.toNat * 2 ^ (8 * (k % 8)) < 2 ^ 64 := by
        calc x.toNat * 2 ^ (8 * (k % 8)) ≤ x.toNat * 2 ^ 56 := Nat.mul_le_mul_left _ h8
          _ < 2 ^ 64 := by omega
      rw [e, Nat.add_mul_div_left _ _ (Nat.pow_pos dE), Nat.mod_eq_of_lt hb, Nat.mod_eq_of_lt (Nat.lt_of_lt_of_le hl (Nat.le_trans h8 dE))]
      rw [Nat.mul_comm x.toNat, Nat.or_comm, ← Nat.two_pow_add_eq_or_of_lt hl, Nat.add_comm, Nat.mod_eq_of_lt]
      calc 2 ^ (8 * (k % 8)) * x.toNat + n / 2 ^ (64 * (k / 8)) < 2 ^ (8 * (k % 8)) * (x.toNat + 1) := by rw [Nat.mul_add]; omega
        _ ≤ 2 ^ (8 * (k % 8)) * 2 ^ 8 := Nat.mul_le_mul_left _ hx
        _ = 2 ^ (8 * (k % 8) + 8) := by rw [Nat.pow_add]
        _ ≤ 2 ^ 64 := Nat.pow_le_pow_right dE oM
    · rw [if_neg oM, words8_get _ j hj, pow256]
      congr 1
      have hp : 2 ^ (8 * (k + 1)) ≤ 2 ^ (64 * j) := Nat.pow_le_pow_right dE oM
      have h1 : n + 2 ^ (8 * k) * x.toNat < 2 ^ (8 * (k + 1)) := by
        rw [show 8 * (k + 1) = 8 * k + 8 by omega, Nat.pow_add]
        calc n + 2 ^ (8 * k) * x.toNat < 2 ^ (8 * k) * (x.toNat + 1) := by rw [Nat.mul_add]; omega
          _ ≤ 2 ^ (8 * k) * 2 ^ 8 := Nat.mul_le_mul_left _ hx
      rw [Nat.div_eq_of_lt (Nat.lt_of_lt_of_le h1 hp), Nat.div_eq_of_lt (Nat.lt_of_lt_of_le (Nat.lt_of_le_of_lt (Nat.le_add_right _ _) h1) hp)]
  · rw [List.getElem?_eq_none (by rw [words8_length]; exact hi), List.getElem?_eq_none (by rw [List.length_set, words8_length]; exact hi)]

theorem le_take_succ (l : List UInt8) (k : Nat) (h : k < l.length) : le (l.take (k + 1)) = le (l.take k) + 256 ^ k * (l.getD k 0).toNat := by
  rw [List.take_succ_eq_append_getElem h, le_append, List.length_take, Nat.min_eq_left oM]
  simp [le, List.getD, h]
theorem le_take_lt (l : List UInt8) (k : Nat) : le (l.take k) < 256 ^ k := by
  refine Nat.lt_of_lt_of_le (le_lt _) (Nat.pow_le_pow_right dE ?_)
  rw [List.length_take]; omega
theorem take_512 (l : List UInt8) (k : Nat) (h : k ≤ 64) : le (l.take k) < 2 ^ 512 := by
  refine Nat.lt_of_lt_of_le (le_take_lt l k) ?_
  rw [pow256]; exact le_2p (c := 512) (by omega)
theorem L_pos : 0 < L := by decide
theorem L_lt : L < 2 ^ 256 := by decide
theorem le_leb32 {n : Nat} (h : n < 2 ^ 256) : le (leb 32 n) = n := by
  rw [le_leb]; exact Nat.mod_eq_of_lt h
theorem lm (n : Nat) : n % L < 2 ^ 256 := Nat.lt_trans (Nat.mod_lt _ L_pos) L_lt
theorem le_byte (l : List UInt8) (k : Nat) : (l.getD k 0).toNat = le l / 256 ^ k % 256 := by
  rcases Nat.lt_or_ge k l.length with h | h
  · rw [le_drop l k (Nat.le_of_lt h)]
    have : l.drop k = l.getD k 0 :: l.drop (k + 1) := by
      rw [List.getD_eq_getElem?_getD, List.getElem?_eq_getElem h]
      exact List.drop_eq_getElem_cons h
    rw [this, le]
    have := (l.getD k 0).toNat_lt
    omega
  · rw [List.getD_eq_getElem?_getD, List.getElem?_eq_none h, Nat.div_eq_of_lt (Nat.lt_of_lt_of_le (le_lt l) (Nat.pow_le_pow_right dE h))]
    rfl
theorem le_bit (l : List UInt8) (k : Nat) : (l.getD (k / 8) 0).toNat / 2 ^ (k % 8) % 2 = le l / 2 ^ k % 2 := by
  rw [le_byte, pow256, show (256 : Nat) = 2 ^ (k % 8) * 2 ^ (8 - k % 8) by rw [← Nat.pow_add, show k % 8 + (8 - k % 8) = 8 by omega], Nat.mod_mul_right_div_self, Nat.div_div_eq_div_mul, ← Nat.pow_add, show 8 * (k / 8) + k % 8 = k by omega]
  exact Nat.mod_mod_of_dvd _ ⟨2 ^ (8 - k % 8 - 1), by rw [← Nat.pow_succ']; congr 1; omega⟩
theorem bit_and (l : List UInt8) (k : Nat) : (decide (((shr8 (l.getD (k / 8) 0) (k % 8) &&& 1).toNat : Int) = 1)) = (le l).testBit k := by
  rw [UInt8.toNat_and, shr8_toNat, show (1 : UInt8).toNat = 2 ^ 1 - 1 by decide, Nat.and_two_pow_sub_one_eq_mod, Nat.pow_one, le_bit, Nat.testBit_eq_decide_div_mod_eq]
  congr 1
  apply propext; omega
theorem bit_rem (l : List UInt8) (k : Nat) : (decide (((UInt8.ofNat ((shr8 (l.getD (k / 8) 0) (k % 8)).toNat % 2)).toNat : Int) = 1)) = (le l).testBit k := by
  rw [shr8_toNat, le_bit, UInt8.toNat_ofNat', Nat.testBit_eq_decide_div_mod_eq]
  congr 1
  apply propext; omega
end Hw
end

section
namespace Go.Proofs.YtmddgelpllffoaaGreat
open Go Hw
set_option linter.unusedVariables false
set_option linter.unusedSimpArgs false

set_option maxRecDepth 100000 in
set_option maxHeartbeats 1000000 in
theorem scalar_canon (a : List UInt8) (ha : a.length = 32) : Meets Tryz.prog 34 [agg (bytesV a)] [] (fun _ => True) (fun v out => v = .bool (decide (le a < L)) ∧ out = []) := by
  intro W hW
  refine calls_of (hp0 := []) Tryz.func34 rfl 7 Tryz.ntmps34 rfl (HRep.nil _) ?_
  refine Sat.seq ?_
  refine Sat.region ?_
  refine Tr.boxA rfl rfl ?_
  intro n1 hn1 hf1
  refine Tr.assign rfl rfl rfl ?_
  refine Tr.nil ?_
  refine at_n ?_
  refine Sat.seq ?_
  refine Sat.region ?_
  refine Tr.loadAll rfl rfl rfl Tryz.underlying32 rfl Sz32 (by exact mem0) (by (simp [ha]; done)) ?_
  refine Tr.callV rfl rfl rfl rfl Body68 (scalar_load_n _ (by simp [ha])) (fun _ _ => trivial) ?_
  refine Tr.callV rfl rfl rfl rfl Body70 (scalar_modulus_n) (fun _ _ => trivial) ?_
  refine Tr.callV rfl rfl rfl rfl Body69 (scalar_below_n _ _ (le32 ha) L_lt) (fun _ _ => trivial) ?_
  refine Tr.assign rfl rfl rfl ?_
  refine Tr.nil ?_
  refine at_n ?_
  refine Sat.ret ?_
  refine en_r ?_
  refine ⟨_, [], res_tmp rfl rfl, sP, sP, ?_, rfl⟩
  rfl

set_option maxRecDepth 100000 in
set_option maxHeartbeats 1000000 in
theorem scalar_rest (b o c n : Nat) (xs : List UInt8) (hx : xs.length = n) (hn : n ≤ 64) : Meets Tryz.prog 88 [.slice (some ⟨b, o, none⟩) n c] [] (fun W => Sees W b o (bytesV xs)) (fun v out => v = .tuple #[agg (bytesV (leb 32 (le xs % L))), i64 0] ∧ out = []) := by
  intro W hW
  refine calls_of (hp0 := []) Tryz.func88 rfl 34 Tryz.ntmps88 rfl (HRep.nil _) ?_
  refine Sat.seq ?_
  refine Sat.region ?_
  refine Tr.alloc (cs := (bytesV (List.replicate 32 0))) rfl Zr32 rfl ?_
  intro n2 hn2 hf2
  refine Tr.assign rfl rfl rfl ?_
  refine Tr.nil ?_
  refine at_n ?_
  refine Sat.seq ?_
  refine Sat.seq ?_
  refine Sat.region ?_
  refine Tr.move rfl rfl rfl ?_
  refine Tr.lenSl rfl rfl rfl Tryz.underlying23 ?_
  refine Tr.gtr rfl rfl rfl rfl (decide_eq_false oM) ?_
  refine Tr.nil ?_
  refine at_n ?_
  refine Sat.cond_f rfl (rfl) ?_
  refine Sat.skip ?_
  refine at_n ?_
  refine Sat.seq ?_
  refine Sat.region ?_
  refine Tr.alloc (cs := (wordsV (List.replicate 8 0))) rfl Zr87 rfl ?_
  intro n4 hn4 hf4
  refine Tr.nil ?_
  refine at_n ?_
  refine Sat.seq ?_
  refine Sat.seq ?_
  refine Sat.region ?_
  refine Tr.move rfl rfl rfl ?_
  refine Tr.lenSl rfl rfl rfl Tryz.underlying23 ?_
  refine Tr.move rfl rfl rfl ?_
  refine Tr.nil ?_
  refine at_n ?_
  refine Sat.block ?_
  refine Sat.loop (ι := Nat) (fun k => ⟨[(2, ptr n2 0), (4, ptr n4 0), (11, .slice (some ⟨b, o, none⟩) n c), (12, i64 (n : Int)), (13, i64 (k : Int))], [⟨n4, wordsV (words8 (le (xs.take k))), 87, 8⟩, ⟨n2, bytesV (List.replicate 32 0), 32, 32⟩]⟩) (fun k => k ≤ n) (fun k => n - k) (0) ?_ ?_ ?_
  · omega
  · exact weak_of (wk1 rfl (wk1 rfl (wk1 rfl (wk1 rfl (wk1 rfl wk0))))) (wh1 (by rw [List.take_zero, show le [] = 0 from rfl, words8_zero]; exact mem0) (wh1 (by exact mem1) wh0)) (by repeat (first | exact ns_nil | refine ns_keep rfl ?_))
  ·
    rintro k hi
    refine Sat.seq ?_
    refine Sat.region ?_
    refine Tr.lss rfl rfl rfl rfl rfl ?_
    refine Tr.nil ?_
    refine at_n ?_
    refine Sat.seq ?_
    refine Sat.condP rfl (fun hc1 => ?_) (fun hc1 => ?_)
    ·
      refine Sat.skip ?_
      refine at_n ?_
      refine Sat.seq ?_
      refine Sat.block ?_
      refine Sat.seq ?_
      refine Sat.region ?_
      refine Tr.move rfl rfl rfl ?_
      refine Tr.idxSlO rfl rfl rfl rfl Tryz.underlying23 Sz5 _ rfl oM ?_
      refine Tr.loadE rfl rfl rfl Tryz.underlying5 rfl (by (simp; done)) (hW _ _ (get_bytes oM)) ?_
      refine Tr.assign rfl rfl rfl ?_
      refine Tr.assign rfl rfl rfl ?_
      refine Tr.nil ?_
      refine at_n ?_
      refine Sat.draw [(0, 0), (0, 1), (0, 2), (0, 3), (1, 4), (0, 5), (0, 6), (0, 7), (0, 8), (0, 9), (0, 10), (0, 11), (0, 12), (4, 13)] Mixed (by kernel_rfl) ?_
      refine Tr.move rfl rfl rfl ?_
      refine Tr.quo_i64 rfl rfl rfl rfl oM ?_
      refine Tr.sub_i64 rfl rfl rfl rfl oM ?_
      refine Tr.idxArr1 rfl rfl rfl rfl Tryz.underlying87 Sz71 (7 - k / 8) oM oM ?_
      refine Tr.load1 rfl rfl rfl Tryz.underlying71 rfl (by exact mem0) (by exact get_words (by (simp [words8_length]; omega))) ?_
      refine Tr.move rfl rfl rfl ?_
      refine Tr.conv rfl rfl rfl Tryz.underlying5 Tryz.underlying71 (cv_u8_u64 _) ?_
      refine Tr.move rfl rfl rfl ?_
      refine Tr.rem_i64 rfl rfl rfl rfl oM ?_
      refine Tr.mul_i64 rfl rfl rfl rfl oM ?_
      refine Tr.shl_u64 rfl rfl rfl rfl (8 * (k % 8)) oM oM ?_
      refine Tr.or_u64 rfl rfl rfl rfl ?_
      refine Tr.idxArr1 rfl rfl rfl rfl Tryz.underlying87 Sz71 (7 - k / 8) oM oM ?_
      refine Tr.store1 rfl rfl rfl rfl rfl Sz71 (by exact mem0) (by (simp [words8_length]; omega)) (by exact set_words _ _ _) (by exact upd0) ?_
      refine Tr.nil ?_
      refine bl_n ?_
      refine at_n ?_
      refine Sat.region ?_
      refine Tr.add_i64 rfl rfl rfl rfl oM ?_
      refine Tr.move rfl rfl rfl ?_
      refine Tr.nil ?_
      refine at_n ?_
      exact ⟨k + 1, by omega, by omega, weak_of (wk1 rfl (wk1 rfl (wk1 rfl (wk1 rfl (wk1 rfl wk0))))) (wh1 (by rw [le_take_succ xs k oM, words8_step _ _ _ (le_take_lt xs k) oM]; exact mem0) (wh1 (by exact mem1) wh0)) (by repeat (first | exact ns_nil | refine ns_keep rfl ?_))⟩
    ·
      obtain rfl : k = n := by omega
      refine Sat.exit ?_
      refine at_x ?_
      refine at_x ?_
      refine bl_h ?_
      refine at_n ?_
      refine Sat.seq ?_
      refine Sat.region ?_
      refine Tr.sliceArr rfl rfl rfl Tryz.underlying87 Sz71 ?_
      refine Tr.callV rfl rfl rfl rfl Body101 (scalar_residue _ _ _ 8 (words8 (le (xs.take k))) rfl oM) (fun W h => sees_own h (by exact mem0)) ?_
      refine Tr.storeAll rfl rfl rfl rfl (by simp [isCell]) Sz32 (by (simp [leb_length]; done)) (by exact mem1) (by (simp; done)) (by exact upd1) ?_
      refine Tr.assign rfl rfl rfl ?_
      refine Tr.nil ?_
      refine at_n ?_
      refine Sat.ret ?_
      refine en_r ?_
      refine ⟨_, [], res_cell_tmp rfl rfl rfl Tryz.underlying32 rfl Sz32 (by exact mem1) (by simp [leb_length]), sP, sP, ?_, rfl⟩
      rw [wv_words8 (take_512 xs k oM), List.take_of_length_le oM]

set_option maxRecDepth 100000 in
set_option maxHeartbeats 1000000 in
theorem scalar_bit_at (a : List UInt8) (ha : a.length = 32) (k : Nat) (hk : k < 256) : Meets Tryz.prog 85 [agg (bytesV a), i64 (k : Int)] [] (fun _ => True) (fun v out => v = .bool ((le a).testBit k) ∧ out = []) := by
  intro W hW
  refine calls_of (hp0 := []) Tryz.func85 rfl 22 Tryz.ntmps85 rfl (HRep.nil _) ?_
  refine Sat.seq ?_
  refine Sat.region ?_
  refine Tr.boxA rfl rfl ?_
  intro n2 hn2 hf2
  refine Tr.assign rfl rfl rfl ?_
  refine Tr.nil ?_
  refine at_n ?_
  refine Sat.seq ?_
  refine Sat.region ?_
  refine Tr.move rfl rfl rfl ?_
  refine Tr.geq rfl rfl rfl rfl (decide_eq_true oM) ?_
  refine Tr.move rfl rfl rfl ?_
  refine Tr.move rfl rfl rfl ?_
  refine Tr.lss rfl rfl rfl rfl (decide_eq_true oM) ?_
  refine Tr.pick rfl rfl rfl rfl rfl rfl ?_
  refine Tr.move rfl rfl rfl ?_
  refine Tr.move rfl rfl rfl ?_
  refine Tr.quo_i64 rfl rfl rfl rfl oM ?_
  refine Tr.idxArr1 rfl rfl rfl rfl Tryz.underlying32 Sz5 (k / 8) oM oM ?_
  refine Tr.load1 rfl rfl rfl Tryz.underlying5 rfl (by exact mem0) (by exact get_bytes oM) ?_
  refine Tr.move rfl rfl rfl ?_
  refine Tr.rem_i64 rfl rfl rfl rfl oM ?_
  refine Tr.shr_u8 rfl rfl rfl rfl (k % 8) oM oM ?_
  refine Tr.and_u8 rfl rfl rfl (show evIn _ _ = some (u8 1) from rfl) ?_
  refine Tr.eqi rfl rfl rfl rfl rfl ?_
  refine Tr.pick rfl rfl rfl rfl rfl rfl ?_
  refine Tr.assign rfl rfl rfl ?_
  refine Tr.nil ?_
  refine at_n ?_
  refine Sat.ret ?_
  refine en_r ?_
  refine ⟨_, [], res_tmp rfl rfl, sP, sP, ?_, rfl⟩
  rw [← bit_and a k]; rfl

end Go.Proofs.YtmddgelpllffoaaGreat
end

section
namespace Go.Proofs.YtmddgelpllffoaaGreat
open Go Hw
set_option linter.unusedVariables false
set_option linter.unusedSimpArgs false

open Ed

/-- a point, and four numbers, in memory -/
def ptc (P : Pt Fp) : Point := ⟨fb P.x, fb P.y⟩
def wdc (w : Wd Fp) : wide := ⟨fb w.x, fb w.y, fb w.z, fb w.t⟩
theorem ptc_ok (P : Pt Fp) : (ptc P).ok := ⟨fb32 _, fb32 _⟩
theorem wdc_ok (w : Wd Fp) : (wdc w).ok := ⟨fb32 _, fb32 _, fb32 _, fb32 _⟩
theorem sees_subC {w : World} {b o off : Nat} {cs l : List Value} (hs : Sees w b o cs) (h : ∀ (j : Nat) (v : Value), l[j]? = some v → cs[off + j]? = some v) : Sees w b (o + off) l := fun j v hj => by
  have := hs _ v (h j v hj)
  rwa [← Nat.add_assoc] at this
theorem ptc_inj {P Q : Pt Fp} : ptc P = ptc Q ↔ P = Q := ⟨fun h => by
  obtain ⟨x, y⟩ := P
  obtain ⟨z, w⟩ := Q
  simp only [ptc, Point.mk.injEq, fb_inj] at h
  rw [h.1, h.2], fun h => by rw [h]⟩

set_option maxRecDepth 100000 in
set_option maxHeartbeats 1000000 in
theorem curve_D  : Meets Tryz.prog 76 [] [] (fun _ => True) (fun v out => v = agg (bytesV (fb fD)) ∧ out = []) := by
  intro W hW
  refine calls_of (hp0 := []) Tryz.func76 rfl 2 Tryz.ntmps76 rfl (HRep.nil _) ?_
  refine Sat.seq ?_
  refine Sat.region ?_
  refine Tr.alloc (cs := (bytesV (List.replicate 32 0))) rfl Zr32 rfl ?_
  intro n0 hn0 hf0
  refine Tr.nil ?_
  refine at_n ?_
  refine Sat.seq ?_
  refine Sat.region ?_
  refine Tr.build (cs := bytesV (fb fD)) rfl rfl rfl (fun w => by kernel_rfl) ?_
  refine Tr.storeAll rfl rfl rfl rfl (by exact bytesV_cell _) Sz32 (by (simp [fb_length]; done)) (by exact mem0) (by (simp; done)) (by exact upd0) ?_
  refine Tr.nil ?_
  refine at_n ?_
  refine Sat.ret ?_
  refine en_r ?_
  refine ⟨_, [], res_cell rfl rfl Tryz.underlying32 rfl Sz32 (by exact mem0) (by simp [fb_length]), sP, sP, ?_, rfl⟩
  rfl

set_option maxRecDepth 100000 in
set_option maxHeartbeats 1000000 in
theorem curve_Zero  : Meets Tryz.prog 81 [] [] (fun _ => True) (fun v out => v = agg (ptc (zero : Pt Fp)).cells ∧ out = []) := by
  intro W hW
  refine calls_of (hp0 := []) Tryz.func81 rfl 3 Tryz.ntmps81 rfl (HRep.nil _) ?_
  refine Sat.seq ?_
  refine Sat.region ?_
  refine Tr.alloc (cs := Point.zero.cells) rfl Point.zr rfl ?_
  intro n0 hn0 hf0
  refine Tr.nil ?_
  refine at_n ?_
  refine Sat.seq ?_
  refine Sat.region ?_
  refine Tr.callV rfl rfl rfl rfl Body74 (f_one) (fun _ _ => trivial) ?_
  refine Tr.build (cs := (⟨fb 0, fb 1⟩ : Point).cells) rfl rfl rfl (fun w => by kernel_rfl) ?_
  refine Tr.storeAll rfl rfl rfl rfl (Point.isCell (by exact ⟨fb32 _, fb32 _⟩)) Sz41 (Point.length (by exact ⟨fb32 _, fb32 _⟩)) (by exact mem0) (Point.length (by exact Point.zero_ok)) (by exact upd0) ?_
  refine Tr.nil ?_
  refine at_n ?_
  refine Sat.ret ?_
  refine en_r ?_
  refine ⟨_, [], res_cell rfl rfl Tryz.underlying41 rfl Sz41 (by exact mem0) (by exact Point.length (by exact ⟨fb32 _, fb32 _⟩)), sP, sP, ?_, rfl⟩
  rfl

theorem base_len {k : Nat} (h : k ≤ 32) : (bytesV (bX ++ (List.replicate k 102 ++ List.replicate (32 - k) 0))).length = 64 := by
  rw [bytesV, List.length_map, List.length_append, List.length_append, List.length_replicate, List.length_replicate, show bX.length = 32 from rfl]; omega
theorem base_step {k : Nat} (h : k < 32) : (bX ++ (List.replicate k (102 : UInt8) ++ List.replicate (32 - k) 0)).set (32 + k) 102 = bX ++ (List.replicate (k + 1) 102 ++ List.replicate (32 - (k + 1)) 0) := by
  rw [List.set_append_right _ _ (by rw [show bX.length = 32 from rfl]; omega), show bX.length = 32 from rfl, show 32 + k - 32 = k by omega, show 32 - k = (32 - (k + 1)) + 1 by omega, List.replicate_succ, List.set_append_right _ _ sP]
  simp [List.replicate_succ']
theorem base_end : bytesV ((bX ++ (List.replicate 32 (102 : UInt8) ++ List.replicate (32 - 32) 0)).set 32 88) = (ptc bP).cells := by
  show _ = bytesV (fb bP.x) ++ bytesV (fb bP.y)
  rw [bP_x, bP_y]
  kernel_rfl

set_option maxRecDepth 100000 in
set_option maxHeartbeats 2000000 in
theorem curve_Base  : Meets Tryz.prog 37 [] [] (fun _ => True) (fun v out => v = agg (ptc bP).cells ∧ out = []) := by
  intro W hW
  refine calls_of (hp0 := []) Tryz.func37 rfl 15 Tryz.ntmps37 rfl (HRep.nil _) ?_
  refine Sat.seq ?_
  refine Sat.region ?_
  refine Tr.alloc (cs := Point.zero.cells) rfl Point.zr rfl ?_
  intro n0 hn0 hf0
  refine Tr.nil ?_
  refine at_n ?_
  refine Sat.seq ?_
  refine Sat.region ?_
  refine Tr.build (cs := bytesV bX) rfl rfl rfl (fun w => by kernel_rfl) ?_
  refine Tr.build (cs := (⟨bX, List.replicate 32 0⟩ : Point).cells) rfl rfl rfl (fun w => by kernel_rfl) ?_
  refine Tr.alloc (cs := Point.zero.cells) rfl Point.zr rfl ?_
  intro n1 hn1 hf1
  refine Tr.storeAll rfl rfl rfl rfl (Point.isCell (by exact ⟨rfl, rfl⟩)) Sz41 (Point.length (by exact ⟨rfl, rfl⟩)) (by exact mem0) (Point.length (by exact ⟨rfl, rfl⟩)) (by exact upd0) ?_
  refine Tr.nil ?_
  refine at_n ?_
  refine Sat.seq ?_
  refine Sat.seq ?_
  refine Sat.region ?_
  refine Tr.move rfl rfl rfl ?_
  refine Tr.nil ?_
  refine at_n ?_
  refine Sat.block ?_
  refine Sat.loop (ι := Nat) (fun k => ⟨[(0, ptr n0 0), (1, ptr n1 0), (5, i64 (k : Int))], [⟨n1, bytesV (bX ++ (List.replicate k 102 ++ List.replicate (32 - k) 0)), 41, 64⟩, ⟨n0, Point.zero.cells, 41, 64⟩]⟩) (fun k => k ≤ 32) (fun k => 32 - k) (0) ?_ ?_ ?_
  · omega
  · exact weak_of (wk1 rfl (wk1 rfl (wk1 rfl wk0))) (wh1 (by rw [show bytesV (bX ++ (List.replicate 0 102 ++ List.replicate (32 - 0) 0)) = (⟨bX, List.replicate 32 0⟩ : Point).cells from by kernel_rfl]; exact mem0) (wh1 (by exact mem1) wh0)) (by repeat (first | exact ns_nil | refine ns_keep rfl ?_))
  ·
    rintro k hi
    refine Sat.seq ?_
    refine Sat.region ?_
    refine Tr.lss rfl rfl rfl rfl rfl ?_
    refine Tr.nil ?_
    refine at_n ?_
    refine Sat.seq ?_
    refine Sat.condP rfl (fun hc0 => ?_) (fun hc0 => ?_)
    ·
      have hk2 : k < 32 := by omega
      refine Sat.skip ?_
      refine at_n ?_
      refine Sat.seq ?_
      refine Sat.block ?_
      refine Sat.seq ?_
      refine Sat.region ?_
      refine Tr.move rfl rfl rfl ?_
      refine Tr.assign rfl rfl rfl ?_
      refine Tr.nil ?_
      refine at_n ?_
      refine Sat.region ?_
      refine Tr.move rfl rfl rfl ?_
      refine Tr.fld rfl rfl rfl Tryz.underlying41 rfl Sz32 dE _ rfl ?_
      refine Tr.idxArrO rfl rfl rfl rfl Tryz.underlying32 Sz5 k rfl oM ?_
      refine Tr.store1 rfl rfl rfl rfl rfl Sz5 (by exact mem0) (by rw [base_len oM]; exact (show 32 + k < 64 by omega)) (by exact set_bytes _ (32 + k) 102) (by exact upd0) ?_
      refine Tr.nil ?_
      refine bl_n ?_
      refine at_n ?_
      refine Sat.region ?_
      refine Tr.add_i64 rfl rfl rfl rfl oM ?_
      refine Tr.move rfl rfl rfl ?_
      refine Tr.nil ?_
      refine at_n ?_
      exact ⟨k + 1, by omega, by omega, weak_of (wk1 rfl (wk1 rfl (wk1 rfl wk0))) (wh1 (by rw [← base_step hk2]; exact mem0) (wh1 (by exact mem1) wh0)) (by repeat (first | exact ns_nil | refine ns_keep rfl ?_))⟩
    ·
      obtain rfl : k = 32 := by omega
      refine Sat.exit ?_
      refine at_x ?_
      refine at_x ?_
      refine bl_h ?_
      refine at_n ?_
      refine Sat.seq ?_
      refine Sat.region ?_
      refine Tr.fld rfl rfl rfl Tryz.underlying41 rfl Sz32 dE _ rfl ?_
      refine Tr.idxArrO rfl rfl rfl rfl Tryz.underlying32 Sz5 0 rfl dE ?_
      refine Tr.store1 rfl rfl rfl rfl rfl Sz5 (by exact mem0) (by rw [base_len oM]; exact (show 32 + 0 < 64 by decide)) (by exact set_bytes _ (32 + 0) 88) (by exact upd0) ?_
      rw [base_end]
      refine Tr.nil ?_
      refine at_n ?_
      refine Sat.seq ?_
      refine Sat.region ?_
      refine Tr.loadAll rfl rfl rfl Tryz.underlying41 rfl Sz41 (by exact mem0) (Point.length (by exact ptc_ok _)) ?_
      refine Tr.storeAll rfl rfl rfl rfl (Point.isCell (by exact ptc_ok _)) Sz41 (Point.length (by exact ptc_ok _)) (by exact mem1) (Point.length (by exact ⟨rfl, rfl⟩)) (by exact upd1) ?_
      refine Tr.nil ?_
      refine at_n ?_
      refine Sat.ret ?_
      refine en_r ?_
      refine ⟨_, [], res_cell rfl rfl Tryz.underlying41 rfl Sz41 (by exact mem1) (by exact Point.length (by exact ptc_ok _)), sP, sP, ?_, rfl⟩
      rfl

set_option maxRecDepth 100000 in
set_option maxHeartbeats 4000000 in
theorem curve_Check (p : Point) (hp : p.ok) : Meets Tryz.prog 80 [agg p.cells] [] (fun _ => True) (fun v out => v = i64 (pchk p.fX p.fY) ∧ out = []) := by
  intro W hW
  refine calls_of (hp0 := []) Tryz.func80 rfl 38 Tryz.ntmps80 rfl (HRep.nil _) ?_
  refine Sat.seq ?_
  refine Sat.region ?_
  refine Tr.boxA rfl rfl ?_
  intro n1 hn1 hf1
  refine Tr.assign rfl rfl rfl ?_
  refine Tr.nil ?_
  refine at_n ?_
  refine Sat.seq ?_
  refine Sat.seq ?_
  refine Sat.region ?_
  refine Tr.fld rfl rfl rfl Tryz.underlying41 rfl Sz32 dE _ rfl ?_
  refine Tr.loadN (bytesV _) rfl rfl rfl Tryz.underlying32 rfl Sz32 (by exact mem0) (Point.row_fX (by exact hp)) (Point.rl_fX (by exact hp)) ?_
  refine Tr.callB rfl rfl rfl rfl Body71 (field_Canon p.fX hp.l_fX) (fun _ _ => trivial) (fun hs1_20 => ?_) (fun hs1_20 => ?_)
  ·
    have hs1_2 := of_decide_eq_true hs1_20
    refine Tr.not rfl rfl rfl ?_
    refine Tr.move rfl rfl rfl ?_
    refine Tr.fld rfl rfl rfl Tryz.underlying41 rfl Sz32 dE _ rfl ?_
    refine Tr.loadN (bytesV _) rfl rfl rfl Tryz.underlying32 rfl Sz32 (by exact mem0) (Point.row_fY (by exact hp)) (Point.rl_fY (by exact hp)) ?_
    refine Tr.callB rfl rfl rfl rfl Body71 (field_Canon p.fY hp.l_fY) (fun _ _ => trivial) (fun hs1_70 => ?_) (fun hs1_70 => ?_)
    ·
      have hs1_7 := of_decide_eq_true hs1_70
      refine Tr.not rfl rfl rfl ?_
      refine Tr.pick rfl rfl rfl rfl rfl rfl ?_
      refine Tr.nil ?_
      refine at_n ?_
      refine Sat.cond_f rfl rfl ?_
      refine Sat.skip ?_
      refine at_n ?_
      refine Sat.seq ?_
      refine Sat.draw [(0, 0), (1, 1), (0, 2), (1, 3), (0, 5), (1, 6), (0, 7), (1, 8), (3, 4), (3, 9), (2, 10), (2, 11), (4, 12), (4, 13)] Mixed (by kernel_rfl) ?_
      refine Tr.fld rfl rfl rfl Tryz.underlying41 rfl Sz32 dE _ rfl ?_
      refine Tr.loadN (bytesV _) rfl rfl rfl Tryz.underlying32 rfl Sz32 (by exact mem0) (Point.row_fX (by exact hp)) (Point.rl_fX (by exact hp)) ?_
      refine Tr.fld rfl rfl rfl Tryz.underlying41 rfl Sz32 dE _ rfl ?_
      refine Tr.loadN (bytesV _) rfl rfl rfl Tryz.underlying32 rfl Sz32 (by exact mem0) (Point.row_fX (by exact hp)) (Point.rl_fX (by exact hp)) ?_
      refine Tr.fld rfl rfl rfl Tryz.underlying41 rfl Sz32 dE _ rfl ?_
      refine Tr.loadN (bytesV _) rfl rfl rfl Tryz.underlying32 rfl Sz32 (by exact mem0) (Point.row_fY (by exact hp)) (Point.rl_fY (by exact hp)) ?_
      refine Tr.fld rfl rfl rfl Tryz.underlying41 rfl Sz32 dE _ rfl ?_
      refine Tr.loadN (bytesV _) rfl rfl rfl Tryz.underlying32 rfl Sz32 (by exact mem0) (Point.row_fY (by exact hp)) (Point.rl_fY (by exact hp)) ?_
      refine Tr.callV rfl rfl rfl rfl Body72 (field_Mul p.fX p.fX hp.l_fX hp.l_fX) (fun _ _ => trivial) ?_
      refine Tr.callV rfl rfl rfl rfl Body72 (field_Mul p.fY p.fY hp.l_fY hp.l_fY) (fun _ _ => trivial) ?_
      refine Tr.alloc (cs := (bytesV (List.replicate 32 0))) rfl Zr32 rfl ?_
      intro n3 hn3 hf3
      refine Tr.alloc (cs := (bytesV (List.replicate 32 0))) rfl Zr32 rfl ?_
      intro n4 hn4 hf4
      refine Tr.storeAll rfl rfl rfl rfl (by exact bytesV_cell _) Sz32 (by (simp [fb_length]; done)) (by exact mem1) (by (simp; done)) (by exact upd1) ?_
      refine Tr.storeAll rfl rfl rfl rfl (by exact bytesV_cell _) Sz32 (by (simp [fb_length]; done)) (by exact mem0) (by (simp; done)) (by exact upd0) ?_
      refine Tr.nil ?_
      refine at_n ?_
      refine Sat.seq ?_
      refine Sat.draw [(1, 2), (1, 3), (3, 0), (3, 1), (3, 4), (3, 5), (3, 6), (2, 7), (4, 8)] Mixed (by kernel_rfl) ?_
      refine Tr.loadAll rfl rfl rfl Tryz.underlying32 rfl Sz32 (by exact mem1) (by (simp [fb_length]; done)) ?_
      refine Tr.loadAll rfl rfl rfl Tryz.underlying32 rfl Sz32 (by exact mem0) (by (simp [fb_length]; done)) ?_
      refine Tr.callV rfl rfl rfl rfl Body74 (f_one) (fun _ _ => trivial) ?_
      refine Tr.callV rfl rfl rfl rfl Body76 (curve_D) (fun _ _ => trivial) ?_
      refine Tr.callV rfl rfl rfl rfl Body72 (f_mul _ _) (fun _ _ => trivial) ?_
      refine Tr.callV rfl rfl rfl rfl Body72 (f_mul _ _) (fun _ _ => trivial) ?_
      refine Tr.callV rfl rfl rfl rfl Body75 (f_add _ _) (fun _ _ => trivial) ?_
      refine Tr.alloc (cs := (bytesV (List.replicate 32 0))) rfl Zr32 rfl ?_
      intro n5 hn5 hf5
      refine Tr.storeAll rfl rfl rfl rfl (by exact bytesV_cell _) Sz32 (by (simp [fb_length]; done)) (by exact mem0) (by (simp; done)) (by exact upd0) ?_
      refine Tr.nil ?_
      refine at_n ?_
      refine Sat.seq ?_
      refine Sat.seq ?_
      refine Sat.draw [(1, 0), (1, 1), (1, 3), (3, 2), (0, 4)] Mixed (by kernel_rfl) ?_
      refine Tr.loadAll rfl rfl rfl Tryz.underlying32 rfl Sz32 (by exact mem1) (by (simp [fb_length]; done)) ?_
      refine Tr.loadAll rfl rfl rfl Tryz.underlying32 rfl Sz32 (by exact mem2) (by (simp [fb_length]; done)) ?_
      refine Tr.loadAll rfl rfl rfl Tryz.underlying32 rfl Sz32 (by exact mem0) (by (simp [fb_length]; done)) ?_
      refine Tr.callV rfl rfl rfl rfl Body73 (f_sub _ _) (fun _ _ => trivial) ?_
      refine Tr.neq_bytes rfl rfl rfl rfl Tryz.eqGuardType32 Tryz.underlying32 Tryz.underlying5 Sz5 (by (simp [fb_length]; done)) (by (simp [fb_length]; done)) rfl ?_
      refine Tr.nil ?_
      refine at_n ?_
      refine Sat.condNP rfl (fun hc1 => ?_) (fun hc1 => ?_)
      ·
        refine Sat.seq ?_
        refine Sat.region ?_
        refine Tr.assign rfl rfl rfl ?_
        refine Tr.nil ?_
        refine at_n ?_
        refine Sat.ret ?_
        refine at_r ?_
        refine en_r ?_
        refine ⟨_, [], res_tmp rfl rfl, sP, sP, ?_, rfl⟩
        unfold pchk
        exact congrArg i64 (if_neg (fun h => by exact hc1 (fb_inj.2 h.2.2))).symm
      ·
        refine Sat.skip ?_
        refine at_n ?_
        refine Sat.seq ?_
        refine Sat.region ?_
        refine Tr.assign rfl rfl rfl ?_
        refine Tr.nil ?_
        refine at_n ?_
        refine Sat.ret ?_
        refine en_r ?_
        refine ⟨_, [], res_tmp rfl rfl, sP, sP, ?_, rfl⟩
        unfold pchk
        exact congrArg i64 (if_pos ⟨hs1_2, hs1_7, fb_inj.1 hc1⟩).symm
    ·
      have hs1_7 := of_decide_eq_false hs1_70
      refine Tr.not rfl rfl rfl ?_
      refine Tr.pick rfl rfl rfl rfl rfl rfl ?_
      refine Tr.nil ?_
      refine at_n ?_
      refine Sat.cond_t rfl rfl ?_
      refine Sat.seq ?_
      refine Sat.region ?_
      refine Tr.assign rfl rfl rfl ?_
      refine Tr.nil ?_
      refine at_n ?_
      refine Sat.ret ?_
      refine at_r ?_
      refine en_r ?_
      refine ⟨_, [], res_tmp rfl rfl, sP, sP, ?_, rfl⟩
      unfold pchk
      exact congrArg i64 (if_neg (fun h => by exact hs1_7 h.2.1)).symm
  ·
    have hs1_2 := of_decide_eq_false hs1_20
    refine Tr.not rfl rfl rfl ?_
    refine Tr.move rfl rfl rfl ?_
    refine Tr.skp rfl rfl ?_
    refine Tr.skp rfl rfl ?_
    refine Tr.skp rfl rfl ?_
    refine Tr.skp rfl rfl ?_
    refine Tr.pick rfl rfl rfl rfl rfl rfl ?_
    refine Tr.nil ?_
    refine at_n ?_
    refine Sat.cond_t rfl rfl ?_
    refine Sat.seq ?_
    refine Sat.region ?_
    refine Tr.assign rfl rfl rfl ?_
    refine Tr.nil ?_
    refine at_n ?_
    refine Sat.ret ?_
    refine at_r ?_
    refine en_r ?_
    refine ⟨_, [], res_tmp rfl rfl, sP, sP, ?_, rfl⟩
    unfold pchk
    exact congrArg i64 (if_neg (fun h => by exact hs1_2 h.1)).symm

theorem curve_Check_on (P : Pt Fp) (h : cv.on P) : Meets Tryz.prog 80 [agg (ptc P).cells] [] (fun _ => True) (fun v out => v = i64 0 ∧ out = []) := by
  have h1 := curve_Check (ptc P) (ptc_ok P)
  rwa [show pchk (ptc P).fX (ptc P).fY = 0 from pchk_on h] at h1

set_option maxRecDepth 100000 in
set_option maxHeartbeats 2000000 in
theorem curve_widen (P : Pt Fp) : Meets Tryz.prog 82 [agg (ptc P).cells] [] (fun _ => True) (fun v out => v = agg (wdc (Wd.of P)).cells ∧ out = []) := by
  intro W hW
  refine calls_of (hp0 := []) Tryz.func82 rfl 14 Tryz.ntmps82 rfl (HRep.nil _) ?_
  refine Sat.seq ?_
  refine Sat.region ?_
  refine Tr.boxA rfl rfl ?_
  intro n1 hn1 hf1
  refine Tr.alloc (cs := wide.zero.cells) rfl wide.zr rfl ?_
  intro n2 hn2 hf2
  refine Tr.nil ?_
  refine at_n ?_
  refine Sat.seq ?_
  refine Sat.draw [(0, 0), (1, 1), (0, 2), (1, 3), (0, 5), (1, 6), (0, 7), (1, 8), (3, 4), (3, 9), (0, 10), (4, 11)] Mixed (by kernel_rfl) ?_
  refine Tr.fld rfl rfl rfl Tryz.underlying41 rfl Sz32 dE _ rfl ?_
  refine Tr.loadN (bytesV _) rfl rfl rfl Tryz.underlying32 rfl Sz32 (by exact mem1) (Point.row_fX (by exact ptc_ok _)) (Point.rl_fX (by exact ptc_ok _)) ?_
  refine Tr.fld rfl rfl rfl Tryz.underlying41 rfl Sz32 dE _ rfl ?_
  refine Tr.loadN (bytesV _) rfl rfl rfl Tryz.underlying32 rfl Sz32 (by exact mem1) (Point.row_fY (by exact ptc_ok _)) (Point.rl_fY (by exact ptc_ok _)) ?_
  refine Tr.fld rfl rfl rfl Tryz.underlying41 rfl Sz32 dE _ rfl ?_
  refine Tr.loadN (bytesV _) rfl rfl rfl Tryz.underlying32 rfl Sz32 (by exact mem1) (Point.row_fX (by exact ptc_ok _)) (Point.rl_fX (by exact ptc_ok _)) ?_
  refine Tr.fld rfl rfl rfl Tryz.underlying41 rfl Sz32 dE _ rfl ?_
  refine Tr.loadN (bytesV _) rfl rfl rfl Tryz.underlying32 rfl Sz32 (by exact mem1) (Point.row_fY (by exact ptc_ok _)) (Point.rl_fY (by exact ptc_ok _)) ?_
  refine Tr.callV rfl rfl rfl rfl Body74 (f_one) (fun _ _ => trivial) ?_
  refine Tr.callV rfl rfl rfl rfl Body72 (f_mul P.x P.y) (fun _ _ => trivial) ?_
  refine Tr.build (cs := (wdc (Wd.of P)).cells) rfl rfl rfl (fun w => by kernel_rfl) ?_
  refine Tr.storeAll rfl rfl rfl rfl (wide.isCell (by exact wdc_ok _)) Sz98 (wide.length (by exact wdc_ok _)) (by exact mem0) (wide.length (by exact wide.zero_ok)) (by exact upd0) ?_
  refine Tr.nil ?_
  refine at_n ?_
  refine Sat.ret ?_
  refine en_r ?_
  refine ⟨_, [], res_cell rfl rfl Tryz.underlying98 rfl Sz98 (by exact mem0) (by exact wide.length (by exact wdc_ok _)), sP, sP, ?_, rfl⟩
  rfl

set_option maxRecDepth 100000 in
set_option maxHeartbeats 2000000 in
theorem wide_point (n : Nat) (w : Wd Fp) : Meets Tryz.prog 86 [ptr n 0] [] (fun W => Sees W n 0 (wdc w).cells) (fun v out => v = agg (ptc (⟨w.x * finv w.z, w.y * finv w.z⟩ : Pt Fp)).cells ∧ out = []) := by
  intro W hW
  have hinv := f_inv w.z
  revert hinv
  generalize finv w.z = iz
  intro hinv
  refine calls_of (hp0 := []) Tryz.func86 rfl 22 Tryz.ntmps86 rfl (HRep.nil _) ?_
  refine Sat.seq ?_
  refine Sat.region ?_
  refine Tr.alloc (cs := Point.zero.cells) rfl Point.zr rfl ?_
  intro n2 hn2 hf2
  refine Tr.nil ?_
  refine at_n ?_
  refine Sat.seq ?_
  refine Sat.region ?_
  refine Tr.move rfl rfl rfl ?_
  refine Tr.nilChk rfl rfl rfl ?_
  refine Tr.fld rfl rfl rfl Tryz.underlying98 rfl Sz32 dE _ rfl ?_
  refine Tr.loadEN (bytesV (fb w.z)) rfl rfl rfl Tryz.underlying32 rfl Sz32 sP (by rw [bytesV, List.length_map, fb_length]) (sees_subC hW (wide.see_fZ (wdc_ok w))) ?_
  refine Tr.callV rfl rfl rfl rfl Body78 (hinv) (fun _ _ => trivial) ?_
  refine Tr.alloc (cs := (bytesV (List.replicate 32 0))) rfl Zr32 rfl ?_
  intro n3 hn3 hf3
  refine Tr.storeAll rfl rfl rfl rfl (by exact bytesV_cell _) Sz32 (by (simp [fb_length]; done)) (by exact mem0) (by (simp; done)) (by exact upd0) ?_
  refine Tr.nil ?_
  refine at_n ?_
  refine Sat.seq ?_
  refine Sat.draw [(0, 0), (0, 1), (0, 2), (1, 3), (1, 4), (0, 6), (0, 7), (0, 8), (1, 9), (1, 10), (3, 5), (3, 11), (0, 12), (4, 13)] Mixed (by kernel_rfl) ?_
  refine Tr.move rfl rfl rfl ?_
  refine Tr.nilChk rfl rfl rfl ?_
  refine Tr.fld rfl rfl rfl Tryz.underlying98 rfl Sz32 dE _ rfl ?_
  refine Tr.loadEN (bytesV (fb w.x)) rfl rfl rfl Tryz.underlying32 rfl Sz32 sP (by rw [bytesV, List.length_map, fb_length]) (sees_subC hW (wide.see_fX (wdc_ok w))) ?_
  refine Tr.loadAll rfl rfl rfl Tryz.underlying32 rfl Sz32 (by exact mem0) (by (simp [fb_length]; done)) ?_
  refine Tr.move rfl rfl rfl ?_
  refine Tr.nilChk rfl rfl rfl ?_
  refine Tr.fld rfl rfl rfl Tryz.underlying98 rfl Sz32 dE _ rfl ?_
  refine Tr.loadEN (bytesV (fb w.y)) rfl rfl rfl Tryz.underlying32 rfl Sz32 sP (by rw [bytesV, List.length_map, fb_length]) (sees_subC hW (wide.see_fY (wdc_ok w))) ?_
  refine Tr.loadAll rfl rfl rfl Tryz.underlying32 rfl Sz32 (by exact mem0) (by (simp [fb_length]; done)) ?_
  refine Tr.callV rfl rfl rfl rfl Body72 (f_mul _ _) (fun _ _ => trivial) ?_
  refine Tr.callV rfl rfl rfl rfl Body72 (f_mul _ _) (fun _ _ => trivial) ?_
  refine Tr.build (cs := (ptc (⟨w.x * iz, w.y * iz⟩ : Pt Fp)).cells) rfl rfl rfl (fun w => by kernel_rfl) ?_
  refine Tr.storeAll rfl rfl rfl rfl (Point.isCell (by exact ptc_ok _)) Sz41 (Point.length (by exact ptc_ok _)) (by exact mem1) (Point.length (by exact Point.zero_ok)) (by exact upd1) ?_
  refine Tr.nil ?_
  refine at_n ?_
  refine Sat.ret ?_
  refine en_r ?_
  refine ⟨_, [], res_cell rfl rfl Tryz.underlying41 rfl Sz41 (by exact mem1) (by exact Point.length (by exact ptc_ok _)), sP, sP, ?_, rfl⟩
  rfl

set_option maxRecDepth 100000 in
set_option maxHeartbeats 4000000 in
theorem wide_finish (n : Nat) (w : Wd Fp) (e f g h : Fp) : Meets Tryz.prog 119 [ptr n 0, agg (bytesV (fb e)), agg (bytesV (fb f)), agg (bytesV (fb g)), agg (bytesV (fb h))] [n] (fun W => BlkOk W ⟨n, (wdc w).cells, 98, 128⟩) (fun v out => out = [⟨n, (wdc (Wd.fin e f g h)).cells, 98, 128⟩]) := by
  intro W hW
  refine calls_of (hp0 := [⟨n, (wdc w).cells, 98, 128⟩]) Tryz.func119 rfl 34 Tryz.ntmps119 rfl (HRep.one hW) ?_
  refine Sat.seq ?_
  refine Sat.region ?_
  refine Tr.boxA rfl rfl ?_
  intro n6 hn6 hf6
  refine Tr.boxA rfl rfl ?_
  intro n7 hn7 hf7
  refine Tr.boxA rfl rfl ?_
  intro n8 hn8 hf8
  refine Tr.boxA rfl rfl ?_
  intro n9 hn9 hf9
  refine Tr.nil ?_
  refine at_n ?_
  refine Sat.seq ?_
  refine Sat.draw [(0, 0), (0, 1), (1, 2), (1, 3), (1, 5), (1, 6), (3, 4), (3, 7), (0, 8), (0, 9), (4, 10), (0, 11), (0, 12), (4, 13)] Mixed (by kernel_rfl) ?_
  refine Tr.move rfl rfl rfl ?_
  refine Tr.move rfl rfl rfl ?_
  refine Tr.loadAll rfl rfl rfl Tryz.underlying32 rfl Sz32 (by exact mem3) (by (simp [fb_length]; done)) ?_
  refine Tr.loadAll rfl rfl rfl Tryz.underlying32 rfl Sz32 (by exact mem2) (by (simp [fb_length]; done)) ?_
  refine Tr.loadAll rfl rfl rfl Tryz.underlying32 rfl Sz32 (by exact mem1) (by (simp [fb_length]; done)) ?_
  refine Tr.loadAll rfl rfl rfl Tryz.underlying32 rfl Sz32 (by exact mem0) (by (simp [fb_length]; done)) ?_
  refine Tr.callV rfl rfl rfl rfl Body72 (f_mul _ _) (fun _ _ => trivial) ?_
  refine Tr.callV rfl rfl rfl rfl Body72 (f_mul _ _) (fun _ _ => trivial) ?_
  refine Tr.nilChk rfl rfl rfl ?_
  refine Tr.fld rfl rfl rfl Tryz.underlying98 rfl Sz32 dE _ rfl ?_
  refine Tr.storeN (bytesV _) rfl rfl rfl rfl rfl (by exact bytesV_cell _) Sz32 (by simp [fb_length]) (by exact mem4) (by rw [wide.length (by exact wdc_ok _)]; simp [fb_length]) (wide.upd_fX (by exact wdc_ok _) _ (by simp [fb_length])) (by exact upd4) ?_
  refine Tr.nilChk rfl rfl rfl ?_
  refine Tr.fld rfl rfl rfl Tryz.underlying98 rfl Sz32 dE _ rfl ?_
  refine Tr.storeN (bytesV _) rfl rfl rfl rfl rfl (by exact bytesV_cell _) Sz32 (by simp [fb_length]) (by exact mem4) (by rw [wide.length (by exact ⟨fb32 _, fb32 _, fb32 _, fb32 _⟩)]; simp [fb_length]) (wide.upd_fY (by exact ⟨fb32 _, fb32 _, fb32 _, fb32 _⟩) _ (by simp [fb_length])) (by exact upd4) ?_
  refine Tr.nil ?_
  refine at_n ?_
  refine Sat.draw [(0, 0), (0, 1), (1, 2), (1, 3), (1, 5), (1, 6), (3, 4), (3, 7), (0, 8), (0, 9), (4, 10), (0, 11), (0, 12), (4, 13)] Mixed (by kernel_rfl) ?_
  refine Tr.move rfl rfl rfl ?_
  refine Tr.move rfl rfl rfl ?_
  refine Tr.loadAll rfl rfl rfl Tryz.underlying32 rfl Sz32 (by exact mem2) (by (simp [fb_length]; done)) ?_
  refine Tr.loadAll rfl rfl rfl Tryz.underlying32 rfl Sz32 (by exact mem1) (by (simp [fb_length]; done)) ?_
  refine Tr.loadAll rfl rfl rfl Tryz.underlying32 rfl Sz32 (by exact mem3) (by (simp [fb_length]; done)) ?_
  refine Tr.loadAll rfl rfl rfl Tryz.underlying32 rfl Sz32 (by exact mem0) (by (simp [fb_length]; done)) ?_
  refine Tr.callV rfl rfl rfl rfl Body72 (f_mul _ _) (fun _ _ => trivial) ?_
  refine Tr.callV rfl rfl rfl rfl Body72 (f_mul _ _) (fun _ _ => trivial) ?_
  refine Tr.nilChk rfl rfl rfl ?_
  refine Tr.fld rfl rfl rfl Tryz.underlying98 rfl Sz32 dE _ rfl ?_
  refine Tr.storeN (bytesV _) rfl rfl rfl rfl rfl (by exact bytesV_cell _) Sz32 (by simp [fb_length]) (by exact mem4) (by rw [wide.length (by exact ⟨fb32 _, fb32 _, fb32 _, fb32 _⟩)]; simp [fb_length]) (wide.upd_fZ (by exact ⟨fb32 _, fb32 _, fb32 _, fb32 _⟩) _ (by simp [fb_length])) (by exact upd4) ?_
  refine Tr.nilChk rfl rfl rfl ?_
  refine Tr.fld rfl rfl rfl Tryz.underlying98 rfl Sz32 dE _ rfl ?_
  refine Tr.storeN (bytesV _) rfl rfl rfl rfl rfl (by exact bytesV_cell _) Sz32 (by simp [fb_length]) (by exact mem4) (by rw [wide.length (by exact ⟨fb32 _, fb32 _, fb32 _, fb32 _⟩)]; simp [fb_length]) (wide.upd_fT (by exact ⟨fb32 _, fb32 _, fb32 _, fb32 _⟩) _ (by simp [fb_length])) (by exact upd4) ?_
  refine Tr.nil ?_
  refine en_n ?_
  exact ⟨_, [⟨n, (wdc (Wd.fin e f g h)).cells, 98, 128⟩], res_none rfl, (fun b hb => by rw [List.mem_singleton.1 hb]; exact (by exact mem4)), nodup1, rfl⟩

set_option maxRecDepth 100000 in
set_option maxHeartbeats 8000000 in
theorem wide_add (n q : Nat) (w p : Wd Fp) (tw : Fp) : Meets Tryz.prog 83 [ptr n 0, ptr q 0, agg (bytesV (fb tw))] [n] (fun W => BlkOk W ⟨n, (wdc w).cells, 98, 128⟩ ∧ Sees W q 0 (wdc p).cells ∧ q ≠ n) (fun v out => out = [⟨n, (wdc (Wd.fin ((w.y + w.x) * (p.y + p.x) - (w.y - w.x) * (p.y - p.x)) (w.z * p.z + w.z * p.z - w.t * tw * p.t) (w.z * p.z + w.z * p.z + w.t * tw * p.t) ((w.y + w.x) * (p.y + p.x) + (w.y - w.x) * (p.y - p.x)))).cells, 98, 128⟩]) := by
  intro W hW
  refine calls_of (hp0 := [⟨n, (wdc w).cells, 98, 128⟩]) Tryz.func83 rfl 85 Tryz.ntmps83 rfl (HRep.one hW.1) ?_
  refine Sat.seq ?_
  refine Sat.region ?_
  refine Tr.boxA rfl rfl ?_
  intro n5 hn5 hf5
  refine Tr.nil ?_
  refine at_n ?_
  refine Sat.seq ?_
  refine Sat.draw [(0, 0), (0, 1), (0, 2), (1, 3), (0, 4), (0, 5), (0, 6), (1, 7), (0, 9), (0, 10), (0, 11), (1, 12), (0, 13), (0, 14), (0, 15), (1, 16), (3, 8), (3, 17), (3, 18), (2, 19), (4, 20)] Mixed (by kernel_rfl) ?_
  refine Tr.move rfl rfl rfl ?_
  refine Tr.nilChk rfl rfl rfl ?_
  refine Tr.fld rfl rfl rfl Tryz.underlying98 rfl Sz32 dE _ rfl ?_
  refine Tr.loadN (bytesV _) rfl rfl rfl Tryz.underlying32 rfl Sz32 (by exact mem1) (wide.row_fY (by exact wdc_ok _)) (wide.rl_fY (by exact wdc_ok _)) ?_
  refine Tr.move rfl rfl rfl ?_
  refine Tr.nilChk rfl rfl rfl ?_
  refine Tr.fld rfl rfl rfl Tryz.underlying98 rfl Sz32 dE _ rfl ?_
  refine Tr.loadN (bytesV _) rfl rfl rfl Tryz.underlying32 rfl Sz32 (by exact mem1) (wide.row_fX (by exact wdc_ok _)) (wide.rl_fX (by exact wdc_ok _)) ?_
  refine Tr.move rfl rfl rfl ?_
  refine Tr.nilChk rfl rfl rfl ?_
  refine Tr.fld rfl rfl rfl Tryz.underlying98 rfl Sz32 dE _ rfl ?_
  refine Tr.loadEN (bytesV (fb p.y)) rfl rfl rfl Tryz.underlying32 rfl Sz32 (by simp; exact hW.2.2) (by rw [bytesV, List.length_map, fb_length]) (sees_subC hW.2.1 (wide.see_fY (wdc_ok p))) ?_
  refine Tr.move rfl rfl rfl ?_
  refine Tr.nilChk rfl rfl rfl ?_
  refine Tr.fld rfl rfl rfl Tryz.underlying98 rfl Sz32 dE _ rfl ?_
  refine Tr.loadEN (bytesV (fb p.x)) rfl rfl rfl Tryz.underlying32 rfl Sz32 (by simp; exact hW.2.2) (by rw [bytesV, List.length_map, fb_length]) (sees_subC hW.2.1 (wide.see_fX (wdc_ok p))) ?_
  refine Tr.callV rfl rfl rfl rfl Body73 (f_sub _ _) (fun _ _ => trivial) ?_
  refine Tr.callV rfl rfl rfl rfl Body73 (f_sub _ _) (fun _ _ => trivial) ?_
  refine Tr.callV rfl rfl rfl rfl Body72 (f_mul _ _) (fun _ _ => trivial) ?_
  refine Tr.alloc (cs := (bytesV (List.replicate 32 0))) rfl Zr32 rfl ?_
  intro n6 hn6 hf6
  refine Tr.storeAll rfl rfl rfl rfl (by exact bytesV_cell _) Sz32 (by (simp [fb_length]; done)) (by exact mem0) (by (simp; done)) (by exact upd0) ?_
  refine Tr.nil ?_
  refine at_n ?_
  refine Sat.seq ?_
  refine Sat.draw [(0, 0), (0, 1), (0, 2), (1, 3), (0, 4), (0, 5), (0, 6), (1, 7), (0, 9), (0, 10), (0, 11), (1, 12), (0, 13), (0, 14), (0, 15), (1, 16), (3, 8), (3, 17), (3, 18), (2, 19), (4, 20)] Mixed (by kernel_rfl) ?_
  refine Tr.move rfl rfl rfl ?_
  refine Tr.nilChk rfl rfl rfl ?_
  refine Tr.fld rfl rfl rfl Tryz.underlying98 rfl Sz32 dE _ rfl ?_
  refine Tr.loadN (bytesV _) rfl rfl rfl Tryz.underlying32 rfl Sz32 (by exact mem2) (wide.row_fY (by exact wdc_ok _)) (wide.rl_fY (by exact wdc_ok _)) ?_
  refine Tr.move rfl rfl rfl ?_
  refine Tr.nilChk rfl rfl rfl ?_
  refine Tr.fld rfl rfl rfl Tryz.underlying98 rfl Sz32 dE _ rfl ?_
  refine Tr.loadN (bytesV _) rfl rfl rfl Tryz.underlying32 rfl Sz32 (by exact mem2) (wide.row_fX (by exact wdc_ok _)) (wide.rl_fX (by exact wdc_ok _)) ?_
  refine Tr.move rfl rfl rfl ?_
  refine Tr.nilChk rfl rfl rfl ?_
  refine Tr.fld rfl rfl rfl Tryz.underlying98 rfl Sz32 dE _ rfl ?_
  refine Tr.loadEN (bytesV (fb p.y)) rfl rfl rfl Tryz.underlying32 rfl Sz32 (by simp; exact hW.2.2) (by rw [bytesV, List.length_map, fb_length]) (sees_subC hW.2.1 (wide.see_fY (wdc_ok p))) ?_
  refine Tr.move rfl rfl rfl ?_
  refine Tr.nilChk rfl rfl rfl ?_
  refine Tr.fld rfl rfl rfl Tryz.underlying98 rfl Sz32 dE _ rfl ?_
  refine Tr.loadEN (bytesV (fb p.x)) rfl rfl rfl Tryz.underlying32 rfl Sz32 (by simp; exact hW.2.2) (by rw [bytesV, List.length_map, fb_length]) (sees_subC hW.2.1 (wide.see_fX (wdc_ok p))) ?_
  refine Tr.callV rfl rfl rfl rfl Body75 (f_add _ _) (fun _ _ => trivial) ?_
  refine Tr.callV rfl rfl rfl rfl Body75 (f_add _ _) (fun _ _ => trivial) ?_
  refine Tr.callV rfl rfl rfl rfl Body72 (f_mul _ _) (fun _ _ => trivial) ?_
  refine Tr.alloc (cs := (bytesV (List.replicate 32 0))) rfl Zr32 rfl ?_
  intro n7 hn7 hf7
  refine Tr.storeAll rfl rfl rfl rfl (by exact bytesV_cell _) Sz32 (by (simp [fb_length]; done)) (by exact mem0) (by (simp; done)) (by exact upd0) ?_
  refine Tr.nil ?_
  refine at_n ?_
  refine Sat.seq ?_
  refine Sat.draw [(0, 0), (0, 1), (0, 2), (1, 3), (1, 4), (0, 6), (0, 7), (0, 8), (1, 9), (3, 5), (3, 10), (2, 11), (4, 12)] Mixed (by kernel_rfl) ?_
  refine Tr.move rfl rfl rfl ?_
  refine Tr.nilChk rfl rfl rfl ?_
  refine Tr.fld rfl rfl rfl Tryz.underlying98 rfl Sz32 dE _ rfl ?_
  refine Tr.loadN (bytesV _) rfl rfl rfl Tryz.underlying32 rfl Sz32 (by exact mem3) (wide.row_fT (by exact wdc_ok _)) (wide.rl_fT (by exact wdc_ok _)) ?_
  refine Tr.loadAll rfl rfl rfl Tryz.underlying32 rfl Sz32 (by exact mem2) (by (simp [fb_length]; done)) ?_
  refine Tr.move rfl rfl rfl ?_
  refine Tr.nilChk rfl rfl rfl ?_
  refine Tr.fld rfl rfl rfl Tryz.underlying98 rfl Sz32 dE _ rfl ?_
  refine Tr.loadEN (bytesV (fb p.t)) rfl rfl rfl Tryz.underlying32 rfl Sz32 (by simp; exact hW.2.2) (by rw [bytesV, List.length_map, fb_length]) (sees_subC hW.2.1 (wide.see_fT (wdc_ok p))) ?_
  refine Tr.callV rfl rfl rfl rfl Body72 (f_mul _ _) (fun _ _ => trivial) ?_
  refine Tr.callV rfl rfl rfl rfl Body72 (f_mul _ _) (fun _ _ => trivial) ?_
  refine Tr.alloc (cs := (bytesV (List.replicate 32 0))) rfl Zr32 rfl ?_
  intro n8 hn8 hf8
  refine Tr.storeAll rfl rfl rfl rfl (by exact bytesV_cell _) Sz32 (by (simp [fb_length]; done)) (by exact mem0) (by (simp; done)) (by exact upd0) ?_
  refine Tr.nil ?_
  refine at_n ?_
  refine Sat.seq ?_
  refine Sat.draw [(0, 0), (0, 1), (0, 2), (1, 3), (0, 4), (0, 5), (0, 6), (1, 7), (3, 8), (2, 9), (4, 10)] Mixed (by kernel_rfl) ?_
  refine Tr.move rfl rfl rfl ?_
  refine Tr.nilChk rfl rfl rfl ?_
  refine Tr.fld rfl rfl rfl Tryz.underlying98 rfl Sz32 dE _ rfl ?_
  refine Tr.loadN (bytesV _) rfl rfl rfl Tryz.underlying32 rfl Sz32 (by exact mem4) (wide.row_fZ (by exact wdc_ok _)) (wide.rl_fZ (by exact wdc_ok _)) ?_
  refine Tr.move rfl rfl rfl ?_
  refine Tr.nilChk rfl rfl rfl ?_
  refine Tr.fld rfl rfl rfl Tryz.underlying98 rfl Sz32 dE _ rfl ?_
  refine Tr.loadEN (bytesV (fb p.z)) rfl rfl rfl Tryz.underlying32 rfl Sz32 (by simp; exact hW.2.2) (by rw [bytesV, List.length_map, fb_length]) (sees_subC hW.2.1 (wide.see_fZ (wdc_ok p))) ?_
  refine Tr.callV rfl rfl rfl rfl Body72 (f_mul _ _) (fun _ _ => trivial) ?_
  refine Tr.alloc (cs := (bytesV (List.replicate 32 0))) rfl Zr32 rfl ?_
  intro n9 hn9 hf9
  refine Tr.storeAll rfl rfl rfl rfl (by exact bytesV_cell _) Sz32 (by (simp [fb_length]; done)) (by exact mem0) (by (simp; done)) (by exact upd0) ?_
  refine Tr.nil ?_
  refine at_n ?_
  refine Sat.seq ?_
  refine Sat.region ?_
  refine Tr.loadAll rfl rfl rfl Tryz.underlying32 rfl Sz32 (by exact mem0) (by (simp [fb_length]; done)) ?_
  refine Tr.loadAll rfl rfl rfl Tryz.underlying32 rfl Sz32 (by exact mem0) (by (simp [fb_length]; done)) ?_
  refine Tr.callV rfl rfl rfl rfl Body75 (f_add _ _) (fun _ _ => trivial) ?_
  refine Tr.storeAll rfl rfl rfl rfl (by exact bytesV_cell _) Sz32 (by (simp [fb_length]; done)) (by exact mem0) (by (simp [fb_length]; done)) (by exact upd0) ?_
  refine Tr.nil ?_
  refine at_n ?_
  refine Sat.draw [(0, 0), (1, 1), (1, 2), (1, 4), (1, 5), (1, 7), (1, 8), (1, 10), (1, 11), (3, 3), (3, 6), (3, 9), (3, 12), (4, 13)] Mixed (by kernel_rfl) ?_
  refine Tr.move rfl rfl rfl ?_
  refine Tr.loadAll rfl rfl rfl Tryz.underlying32 rfl Sz32 (by exact mem2) (by (simp [fb_length]; done)) ?_
  refine Tr.loadAll rfl rfl rfl Tryz.underlying32 rfl Sz32 (by exact mem3) (by (simp [fb_length]; done)) ?_
  refine Tr.loadAll rfl rfl rfl Tryz.underlying32 rfl Sz32 (by exact mem0) (by (simp [fb_length]; done)) ?_
  refine Tr.loadAll rfl rfl rfl Tryz.underlying32 rfl Sz32 (by exact mem1) (by (simp [fb_length]; done)) ?_
  refine Tr.loadAll rfl rfl rfl Tryz.underlying32 rfl Sz32 (by exact mem0) (by (simp [fb_length]; done)) ?_
  refine Tr.loadAll rfl rfl rfl Tryz.underlying32 rfl Sz32 (by exact mem1) (by (simp [fb_length]; done)) ?_
  refine Tr.loadAll rfl rfl rfl Tryz.underlying32 rfl Sz32 (by exact mem2) (by (simp [fb_length]; done)) ?_
  refine Tr.loadAll rfl rfl rfl Tryz.underlying32 rfl Sz32 (by exact mem3) (by (simp [fb_length]; done)) ?_
  refine Tr.callV rfl rfl rfl rfl Body73 (f_sub _ _) (fun _ _ => trivial) ?_
  refine Tr.callV rfl rfl rfl rfl Body73 (f_sub _ _) (fun _ _ => trivial) ?_
  refine Tr.callV rfl rfl rfl rfl Body75 (f_add _ _) (fun _ _ => trivial) ?_
  refine Tr.callV rfl rfl rfl rfl Body75 (f_add _ _) (fun _ _ => trivial) ?_
  refine Tr.callL (L := [⟨n, (wdc w).cells, 98, 128⟩]) rfl rfl rfl rfl rfl Body119 (wide_finish n w ((w.y + w.x) * (p.y + p.x) - (w.y - w.x) * (p.y - p.x)) (w.z * p.z + w.z * p.z - w.t * tw * p.t) (w.z * p.z + w.z * p.z + w.t * tw * p.t) ((w.y + w.x) * (p.y + p.x) + (w.y - w.x) * (p.y - p.x))) (pm_cons (by repeat (first | exact rem_here | apply rem_there)) pm_nil) (lent_ok rfl) (fun w h => own_blk h (by exact mem5)) ?_
  rintro v84 out84 rfl
  refine Tr.nil ?_
  refine en_n ?_
  exact ⟨_, [⟨n, (wdc (Wd.fin ((w.y + w.x) * (p.y + p.x) - (w.y - w.x) * (p.y - p.x)) (w.z * p.z + w.z * p.z - w.t * tw * p.t) (w.z * p.z + w.z * p.z + w.t * tw * p.t) ((w.y + w.x) * (p.y + p.x) + (w.y - w.x) * (p.y - p.x)))).cells, 98, 128⟩], res_none rfl, (fun b hb => by rw [List.mem_singleton.1 hb]; exact (by exact mem0)), nodup1, rfl⟩

set_option maxRecDepth 100000 in
set_option maxHeartbeats 8000000 in
theorem wide_double (n : Nat) (w : Wd Fp) : Meets Tryz.prog 84 [ptr n 0] [n] (fun W => BlkOk W ⟨n, (wdc w).cells, 98, 128⟩) (fun v out => out = [⟨n, (wdc (Wd.dbl w)).cells, 98, 128⟩]) := by
  intro W hW
  refine calls_of (hp0 := [⟨n, (wdc w).cells, 98, 128⟩]) Tryz.func84 rfl 66 Tryz.ntmps84 rfl (HRep.one hW) ?_
  refine Sat.seq ?_
  refine Sat.draw [(0, 0), (0, 1), (0, 2), (1, 3), (0, 4), (0, 5), (0, 6), (1, 7), (0, 9), (0, 10), (0, 11), (1, 12), (0, 13), (0, 14), (0, 15), (1, 16), (0, 18), (0, 19), (0, 20), (1, 21), (0, 22), (0, 23), (0, 24), (1, 25), (3, 8), (3, 17), (3, 26), (2, 27), (2, 28), (2, 29), (4, 30), (4, 31), (4, 32)] Mixed (by kernel_rfl) ?_
  refine Tr.move rfl rfl rfl ?_
  refine Tr.nilChk rfl rfl rfl ?_
  refine Tr.fld rfl rfl rfl Tryz.underlying98 rfl Sz32 dE _ rfl ?_
  refine Tr.loadN (bytesV _) rfl rfl rfl Tryz.underlying32 rfl Sz32 (by exact mem0) (wide.row_fX (by exact wdc_ok _)) (wide.rl_fX (by exact wdc_ok _)) ?_
  refine Tr.move rfl rfl rfl ?_
  refine Tr.nilChk rfl rfl rfl ?_
  refine Tr.fld rfl rfl rfl Tryz.underlying98 rfl Sz32 dE _ rfl ?_
  refine Tr.loadN (bytesV _) rfl rfl rfl Tryz.underlying32 rfl Sz32 (by exact mem0) (wide.row_fX (by exact wdc_ok _)) (wide.rl_fX (by exact wdc_ok _)) ?_
  refine Tr.move rfl rfl rfl ?_
  refine Tr.nilChk rfl rfl rfl ?_
  refine Tr.fld rfl rfl rfl Tryz.underlying98 rfl Sz32 dE _ rfl ?_
  refine Tr.loadN (bytesV _) rfl rfl rfl Tryz.underlying32 rfl Sz32 (by exact mem0) (wide.row_fY (by exact wdc_ok _)) (wide.rl_fY (by exact wdc_ok _)) ?_
  refine Tr.move rfl rfl rfl ?_
  refine Tr.nilChk rfl rfl rfl ?_
  refine Tr.fld rfl rfl rfl Tryz.underlying98 rfl Sz32 dE _ rfl ?_
  refine Tr.loadN (bytesV _) rfl rfl rfl Tryz.underlying32 rfl Sz32 (by exact mem0) (wide.row_fY (by exact wdc_ok _)) (wide.rl_fY (by exact wdc_ok _)) ?_
  refine Tr.move rfl rfl rfl ?_
  refine Tr.nilChk rfl rfl rfl ?_
  refine Tr.fld rfl rfl rfl Tryz.underlying98 rfl Sz32 dE _ rfl ?_
  refine Tr.loadN (bytesV _) rfl rfl rfl Tryz.underlying32 rfl Sz32 (by exact mem0) (wide.row_fZ (by exact wdc_ok _)) (wide.rl_fZ (by exact wdc_ok _)) ?_
  refine Tr.move rfl rfl rfl ?_
  refine Tr.nilChk rfl rfl rfl ?_
  refine Tr.fld rfl rfl rfl Tryz.underlying98 rfl Sz32 dE _ rfl ?_
  refine Tr.loadN (bytesV _) rfl rfl rfl Tryz.underlying32 rfl Sz32 (by exact mem0) (wide.row_fZ (by exact wdc_ok _)) (wide.rl_fZ (by exact wdc_ok _)) ?_
  refine Tr.callV rfl rfl rfl rfl Body72 (f_mul _ _) (fun _ _ => trivial) ?_
  refine Tr.callV rfl rfl rfl rfl Body72 (f_mul _ _) (fun _ _ => trivial) ?_
  refine Tr.callV rfl rfl rfl rfl Body72 (f_mul _ _) (fun _ _ => trivial) ?_
  refine Tr.alloc (cs := (bytesV (List.replicate 32 0))) rfl Zr32 rfl ?_
  intro n2 hn2 hf2
  refine Tr.alloc (cs := (bytesV (List.replicate 32 0))) rfl Zr32 rfl ?_
  intro n3 hn3 hf3
  refine Tr.alloc (cs := (bytesV (List.replicate 32 0))) rfl Zr32 rfl ?_
  intro n4 hn4 hf4
  refine Tr.storeAll rfl rfl rfl rfl (by exact bytesV_cell _) Sz32 (by (simp [fb_length]; done)) (by exact mem2) (by (simp; done)) (by exact upd2) ?_
  refine Tr.storeAll rfl rfl rfl rfl (by exact bytesV_cell _) Sz32 (by (simp [fb_length]; done)) (by exact mem1) (by (simp; done)) (by exact upd1) ?_
  refine Tr.storeAll rfl rfl rfl rfl (by exact bytesV_cell _) Sz32 (by (simp [fb_length]; done)) (by exact mem0) (by (simp; done)) (by exact upd0) ?_
  refine Tr.nil ?_
  refine at_n ?_
  refine Sat.seq ?_
  refine Sat.draw [(0, 0), (0, 1), (0, 2), (1, 3), (0, 4), (0, 5), (0, 6), (1, 7), (3, 8), (2, 9), (4, 10)] Mixed (by kernel_rfl) ?_
  refine Tr.move rfl rfl rfl ?_
  refine Tr.nilChk rfl rfl rfl ?_
  refine Tr.fld rfl rfl rfl Tryz.underlying98 rfl Sz32 dE _ rfl ?_
  refine Tr.loadN (bytesV _) rfl rfl rfl Tryz.underlying32 rfl Sz32 (by exact mem3) (wide.row_fX (by exact wdc_ok _)) (wide.rl_fX (by exact wdc_ok _)) ?_
  refine Tr.move rfl rfl rfl ?_
  refine Tr.nilChk rfl rfl rfl ?_
  refine Tr.fld rfl rfl rfl Tryz.underlying98 rfl Sz32 dE _ rfl ?_
  refine Tr.loadN (bytesV _) rfl rfl rfl Tryz.underlying32 rfl Sz32 (by exact mem3) (wide.row_fY (by exact wdc_ok _)) (wide.rl_fY (by exact wdc_ok _)) ?_
  refine Tr.callV rfl rfl rfl rfl Body75 (f_add _ _) (fun _ _ => trivial) ?_
  refine Tr.alloc (cs := (bytesV (List.replicate 32 0))) rfl Zr32 rfl ?_
  intro n5 hn5 hf5
  refine Tr.storeAll rfl rfl rfl rfl (by exact bytesV_cell _) Sz32 (by (simp [fb_length]; done)) (by exact mem0) (by (simp; done)) (by exact upd0) ?_
  refine Tr.nil ?_
  refine at_n ?_
  refine Sat.seq ?_
  refine Sat.region ?_
  refine Tr.loadAll rfl rfl rfl Tryz.underlying32 rfl Sz32 (by exact mem3) (by (simp [fb_length]; done)) ?_
  refine Tr.loadAll rfl rfl rfl Tryz.underlying32 rfl Sz32 (by exact mem2) (by (simp [fb_length]; done)) ?_
  refine Tr.callV rfl rfl rfl rfl Body75 (f_add _ _) (fun _ _ => trivial) ?_
  refine Tr.alloc (cs := (bytesV (List.replicate 32 0))) rfl Zr32 rfl ?_
  intro n6 hn6 hf6
  refine Tr.storeAll rfl rfl rfl rfl (by exact bytesV_cell _) Sz32 (by (simp [fb_length]; done)) (by exact mem0) (by (simp; done)) (by exact upd0) ?_
  refine Tr.nil ?_
  refine at_n ?_
  refine Sat.seq ?_
  refine Sat.draw [(1, 0), (1, 1), (1, 2), (3, 3), (3, 4), (2, 5), (4, 6)] Mixed (by kernel_rfl) ?_
  refine Tr.loadAll rfl rfl rfl Tryz.underlying32 rfl Sz32 (by exact mem0) (by (simp [fb_length]; done)) ?_
  refine Tr.loadAll rfl rfl rfl Tryz.underlying32 rfl Sz32 (by exact mem1) (by (simp [fb_length]; done)) ?_
  refine Tr.loadAll rfl rfl rfl Tryz.underlying32 rfl Sz32 (by exact mem1) (by (simp [fb_length]; done)) ?_
  refine Tr.callV rfl rfl rfl rfl Body72 (f_mul _ _) (fun _ _ => trivial) ?_
  refine Tr.callV rfl rfl rfl rfl Body73 (f_sub _ _) (fun _ _ => trivial) ?_
  refine Tr.alloc (cs := (bytesV (List.replicate 32 0))) rfl Zr32 rfl ?_
  intro n7 hn7 hf7
  refine Tr.storeAll rfl rfl rfl rfl (by exact bytesV_cell _) Sz32 (by (simp [fb_length]; done)) (by exact mem0) (by (simp; done)) (by exact upd0) ?_
  refine Tr.nil ?_
  refine at_n ?_
  refine Sat.seq ?_
  refine Sat.region ?_
  refine Tr.loadAll rfl rfl rfl Tryz.underlying32 rfl Sz32 (by exact mem5) (by (simp [fb_length]; done)) ?_
  refine Tr.loadAll rfl rfl rfl Tryz.underlying32 rfl Sz32 (by exact mem4) (by (simp [fb_length]; done)) ?_
  refine Tr.callV rfl rfl rfl rfl Body73 (f_sub _ _) (fun _ _ => trivial) ?_
  refine Tr.alloc (cs := (bytesV (List.replicate 32 0))) rfl Zr32 rfl ?_
  intro n8 hn8 hf8
  refine Tr.storeAll rfl rfl rfl rfl (by exact bytesV_cell _) Sz32 (by (simp [fb_length]; done)) (by exact mem0) (by (simp; done)) (by exact upd0) ?_
  refine Tr.nil ?_
  refine at_n ?_
  refine Sat.draw [(0, 0), (1, 1), (1, 2), (1, 3), (1, 5), (1, 7), (1, 8), (3, 4), (3, 6), (4, 9)] Mixed (by kernel_rfl) ?_
  refine Tr.move rfl rfl rfl ?_
  refine Tr.loadAll rfl rfl rfl Tryz.underlying32 rfl Sz32 (by exact mem1) (by (simp [fb_length]; done)) ?_
  refine Tr.loadAll rfl rfl rfl Tryz.underlying32 rfl Sz32 (by exact mem4) (by (simp [fb_length]; done)) ?_
  refine Tr.loadAll rfl rfl rfl Tryz.underlying32 rfl Sz32 (by exact mem4) (by (simp [fb_length]; done)) ?_
  refine Tr.loadAll rfl rfl rfl Tryz.underlying32 rfl Sz32 (by exact mem0) (by (simp [fb_length]; done)) ?_
  refine Tr.loadAll rfl rfl rfl Tryz.underlying32 rfl Sz32 (by exact mem0) (by (simp [fb_length]; done)) ?_
  refine Tr.loadAll rfl rfl rfl Tryz.underlying32 rfl Sz32 (by exact mem2) (by (simp [fb_length]; done)) ?_
  refine Tr.callV rfl rfl rfl rfl Body75 (f_add _ _) (fun _ _ => trivial) ?_
  refine Tr.callV rfl rfl rfl rfl Body75 (f_add _ _) (fun _ _ => trivial) ?_
  refine Tr.callL (L := [⟨n, (wdc w).cells, 98, 128⟩]) rfl rfl rfl rfl rfl Body119 (wide_finish n w (w.x * w.x + w.y * w.y - (w.x + w.y) * (w.x + w.y)) (w.z * w.z + w.z * w.z + (w.x * w.x - w.y * w.y)) (w.x * w.x - w.y * w.y) (w.x * w.x + w.y * w.y)) (pm_cons (by repeat (first | exact rem_here | apply rem_there)) pm_nil) (lent_ok rfl) (fun w h => own_blk h (by exact mem7)) ?_
  rintro v65 out65 rfl
  refine Tr.nil ?_
  refine en_n ?_
  exact ⟨_, [⟨n, (wdc (Wd.dbl w)).cells, 98, 128⟩], res_none rfl, (fun b hb => by rw [List.mem_singleton.1 hb]; exact (by exact mem0)), nodup1, rfl⟩

end Go.Proofs.YtmddgelpllffoaaGreat
end

section
namespace Go.Proofs.YtmddgelpllffoaaGreat
open Go Hw
set_option linter.unusedVariables false
set_option linter.unusedSimpArgs false

open Ed

theorem own_ne {C : Cx} {hp R : List Blk} {w : World} {b1 b2 : Blk} (h : HRep C hp w) (p : hp.Perm ((b1 :: b2 :: []) ++ R)) : b2.n ≠ b1.n := fun e => by
  have := (p.map (·.n)).nodup_iff.1 h.nodup
  simp [e] at this
theorem wide_addD (n q : Nat) (w p : Wd Fp) : Meets Tryz.prog 83 [ptr n 0, ptr q 0, agg (bytesV (fb (fD + fD)))] [n] (fun W => BlkOk W ⟨n, (wdc w).cells, 98, 128⟩ ∧ Sees W q 0 (wdc p).cells ∧ q ≠ n) (fun v out => out = [⟨n, (wdc (Wd.add fD w p)).cells, 98, 128⟩]) := wide_add n q w p (fD + fD)
theorem wide_pointR (n : Nat) (w : Wd Fp) (R : Pt Fp) (hw : w.rep R) : Meets Tryz.prog 86 [ptr n 0] [] (fun W => Sees W n 0 (wdc w).cells) (fun v out => v = agg (ptc R).cells ∧ out = []) := by
  have h := wide_point n w
  have e : (⟨w.x * finv w.z, w.y * finv w.z⟩ : Pt Fp) = R := cv.rep_pt hw
  rwa [e] at h
theorem pair_eg : Tryz.prog.eqGuardType Tryz.prog.depth 104 = false := by kernel_rfl
theorem pair_eq (a b c d : Bool) (w : World) : (Op.equalIn 10000 104 (agg [.bool a, .bool b]) (agg [.bool c, .bool d])).run Tryz.prog w = .ok (a == c && b == d) w := by
  cases a <;> cases b <;> cases c <;> cases d <;> kernel_rfl

set_option maxRecDepth 100000 in
set_option maxHeartbeats 8000000 in
theorem curve_Mul2 (a b : List UInt8) (P Q : Pt Fp) (ha : a.length = 32) (hb : b.length = 32) (hP : cv.on P) (hQ : cv.on Q) : Meets Tryz.prog 36 [agg (bytesV a), agg (ptc P).cells, agg (bytesV b), agg (ptc Q).cells] [] (fun _ => True) (fun v out => v = agg (ptc (cv.lin (le a) (le b) P Q)).cells ∧ out = []) := by
  intro W hW
  refine calls_of (hp0 := []) Tryz.func36 rfl 65 Tryz.ntmps36 rfl (HRep.nil _) ?_
  refine Sat.seq ?_
  refine Sat.region ?_
  refine Tr.boxA rfl rfl ?_
  intro n4 hn4 hf4
  refine Tr.boxA rfl rfl ?_
  intro n5 hn5 hf5
  refine Tr.boxA rfl rfl ?_
  intro n6 hn6 hf6
  refine Tr.boxA rfl rfl ?_
  intro n7 hn7 hf7
  refine Tr.alloc (cs := Point.zero.cells) rfl Point.zr rfl ?_
  intro n8 hn8 hf8
  refine Tr.nil ?_
  refine at_n ?_
  refine Sat.seq ?_
  refine Sat.seq ?_
  refine Sat.region ?_
  refine Tr.loadAll rfl rfl rfl Tryz.underlying41 rfl Sz41 (by exact mem3) (Point.length (by exact ptc_ok _)) ?_
  refine Tr.callV rfl rfl rfl rfl Body80 (curve_Check_on P hP) (fun _ _ => trivial) ?_
  refine Tr.nei rfl rfl rfl rfl (show (!decide _) = false from congrArg not (decide_eq_true (rfl))) ?_
  refine Tr.move rfl rfl rfl ?_
  refine Tr.loadAll rfl rfl rfl Tryz.underlying41 rfl Sz41 (by exact mem1) (Point.length (by exact ptc_ok _)) ?_
  refine Tr.callV rfl rfl rfl rfl Body80 (curve_Check_on Q hQ) (fun _ _ => trivial) ?_
  refine Tr.nei rfl rfl rfl rfl (show (!decide _) = false from congrArg not (decide_eq_true (rfl))) ?_
  refine Tr.pick rfl rfl rfl rfl rfl rfl ?_
  refine Tr.nil ?_
  refine at_n ?_
  refine Sat.cond_f rfl rfl ?_
  refine Sat.skip ?_
  refine at_n ?_
  refine Sat.seq ?_
  refine Sat.region ?_
  refine Tr.callV rfl rfl rfl rfl Body76 (curve_D) (fun _ _ => trivial) ?_
  refine Tr.callV rfl rfl rfl rfl Body76 (curve_D) (fun _ _ => trivial) ?_
  refine Tr.callV rfl rfl rfl rfl Body75 (f_add _ _) (fun _ _ => trivial) ?_
  refine Tr.alloc (cs := (bytesV (List.replicate 32 0))) rfl Zr32 rfl ?_
  intro n9 hn9 hf9
  refine Tr.storeAll rfl rfl rfl rfl (by exact bytesV_cell _) Sz32 (by (simp [fb_length]; done)) (by exact mem0) (by (simp; done)) (by exact upd0) ?_
  refine Tr.nil ?_
  refine at_n ?_
  refine Sat.seq ?_
  refine Sat.draw [(1, 0), (1, 2), (1, 4), (3, 1), (3, 3), (3, 5), (3, 6), (3, 7), (2, 8), (2, 9), (2, 10), (2, 11), (4, 12), (4, 13), (4, 14), (4, 15)] Mixed (by kernel_rfl) ?_
  refine Tr.loadAll rfl rfl rfl Tryz.underlying41 rfl Sz41 (by exact mem4) (Point.length (by exact ptc_ok _)) ?_
  refine Tr.loadAll rfl rfl rfl Tryz.underlying41 rfl Sz41 (by exact mem2) (Point.length (by exact ptc_ok _)) ?_
  refine Tr.loadAll rfl rfl rfl Tryz.underlying41 rfl Sz41 (by exact mem4) (Point.length (by exact ptc_ok _)) ?_
  refine Tr.callV rfl rfl rfl rfl Body82 (curve_widen P) (fun _ _ => trivial) ?_
  refine Tr.callV rfl rfl rfl rfl Body82 (curve_widen Q) (fun _ _ => trivial) ?_
  refine Tr.callV rfl rfl rfl rfl Body82 (curve_widen P) (fun _ _ => trivial) ?_
  refine Tr.callV rfl rfl rfl rfl Body81 (curve_Zero) (fun _ _ => trivial) ?_
  refine Tr.callV rfl rfl rfl rfl Body82 (curve_widen (zero : Pt Fp)) (fun _ _ => trivial) ?_
  refine Tr.alloc (cs := wide.zero.cells) rfl wide.zr rfl ?_
  intro n10 hn10 hf10
  refine Tr.alloc (cs := wide.zero.cells) rfl wide.zr rfl ?_
  intro n11 hn11 hf11
  refine Tr.alloc (cs := wide.zero.cells) rfl wide.zr rfl ?_
  intro n12 hn12 hf12
  refine Tr.alloc (cs := wide.zero.cells) rfl wide.zr rfl ?_
  intro n13 hn13 hf13
  refine Tr.storeAll rfl rfl rfl rfl (wide.isCell (by exact wdc_ok _)) Sz98 (wide.length (by exact wdc_ok _)) (by exact mem3) (wide.length (by exact wide.zero_ok)) (by exact upd3) ?_
  refine Tr.storeAll rfl rfl rfl rfl (wide.isCell (by exact wdc_ok _)) Sz98 (wide.length (by exact wdc_ok _)) (by exact mem2) (wide.length (by exact wide.zero_ok)) (by exact upd2) ?_
  refine Tr.storeAll rfl rfl rfl rfl (wide.isCell (by exact wdc_ok _)) Sz98 (wide.length (by exact wdc_ok _)) (by exact mem1) (wide.length (by exact wide.zero_ok)) (by exact upd1) ?_
  refine Tr.storeAll rfl rfl rfl rfl (wide.isCell (by exact wdc_ok _)) Sz98 (wide.length (by exact wdc_ok _)) (by exact mem0) (wide.length (by exact wide.zero_ok)) (by exact upd0) ?_
  refine Tr.nil ?_
  refine at_n ?_
  refine Sat.seq ?_
  refine Sat.region ?_
  refine Tr.loadAll rfl rfl rfl Tryz.underlying32 rfl Sz32 (by exact mem4) (by (simp [fb_length]; done)) ?_
  refine Tr.callL (L := [⟨n12, (wdc (Wd.of P)).cells, 98, 128⟩]) rfl rfl rfl rfl rfl Body83 (wide_addD n12 n11 (Wd.of P) (Wd.of Q)) (pm_cons (by repeat (first | exact rem_here | apply rem_there)) pm_nil) (lent_ok rfl) (fun w h => ⟨own_blk h (by exact mem1), sees_own h (by exact mem2), own_ne (b1 := ⟨n12, (wdc (Wd.of P)).cells, 98, 128⟩) (b2 := ⟨n11, (wdc (Wd.of Q)).cells, 98, 128⟩) h (pm_cons (by repeat (first | exact rem_here | apply rem_there)) (pm_cons (by repeat (first | exact rem_here | apply rem_there)) pm_nil))⟩) ?_
  rintro v36 out36 rfl
  simp only [List.cons_append, List.nil_append]
  refine Tr.nil ?_
  refine at_n ?_
  refine Sat.seq ?_
  refine Sat.seq ?_
  refine Sat.region ?_
  refine Tr.assign rfl rfl rfl ?_
  refine Tr.nil ?_
  refine at_n ?_
  refine Sat.block ?_
  refine Sat.loop (ι := Nat × Wd Fp) (fun p => ⟨[(4, ptr n4 0), (6, ptr n6 0), (8, ptr n8 0), (9, ptr n9 0), (10, ptr n10 0), (11, ptr n11 0), (12, ptr n12 0), (13, ptr n13 0), (14, i64 (255 - (p.1 : Int)))], [⟨n13, (wdc p.2).cells, 98, 128⟩, ⟨n12, (wdc (Wd.add fD (Wd.of P) (Wd.of Q))).cells, 98, 128⟩, ⟨n11, (wdc (Wd.of Q)).cells, 98, 128⟩, ⟨n10, (wdc (Wd.of P)).cells, 98, 128⟩, ⟨n9, bytesV (fb (fD + fD)), 32, 32⟩, ⟨n8, Point.zero.cells, 41, 64⟩, ⟨n6, bytesV b, 32, (bytesV b).length⟩, ⟨n4, bytesV a, 32, (bytesV a).length⟩]⟩) (fun p => p.1 ≤ 256 ∧ p.2.rep (cv.lin (le a / 2 ^ (256 - p.1)) (le b / 2 ^ (256 - p.1)) P Q)) (fun p => 256 - p.1) ((0, Wd.of zero)) ?_ ?_ ?_
  · exact ⟨Nat.zero_le _, lin_first a b ha hb P Q⟩
  · exact weak_perm (wk1 rfl (wk1 rfl (wk1 rfl (wk1 rfl (wk1 rfl (wk1 rfl (wk1 rfl (wk1 rfl (wk1 rfl wk0))))))))) (pm_cons (by repeat (first | exact rem_here | apply rem_there)) (pm_cons (by repeat (exact rem_here)) (pm_cons (by repeat (exact rem_here)) (pm_cons (by repeat (exact rem_here)) (pm_cons (by repeat (exact rem_here)) (pm_cons (by repeat (exact rem_here)) (pm_cons (by repeat (first | exact rem_here | apply rem_there)) (pm_cons (by repeat (first | exact rem_here | apply rem_there)) pm_nil))))))))
  ·
    rintro p ⟨hj1, hw⟩
    refine Sat.seq ?_
    refine Sat.seq ?_
    refine Sat.region ?_
    refine Tr.move rfl rfl rfl ?_
    refine Tr.geq rfl rfl rfl rfl rfl ?_
    refine Tr.nil ?_
    refine at_n ?_
    refine Sat.condP rfl (fun hc1 => ?_) (fun hc1 => ?_)
    ·
      have hj : p.1 < 256 := by omega
      refine Sat.skip ?_
      refine at_n ?_
      refine Sat.join (ι := Wd Fp) (fun u => ⟨[(4, ptr n4 0), (6, ptr n6 0), (8, ptr n8 0), (9, ptr n9 0), (10, ptr n10 0), (11, ptr n11 0), (12, ptr n12 0), (13, ptr n13 0), (14, i64 (((255 - p.1 : Nat) : Int)))], [⟨n13, (wdc u).cells, 98, 128⟩, ⟨n12, (wdc (Wd.add fD (Wd.of P) (Wd.of Q))).cells, 98, 128⟩, ⟨n11, (wdc (Wd.of Q)).cells, 98, 128⟩, ⟨n10, (wdc (Wd.of P)).cells, 98, 128⟩, ⟨n9, bytesV (fb (fD + fD)), 32, 32⟩, ⟨n8, Point.zero.cells, 41, 64⟩, ⟨n6, bytesV b, 32, (bytesV b).length⟩, ⟨n4, bytesV a, 32, (bytesV a).length⟩]⟩) (fun u => u.rep (cv.lin (le a / 2 ^ (256 - (p.1 + 1))) (le b / 2 ^ (256 - (p.1 + 1))) P Q)) ?_ ?_
      ·
        refine Sat.block ?_
        refine Sat.seq ?_
        refine Sat.region ?_
        refine Tr.callL (L := [⟨n13, (wdc p.2).cells, 98, 128⟩]) rfl rfl rfl rfl rfl Body84 (wide_double n13 p.2) (pm_cons (by repeat (exact rem_here)) pm_nil) (lent_ok rfl) (fun w h => own_blk h (by exact mem0)) ?_
        rintro v41 out41 rfl
        simp only [List.cons_append, List.nil_append]
        rw [show (255 : Int) - (p.1 : Int) = ((255 - p.1 : Nat) : Int) by omega]
        refine Tr.nil ?_
        refine at_n ?_
        refine Sat.seq ?_
        refine Sat.draw [(1, 0), (0, 1), (1, 3), (0, 4), (3, 2), (3, 5), (0, 6)] Mixed (by kernel_rfl) ?_
        refine Tr.loadAll rfl rfl rfl Tryz.underlying32 rfl Sz32 (by exact mem7) (by (simp [ha]; done)) ?_
        refine Tr.move rfl rfl rfl ?_
        refine Tr.loadAll rfl rfl rfl Tryz.underlying32 rfl Sz32 (by exact mem6) (by (simp [hb]; done)) ?_
        refine Tr.move rfl rfl rfl ?_
        refine Tr.callB rfl rfl rfl rfl Body85 (scalar_bit_at a ha (255 - p.1) oM) (fun _ _ => trivial) (fun hs10_20 => ?_) (fun hs10_20 => ?_)
        ·
          have hs10_2 := nd_t hs10_20
          have hs10_2 := hs10_20
          refine Tr.callB rfl rfl rfl rfl Body85 (scalar_bit_at b hb (255 - p.1) oM) (fun _ _ => trivial) (fun hs10_50 => ?_) (fun hs10_50 => ?_)
          ·
            have hs10_5 := nd_t hs10_50
            have hs10_5 := hs10_50
            refine Tr.build (cs := [.bool true, .bool true]) rfl rfl rfl (fun w => by kernel_rfl) ?_
            refine Tr.nil ?_
            refine at_n ?_
            refine Sat.block ?_
            refine Sat.seq ?_
            refine Sat.region ?_
            refine Tr.build (cs := [.bool true, .bool true]) rfl rfl rfl (fun w => by kernel_rfl) ?_
            refine Tr.eql_rec (q := (true == true && true == true)) (r := true) rfl rfl rfl rfl pair_eg (fun w => pair_eq true true true true w) rfl ?_
            refine Tr.assign rfl rfl rfl ?_
            refine Tr.nil ?_
            refine at_n ?_
            refine Sat.cond_t rfl rfl ?_
            refine Sat.region ?_
            refine Tr.loadAll rfl rfl rfl Tryz.underlying32 rfl Sz32 (by exact mem4) (by (simp [fb_length]; done)) ?_
            refine Tr.callL (L := [⟨n13, (wdc (Wd.dbl p.2)).cells, 98, 128⟩]) rfl rfl rfl rfl rfl Body83 (wide_addD n13 n12 (Wd.dbl p.2) (Wd.add fD (Wd.of P) (Wd.of Q))) (pm_cons (by repeat (exact rem_here)) pm_nil) (lent_ok rfl) (fun w h => ⟨own_blk h (by exact mem0), sees_own h (by exact mem1), own_ne (b1 := ⟨n13, (wdc (Wd.dbl p.2)).cells, 98, 128⟩) (b2 := ⟨n12, (wdc (Wd.add fD (Wd.of P) (Wd.of Q))).cells, 98, 128⟩) h (pm_cons (by repeat (exact rem_here)) (pm_cons (by repeat (exact rem_here)) pm_nil))⟩) ?_
            rintro v53 out53 rfl
            simp only [List.cons_append, List.nil_append]
            refine Tr.nil ?_
            refine bl_n ?_
            refine bl_n ?_
            refine at_n ?_
            (exact ⟨Wd.add fD (Wd.dbl p.2) (Wd.add fD (Wd.of P) (Wd.of Q)), (by rw [lin_tt hj hP hQ hs10_2 hs10_5]; exact cv.rep_add (cv.rep_dbl hw (cv.on_lin hP hQ _ _)) (cv.rep_add (cv.rep_of P) (cv.rep_of Q) hP hQ) (cv.on_add (cv.on_lin hP hQ _ _) (cv.on_lin hP hQ _ _)) (cv.on_add hP hQ)), weak_perm (wk1 rfl (wk1 rfl (wk1 rfl (wk1 rfl (wk1 rfl (wk1 rfl (wk1 rfl (wk1 rfl (wk1 rfl wk0))))))))) (pm_cons (by repeat (exact rem_here)) (pm_cons (by repeat (exact rem_here)) (pm_cons (by repeat (exact rem_here)) (pm_cons (by repeat (exact rem_here)) (pm_cons (by repeat (exact rem_here)) (pm_cons (by repeat (exact rem_here)) (pm_cons (by repeat (exact rem_here)) (pm_cons (by repeat (exact rem_here)) pm_nil))))))))⟩)
          ·
            have hs10_5 := nd_f hs10_50
            have hs10_5 := hs10_50
            refine Tr.build (cs := [.bool true, .bool false]) rfl rfl rfl (fun w => by kernel_rfl) ?_
            refine Tr.nil ?_
            refine at_n ?_
            refine Sat.block ?_
            refine Sat.seq ?_
            refine Sat.region ?_
            refine Tr.build (cs := [.bool true, .bool true]) rfl rfl rfl (fun w => by kernel_rfl) ?_
            refine Tr.eql_rec (q := (true == true && false == true)) (r := false) rfl rfl rfl rfl pair_eg (fun w => pair_eq true false true true w) rfl ?_
            refine Tr.assign rfl rfl rfl ?_
            refine Tr.nil ?_
            refine at_n ?_
            refine Sat.cond_f rfl rfl ?_
            refine Sat.seq ?_
            refine Sat.region ?_
            refine Tr.build (cs := [.bool true, .bool false]) rfl rfl rfl (fun w => by kernel_rfl) ?_
            refine Tr.eql_rec (q := (true == true && false == false)) (r := true) rfl rfl rfl rfl pair_eg (fun w => pair_eq true false true false w) rfl ?_
            refine Tr.assign rfl rfl rfl ?_
            refine Tr.nil ?_
            refine at_n ?_
            refine Sat.cond_t rfl rfl ?_
            refine Sat.region ?_
            refine Tr.loadAll rfl rfl rfl Tryz.underlying32 rfl Sz32 (by exact mem4) (by (simp [fb_length]; done)) ?_
            refine Tr.callL (L := [⟨n13, (wdc (Wd.dbl p.2)).cells, 98, 128⟩]) rfl rfl rfl rfl rfl Body83 (wide_addD n13 n10 (Wd.dbl p.2) (Wd.of P)) (pm_cons (by repeat (exact rem_here)) pm_nil) (lent_ok rfl) (fun w h => ⟨own_blk h (by exact mem0), sees_own h (by exact mem3), own_ne (b1 := ⟨n13, (wdc (Wd.dbl p.2)).cells, 98, 128⟩) (b2 := ⟨n10, (wdc (Wd.of P)).cells, 98, 128⟩) h (pm_cons (by repeat (exact rem_here)) (pm_cons (by repeat (first | exact rem_here | apply rem_there)) pm_nil))⟩) ?_
            rintro v58 out58 rfl
            simp only [List.cons_append, List.nil_append]
            refine Tr.nil ?_
            refine bl_n ?_
            refine bl_n ?_
            refine at_n ?_
            (exact ⟨Wd.add fD (Wd.dbl p.2) (Wd.of P), (by rw [lin_tf hj hP hQ hs10_2 hs10_5]; exact cv.rep_add (cv.rep_dbl hw (cv.on_lin hP hQ _ _)) (cv.rep_of P) (cv.on_add (cv.on_lin hP hQ _ _) (cv.on_lin hP hQ _ _)) hP), weak_perm (wk1 rfl (wk1 rfl (wk1 rfl (wk1 rfl (wk1 rfl (wk1 rfl (wk1 rfl (wk1 rfl (wk1 rfl wk0))))))))) (pm_cons (by repeat (exact rem_here)) (pm_cons (by repeat (exact rem_here)) (pm_cons (by repeat (exact rem_here)) (pm_cons (by repeat (exact rem_here)) (pm_cons (by repeat (exact rem_here)) (pm_cons (by repeat (exact rem_here)) (pm_cons (by repeat (exact rem_here)) (pm_cons (by repeat (exact rem_here)) pm_nil))))))))⟩)
        ·
          have hs10_2 := nd_f hs10_20
          have hs10_2 := hs10_20
          refine Tr.callB rfl rfl rfl rfl Body85 (scalar_bit_at b hb (255 - p.1) oM) (fun _ _ => trivial) (fun hs10_50 => ?_) (fun hs10_50 => ?_)
          ·
            have hs10_5 := nd_t hs10_50
            have hs10_5 := hs10_50
            refine Tr.build (cs := [.bool false, .bool true]) rfl rfl rfl (fun w => by kernel_rfl) ?_
            refine Tr.nil ?_
            refine at_n ?_
            refine Sat.block ?_
            refine Sat.seq ?_
            refine Sat.region ?_
            refine Tr.build (cs := [.bool true, .bool true]) rfl rfl rfl (fun w => by kernel_rfl) ?_
            refine Tr.eql_rec (q := (false == true && true == true)) (r := false) rfl rfl rfl rfl pair_eg (fun w => pair_eq false true true true w) rfl ?_
            refine Tr.assign rfl rfl rfl ?_
            refine Tr.nil ?_
            refine at_n ?_
            refine Sat.cond_f rfl rfl ?_
            refine Sat.seq ?_
            refine Sat.region ?_
            refine Tr.build (cs := [.bool true, .bool false]) rfl rfl rfl (fun w => by kernel_rfl) ?_
            refine Tr.eql_rec (q := (false == true && true == false)) (r := false) rfl rfl rfl rfl pair_eg (fun w => pair_eq false true true false w) rfl ?_
            refine Tr.assign rfl rfl rfl ?_
            refine Tr.nil ?_
            refine at_n ?_
            refine Sat.cond_f rfl rfl ?_
            refine Sat.seq ?_
            refine Sat.region ?_
            refine Tr.build (cs := [.bool false, .bool true]) rfl rfl rfl (fun w => by kernel_rfl) ?_
            refine Tr.eql_rec (q := (false == false && true == true)) (r := true) rfl rfl rfl rfl pair_eg (fun w => pair_eq false true false true w) rfl ?_
            refine Tr.assign rfl rfl rfl ?_
            refine Tr.nil ?_
            refine at_n ?_
            refine Sat.cond_t rfl rfl ?_
            refine Sat.region ?_
            refine Tr.loadAll rfl rfl rfl Tryz.underlying32 rfl Sz32 (by exact mem4) (by (simp [fb_length]; done)) ?_
            refine Tr.callL (L := [⟨n13, (wdc (Wd.dbl p.2)).cells, 98, 128⟩]) rfl rfl rfl rfl rfl Body83 (wide_addD n13 n11 (Wd.dbl p.2) (Wd.of Q)) (pm_cons (by repeat (exact rem_here)) pm_nil) (lent_ok rfl) (fun w h => ⟨own_blk h (by exact mem0), sees_own h (by exact mem2), own_ne (b1 := ⟨n13, (wdc (Wd.dbl p.2)).cells, 98, 128⟩) (b2 := ⟨n11, (wdc (Wd.of Q)).cells, 98, 128⟩) h (pm_cons (by repeat (exact rem_here)) (pm_cons (by repeat (first | exact rem_here | apply rem_there)) pm_nil))⟩) ?_
            rintro v63 out63 rfl
            simp only [List.cons_append, List.nil_append]
            refine Tr.nil ?_
            refine bl_n ?_
            refine bl_n ?_
            refine at_n ?_
            (exact ⟨Wd.add fD (Wd.dbl p.2) (Wd.of Q), (by rw [lin_ft hj hP hQ hs10_2 hs10_5]; exact cv.rep_add (cv.rep_dbl hw (cv.on_lin hP hQ _ _)) (cv.rep_of Q) (cv.on_add (cv.on_lin hP hQ _ _) (cv.on_lin hP hQ _ _)) hQ), weak_perm (wk1 rfl (wk1 rfl (wk1 rfl (wk1 rfl (wk1 rfl (wk1 rfl (wk1 rfl (wk1 rfl (wk1 rfl wk0))))))))) (pm_cons (by repeat (exact rem_here)) (pm_cons (by repeat (exact rem_here)) (pm_cons (by repeat (exact rem_here)) (pm_cons (by repeat (exact rem_here)) (pm_cons (by repeat (exact rem_here)) (pm_cons (by repeat (exact rem_here)) (pm_cons (by repeat (exact rem_here)) (pm_cons (by repeat (exact rem_here)) pm_nil))))))))⟩)
          ·
            have hs10_5 := nd_f hs10_50
            have hs10_5 := hs10_50
            refine Tr.build (cs := [.bool false, .bool false]) rfl rfl rfl (fun w => by kernel_rfl) ?_
            refine Tr.nil ?_
            refine at_n ?_
            refine Sat.block ?_
            refine Sat.seq ?_
            refine Sat.region ?_
            refine Tr.build (cs := [.bool true, .bool true]) rfl rfl rfl (fun w => by kernel_rfl) ?_
            refine Tr.eql_rec (q := (false == true && false == true)) (r := false) rfl rfl rfl rfl pair_eg (fun w => pair_eq false false true true w) rfl ?_
            refine Tr.assign rfl rfl rfl ?_
            refine Tr.nil ?_
            refine at_n ?_
            refine Sat.cond_f rfl rfl ?_
            refine Sat.seq ?_
            refine Sat.region ?_
            refine Tr.build (cs := [.bool true, .bool false]) rfl rfl rfl (fun w => by kernel_rfl) ?_
            refine Tr.eql_rec (q := (false == true && false == false)) (r := false) rfl rfl rfl rfl pair_eg (fun w => pair_eq false false true false w) rfl ?_
            refine Tr.assign rfl rfl rfl ?_
            refine Tr.nil ?_
            refine at_n ?_
            refine Sat.cond_f rfl rfl ?_
            refine Sat.seq ?_
            refine Sat.region ?_
            refine Tr.build (cs := [.bool false, .bool true]) rfl rfl rfl (fun w => by kernel_rfl) ?_
            refine Tr.eql_rec (q := (false == false && false == true)) (r := false) rfl rfl rfl rfl pair_eg (fun w => pair_eq false false false true w) rfl ?_
            refine Tr.assign rfl rfl rfl ?_
            refine Tr.nil ?_
            refine at_n ?_
            refine Sat.cond_f rfl rfl ?_
            refine Sat.skip ?_
            refine bl_n ?_
            refine bl_n ?_
            refine at_n ?_
            (exact ⟨Wd.dbl p.2, (by rw [lin_ff hj hP hQ hs10_2 hs10_5]; exact (cv.rep_dbl hw (cv.on_lin hP hQ _ _))), weak_perm (wk1 rfl (wk1 rfl (wk1 rfl (wk1 rfl (wk1 rfl (wk1 rfl (wk1 rfl (wk1 rfl (wk1 rfl wk0))))))))) (pm_cons (by repeat (exact rem_here)) (pm_cons (by repeat (exact rem_here)) (pm_cons (by repeat (exact rem_here)) (pm_cons (by repeat (exact rem_here)) (pm_cons (by repeat (exact rem_here)) (pm_cons (by repeat (exact rem_here)) (pm_cons (by repeat (exact rem_here)) (pm_cons (by repeat (exact rem_here)) pm_nil))))))))⟩)
      ·
        intro u hj
        have hu := hj
        refine Sat.region ?_
        refine Tr.move rfl rfl rfl ?_
        refine Tr.sub_i64 rfl rfl rfl rfl oM ?_
        refine Tr.assign rfl rfl rfl ?_
        refine Tr.nil ?_
        refine at_n ?_
        exact ⟨(p.1 + 1, u), ⟨by simp only []; omega, hu⟩, by simp only []; omega, weak_perm (wk1 rfl (wk1 rfl (wk1 rfl (wk1 rfl (wk1 rfl (wk1 rfl (wk1 rfl (wk1 rfl (wk1 (congrArg (fun z => some (i64 z)) (show ((255 - p.1 : Nat) : Int) - 1 = 255 - ((p.1 + 1 : Nat) : Int) by omega)) wk0))))))))) (pm_cons (by repeat (exact rem_here)) (pm_cons (by repeat (exact rem_here)) (pm_cons (by repeat (exact rem_here)) (pm_cons (by repeat (exact rem_here)) (pm_cons (by repeat (exact rem_here)) (pm_cons (by repeat (exact rem_here)) (pm_cons (by repeat (exact rem_here)) (pm_cons (by repeat (exact rem_here)) pm_nil))))))))⟩
    ·
      have hje : p.1 = 256 := by omega
      have hfin : p.2.rep (cv.lin (le a) (le b) P Q) := by rw [hje, lin_last] at hw; exact hw
      refine Sat.exit ?_
      refine at_x ?_
      refine at_x ?_
      refine bl_h ?_
      refine at_n ?_
      refine Sat.seq ?_
      refine Sat.region ?_
      refine Tr.callV rfl rfl rfl rfl Body86 (wide_pointR n13 p.2 _ hfin) (fun w h => sees_own h (by exact mem0)) ?_
      refine Tr.storeAll rfl rfl rfl rfl (Point.isCell (by exact ptc_ok _)) Sz41 (Point.length (by exact ptc_ok _)) (by exact mem5) (Point.length (by exact Point.zero_ok)) (by exact upd5) ?_
      refine Tr.nil ?_
      refine at_n ?_
      refine Sat.ret ?_
      refine en_r ?_
      refine ⟨_, [], res_cell rfl rfl Tryz.underlying41 rfl Sz41 (by exact mem5) (by exact Point.length (by exact ptc_ok _)), sP, sP, ?_, rfl⟩
      rfl

theorem ptc_y (P : Pt Fp) : (ptc P).fY = fb P.y := rfl
theorem le_zero32 : le (List.replicate 32 0) = 0 := by kernel_rfl
theorem curve_Mul2z (a : List UInt8) (P : Pt Fp) (ha : a.length = 32) (hP : cv.on P) : Meets Tryz.prog 36 [agg (bytesV a), agg (ptc P).cells, agg (bytesV (List.replicate 32 0)), agg (ptc (zero : Pt Fp)).cells] [] (fun _ => True) (fun v out => v = agg (ptc (cv.mul (le a) P)).cells ∧ out = []) := by
  have h := curve_Mul2 a (List.replicate 32 0) P zero ha rfl hP cv.on_zero
  rwa [le_zero32, lin_one] at h

set_option maxRecDepth 100000 in
set_option maxHeartbeats 1000000 in
theorem curve_Mul (a : List UInt8) (P : Pt Fp) (ha : a.length = 32) (hP : cv.on P) : Meets Tryz.prog 98 [agg (bytesV a), agg (ptc P).cells] [] (fun _ => True) (fun v out => v = agg (ptc (cv.mul (le a) P)).cells ∧ out = []) := by
  intro W hW
  refine calls_of (hp0 := []) Tryz.func98 rfl 10 Tryz.ntmps98 rfl (HRep.nil _) ?_
  refine Sat.seq ?_
  refine Sat.region ?_
  refine Tr.boxA rfl rfl ?_
  intro n2 hn2 hf2
  refine Tr.boxA rfl rfl ?_
  intro n3 hn3 hf3
  refine Tr.alloc (cs := Point.zero.cells) rfl Point.zr rfl ?_
  intro n4 hn4 hf4
  refine Tr.nil ?_
  refine at_n ?_
  refine Sat.seq ?_
  refine Sat.draw [(1, 0), (1, 1), (0, 2), (3, 3), (3, 4), (4, 5)] Mixed (by kernel_rfl) ?_
  refine Tr.loadAll rfl rfl rfl Tryz.underlying32 rfl Sz32 (by exact mem2) (by (simp [ha]; done)) ?_
  refine Tr.loadAll rfl rfl rfl Tryz.underlying41 rfl Sz41 (by exact mem1) (Point.length (by exact ptc_ok _)) ?_
  refine Tr.build (cs := bytesV (List.replicate 32 0)) rfl rfl rfl (fun w => by kernel_rfl) ?_
  refine Tr.callV rfl rfl rfl rfl Body81 (curve_Zero) (fun _ _ => trivial) ?_
  refine Tr.callV rfl rfl rfl rfl Body36 (curve_Mul2z a P ha hP) (fun _ _ => trivial) ?_
  refine Tr.storeAll rfl rfl rfl rfl (Point.isCell (by exact ptc_ok _)) Sz41 (Point.length (by exact ptc_ok _)) (by exact mem0) (Point.length (by exact Point.zero_ok)) (by exact upd0) ?_
  refine Tr.nil ?_
  refine at_n ?_
  refine Sat.ret ?_
  refine en_r ?_
  refine ⟨_, [], res_cell rfl rfl Tryz.underlying41 rfl Sz41 (by exact mem0) (by exact Point.length (by exact ptc_ok _)), sP, sP, ?_, rfl⟩
  rfl

set_option maxRecDepth 100000 in
set_option maxHeartbeats 2000000 in
theorem curve_Neg (P : Pt Fp) (hP : cv.on P) : Meets Tryz.prog 39 [agg (ptc P).cells] [] (fun _ => True) (fun v out => v = agg (ptc (neg P)).cells ∧ out = []) := by
  intro W hW
  refine calls_of (hp0 := []) Tryz.func39 rfl 13 Tryz.ntmps39 rfl (HRep.nil _) ?_
  refine Sat.seq ?_
  refine Sat.region ?_
  refine Tr.boxA rfl rfl ?_
  intro n1 hn1 hf1
  refine Tr.alloc (cs := Point.zero.cells) rfl Point.zr rfl ?_
  intro n2 hn2 hf2
  refine Tr.nil ?_
  refine at_n ?_
  refine Sat.seq ?_
  refine Sat.seq ?_
  refine Sat.region ?_
  refine Tr.loadAll rfl rfl rfl Tryz.underlying41 rfl Sz41 (by exact mem1) (Point.length (by exact ptc_ok _)) ?_
  refine Tr.callV rfl rfl rfl rfl Body80 (curve_Check_on P hP) (fun _ _ => trivial) ?_
  refine Tr.nei rfl rfl rfl rfl (show (!decide _) = false from congrArg not (decide_eq_true (rfl))) ?_
  refine Tr.nil ?_
  refine at_n ?_
  refine Sat.cond_f rfl (rfl) ?_
  refine Sat.skip ?_
  refine at_n ?_
  refine Sat.seq ?_
  refine Sat.draw [(0, 0), (1, 1), (0, 3), (1, 4), (3, 2), (0, 5), (4, 6)] Mixed (by kernel_rfl) ?_
  refine Tr.fld rfl rfl rfl Tryz.underlying41 rfl Sz32 dE _ rfl ?_
  refine Tr.loadN (bytesV _) rfl rfl rfl Tryz.underlying32 rfl Sz32 (by exact mem1) (Point.row_fX (by exact ptc_ok _)) (Point.rl_fX (by exact ptc_ok _)) ?_
  refine Tr.fld rfl rfl rfl Tryz.underlying41 rfl Sz32 dE _ rfl ?_
  refine Tr.loadN (bytesV _) rfl rfl rfl Tryz.underlying32 rfl Sz32 (by exact mem1) (Point.row_fY (by exact ptc_ok _)) (Point.rl_fY (by exact ptc_ok _)) ?_
  refine Tr.callV rfl rfl rfl rfl Body79 (f_neg _) (fun _ _ => trivial) ?_
  refine Tr.build (cs := (ptc (neg P)).cells) rfl rfl rfl (fun w => by kernel_rfl) ?_
  refine Tr.storeAll rfl rfl rfl rfl (Point.isCell (by exact ptc_ok _)) Sz41 (Point.length (by exact ptc_ok _)) (by exact mem0) (Point.length (by exact Point.zero_ok)) (by exact upd0) ?_
  refine Tr.nil ?_
  refine at_n ?_
  refine Sat.ret ?_
  refine en_r ?_
  refine ⟨_, [], res_cell rfl rfl Tryz.underlying41 rfl Sz41 (by exact mem0) (by exact Point.length (by exact ptc_ok _)), sP, sP, ?_, rfl⟩
  rfl

set_option maxRecDepth 100000 in
set_option maxHeartbeats 2000000 in
theorem curve_Bytes (P : Pt Fp) (hP : cv.on P) : Meets Tryz.prog 97 [agg (ptc P).cells] [] (fun _ => True) (fun v out => v = .tuple #[agg (bytesV (pb P)), i64 0] ∧ out = []) := by
  intro W hW
  refine calls_of (hp0 := []) Tryz.func97 rfl 22 Tryz.ntmps97 rfl (HRep.nil _) ?_
  refine Sat.seq ?_
  refine Sat.region ?_
  refine Tr.boxA rfl rfl ?_
  intro n1 hn1 hf1
  refine Tr.alloc (cs := (bytesV (List.replicate 32 0))) rfl Zr22 rfl ?_
  intro n2 hn2 hf2
  refine Tr.assign rfl rfl rfl ?_
  refine Tr.nil ?_
  refine at_n ?_
  refine Sat.seq ?_
  refine Sat.seq ?_
  refine Sat.region ?_
  refine Tr.loadAll rfl rfl rfl Tryz.underlying41 rfl Sz41 (by exact mem1) (Point.length (by exact ptc_ok _)) ?_
  refine Tr.callV rfl rfl rfl rfl Body80 (curve_Check_on P hP) (fun _ _ => trivial) ?_
  refine Tr.assign rfl rfl rfl ?_
  refine Tr.nil ?_
  refine at_n ?_
  refine Sat.seq ?_
  refine Sat.region ?_
  refine Tr.move rfl rfl rfl ?_
  refine Tr.nei rfl rfl rfl rfl (show (!decide _) = false from congrArg not (decide_eq_true (rfl))) ?_
  refine Tr.nil ?_
  refine at_n ?_
  refine Sat.cond_f rfl (rfl) ?_
  refine Sat.skip ?_
  refine at_n ?_
  refine Sat.seq ?_
  refine Sat.region ?_
  refine Tr.fld rfl rfl rfl Tryz.underlying41 rfl Sz32 dE _ rfl ?_
  refine Tr.loadN (bytesV _) rfl rfl rfl Tryz.underlying32 rfl Sz32 (by exact mem1) (Point.row_fY (by exact ptc_ok _)) (Point.rl_fY (by exact ptc_ok _)) ?_
  refine Tr.alloc (cs := (bytesV (List.replicate 32 0))) rfl Zr22 rfl ?_
  intro n5 hn5 hf5
  refine Tr.storeAll rfl rfl rfl rfl (by exact bytesV_cell _) Sz22 (by (simp [fb_length, ptc_y]; done)) (by exact mem0) (by (simp; done)) (by exact upd0) ?_
  refine Tr.nil ?_
  refine at_n ?_
  refine Sat.join (ι := Unit) (fun _u => ⟨[(2, ptr n2 0), (5, ptr n5 0)], [⟨n5, bytesV (pb P), 22, 32⟩, ⟨n2, bytesV (List.replicate 32 0), 22, 32⟩]⟩) (fun _u => True) ?_ ?_
  ·
    refine Sat.seq ?_
    refine Sat.region ?_
    refine Tr.fld rfl rfl rfl Tryz.underlying41 rfl Sz32 dE _ rfl ?_
    refine Tr.loadN (bytesV _) rfl rfl rfl Tryz.underlying32 rfl Sz32 (by exact mem2) (Point.row_fX (by exact ptc_ok _)) (Point.rl_fX (by exact ptc_ok _)) ?_
    refine Tr.callV rfl rfl rfl rfl Body118 (f_odd P.x) (fun _ _ => trivial) ?_
    refine Tr.nil ?_
    refine at_n ?_
    refine Sat.condP rfl (fun hc1 => ?_) (fun hc1 => ?_)
    ·
      refine Sat.region ?_
      refine Tr.idxArr1 rfl rfl rfl rfl Tryz.underlying22 Sz5 31 rfl dE ?_
      refine Tr.load1 rfl rfl rfl Tryz.underlying5 rfl (by exact mem0) (by rfl) ?_
      refine Tr.or_u8 rfl rfl rfl (show evIn _ _ = some (u8 128) from rfl) ?_
      refine Tr.idxArr1 rfl rfl rfl rfl Tryz.underlying22 Sz5 31 rfl dE ?_
      refine Tr.store1 rfl rfl rfl rfl rfl Sz5 (by exact mem0) (by (simp [fb_length, ptc_y]; done)) (by exact set_bytes _ _ _) (by exact upd0) ?_
      refine Tr.nil ?_
      refine at_n ?_
      (rw [show pb P = (fb P.y).set 31 ((fb P.y).getD 31 0 ||| 128) from if_pos hc1]; exact ⟨(), trivial, weak_of (wk1 rfl (wk1 rfl wk0)) (wh1 (by exact mem0) (wh1 (by exact mem1) wh0)) (by repeat (first | exact ns_nil | refine ns_keep rfl ?_))⟩)
    ·
      refine Sat.skip ?_
      refine at_n ?_
      (rw [show pb P = fb P.y from if_neg hc1]; exact ⟨(), trivial, weak_of (wk1 rfl (wk1 rfl wk0)) (wh1 (by exact mem0) (wh1 (by exact mem1) wh0)) (by repeat (first | exact ns_nil | refine ns_keep rfl ?_))⟩)
  ·
    intro _u hj
    skip
    refine Sat.seq ?_
    refine Sat.region ?_
    refine Tr.loadAll rfl rfl rfl Tryz.underlying22 rfl Sz22 (by exact mem0) (by (simp [pb_length]; done)) ?_
    refine Tr.storeAll rfl rfl rfl rfl (by exact bytesV_cell _) Sz22 (by (simp [pb_length]; done)) (by exact mem1) (by (simp; done)) (by exact upd1) ?_
    refine Tr.assign rfl rfl rfl ?_
    refine Tr.nil ?_
    refine at_n ?_
    refine Sat.ret ?_
    refine en_r ?_
    refine ⟨_, [], res_cell_tmp rfl rfl rfl Tryz.underlying22 rfl Sz22 (by exact mem1) (by simp [pb_length]), sP, sP, ?_, rfl⟩
    rfl

def rdV (b : List UInt8) : Value := match rdP b with
  | some P => .tuple #[agg (ptc P).cells, i64 0]
  | none => .tuple #[agg Point.zero.cells, i64 4]
theorem rdV_none {b : List UInt8} (h : rdP b = none) : rdV b = .tuple #[agg Point.zero.cells, i64 4] := by rw [rdV, h]
theorem rdV_some {b : List UInt8} {P : Pt Fp} (h : rdP b = some P) : rdV b = .tuple #[agg (ptc P).cells, i64 0] := by rw [rdV, h]
theorem rd_n1 {b : List UInt8} (h : ¬ fb (fe (le (lowB b))) = lowB b) : rdP b = none := by rw [rdP, if_neg h]
theorem rd_n2 {b : List UInt8} {r : Fp × Bool} (hx : xOf (fe (le (lowB b))) = r) (h : r.2 = false) : rdP b = none := by
  rw [rdP]
  split
  · rw [hx, if_neg (by rw [h]; simp)]
  · rfl
theorem rd_n3 {b : List UInt8} {r : Fp × Bool} (hx : xOf (fe (le (lowB b))) = r) (h1 : topB b = true) (h : fb r.1 = List.replicate 32 0) : rdP b = none := by
  have h2 : r.1 = 0 := fb_inj.1 (h.trans fb_zero.symm)
  rw [rdP]
  split
  · rw [hx, if_neg (fun e => e.2 ⟨h1, h2⟩)]
  · rfl
theorem rd_s1 {b : List UInt8} {r : Fp × Bool} (hc : fb (fe (le (lowB b))) = lowB b) (hx : xOf (fe (le (lowB b))) = r) (h2 : r.2 = true) (h1 : topB b = true) (h : ¬ fb r.1 = List.replicate 32 0) : rdP b = some ⟨-r.1, fe (le (lowB b))⟩ := by
  rw [rdP, if_pos hc, hx, if_pos ⟨h2, fun e => h (by rw [e.2, fb_zero])⟩, if_pos h1]
theorem rd_s2 {b : List UInt8} {r : Fp × Bool} (hc : fb (fe (le (lowB b))) = lowB b) (hx : xOf (fe (le (lowB b))) = r) (h2 : r.2 = true) (h1 : topB b = false) : rdP b = some ⟨r.1, fe (le (lowB b))⟩ := by
  rw [rdP, if_pos hc, hx, if_pos ⟨h2, fun e => by rw [h1] at e; cases e.1⟩, if_neg (by rw [h1]; decide)]
theorem topB_t {b : List UInt8} (h : ¬ ((b.getD 31 0 &&& 128).toNat : Int) = 0) : topB b = true := by rw [topB, decide_eq_false h]; rfl
theorem topB_f {b : List UInt8} (h : ((b.getD 31 0 &&& 128).toNat : Int) = 0) : topB b = false := by rw [topB, decide_eq_true h]; rfl

set_option maxRecDepth 100000 in
set_option maxHeartbeats 8000000 in
theorem curve_Read (b : List UInt8) (hb : b.length = 32) : Meets Tryz.prog 35 [agg (bytesV b)] [] (fun _ => True) (fun v out => v = rdV b ∧ out = []) := by
  intro W hW
  have hll := lowB_length hb
  obtain ⟨Y, hY⟩ : ∃ Y, fe (le (lowB b)) = Y := ⟨_, rfl⟩
  have hcan := field_Canon (lowB b) hll
  have hmul := field_Mul (lowB b) (lowB b) hll hll
  have hinv := f_inv (fD * (Y * Y) + 1)
  have hxo : xOf Y = fRoot ((Y * Y - 1) * finv (fD * (Y * Y) + 1)) := rfl
  revert hinv hxo
  generalize finv (fD * (Y * Y) + 1) = iz
  intro hinv hxo
  have hroot := field_Root (fb ((Y * Y - 1) * iz)) ((Y * Y - 1) * iz) (fb_length _) (fe_fb _)
  revert hroot hxo
  generalize fRoot ((Y * Y - 1) * iz) = xr
  intro hxo hroot
  rw [← hY] at hxo
  rw [hY] at hcan hmul
  refine calls_of (hp0 := []) Tryz.func35 rfl 60 Tryz.ntmps35 rfl (HRep.nil _) ?_
  refine Sat.seq ?_
  refine Sat.region ?_
  refine Tr.boxA rfl rfl ?_
  intro n1 hn1 hf1
  refine Tr.alloc (cs := Point.zero.cells) rfl Point.zr rfl ?_
  intro n2 hn2 hf2
  refine Tr.assign rfl rfl rfl ?_
  refine Tr.nil ?_
  refine at_n ?_
  refine Sat.seq ?_
  refine Sat.region ?_
  refine Tr.idxArr1 rfl rfl rfl rfl Tryz.underlying22 Sz5 31 rfl dE ?_
  refine Tr.load1 rfl rfl rfl Tryz.underlying5 rfl (by exact mem1) (by exact get_bytes oM) ?_
  refine Tr.and_u8 rfl rfl rfl (show evIn _ _ = some (u8 128) from rfl) ?_
  refine two (fun r hr k => Tr.nei rfl rfl rfl rfl hr k) (fun hs1_30 => ?_) (fun hs1_30 => ?_)
  ·
    have hs1_3 := nd_t hs1_30
    refine Tr.assign rfl rfl rfl ?_
    refine Tr.nil ?_
    refine at_n ?_
    refine Sat.seq ?_
    refine Sat.region ?_
    refine Tr.loadAll rfl rfl rfl Tryz.underlying22 rfl Sz22 (by exact mem1) (by (simp [hb]; done)) ?_
    refine Tr.alloc (cs := (bytesV (List.replicate 32 0))) rfl Zr32 rfl ?_
    intro n5 hn5 hf5
    refine Tr.storeAll rfl rfl rfl rfl (by exact bytesV_cell _) Sz32 (by (simp [hb]; done)) (by exact mem0) (by (simp; done)) (by exact upd0) ?_
    refine Tr.nil ?_
    refine at_n ?_
    refine Sat.seq ?_
    refine Sat.region ?_
    refine Tr.idxArr1 rfl rfl rfl rfl Tryz.underlying32 Sz5 31 rfl dE ?_
    refine Tr.load1 rfl rfl rfl Tryz.underlying5 rfl (by exact mem0) (by exact get_bytes oM) ?_
    refine Tr.and_u8 rfl rfl rfl (show evIn _ _ = some (u8 127) from rfl) ?_
    refine Tr.idxArr1 rfl rfl rfl rfl Tryz.underlying32 Sz5 31 rfl dE ?_
    refine Tr.store1 rfl rfl rfl rfl rfl Sz5 (by exact mem0) (by (simp [hb]; done)) (by exact set_bytes _ _ _) (by exact upd0) ?_
    refine Tr.nil ?_
    refine at_n ?_
    refine Sat.seq ?_
    refine Sat.seq ?_
    refine Sat.region ?_
    refine Tr.loadAll rfl rfl rfl Tryz.underlying32 rfl Sz32 (by exact mem0) (by (simp [hb]; done)) ?_
    refine Tr.callV rfl rfl rfl rfl Body71 (hcan) (fun _ _ => trivial) ?_
    refine Tr.not rfl rfl rfl ?_
    refine Tr.nil ?_
    refine at_n ?_
    refine Sat.cond rfl (fun hc0 => ?_) (fun hc0 => ?_)
    ·
      have hcn : ¬ fb Y = lowB b := of_decide_eq_false (by simpa using hc0)
      refine Sat.seq ?_
      refine Sat.region ?_
      refine Tr.build (cs := Point.zero.cells) rfl rfl rfl (fun w => by kernel_rfl) ?_
      refine Tr.storeAll rfl rfl rfl rfl (Point.isCell (by exact Point.zero_ok)) Sz41 (Point.length (by exact Point.zero_ok)) (by exact mem1) (Point.length (by exact Point.zero_ok)) (by exact upd1) ?_
      refine Tr.assign rfl rfl rfl ?_
      refine Tr.nil ?_
      refine at_n ?_
      refine Sat.ret ?_
      refine at_r ?_
      refine en_r ?_
      refine ⟨_, [], res_cell_tmp rfl rfl rfl Tryz.underlying41 rfl Sz41 (by exact mem1) (by exact Point.length (by exact Point.zero_ok)), sP, sP, ?_, rfl⟩
      exact (rdV_none (rd_n1 (by rw [hY]; exact hcn))).symm
    ·
      have hcy : fb Y = lowB b := of_decide_eq_true (by simpa using hc0)
      refine Sat.skip ?_
      refine at_n ?_
      refine Sat.seq ?_
      refine Sat.region ?_
      refine Tr.loadAll rfl rfl rfl Tryz.underlying32 rfl Sz32 (by exact mem0) (by (simp [hb]; done)) ?_
      refine Tr.loadAll rfl rfl rfl Tryz.underlying32 rfl Sz32 (by exact mem0) (by (simp [hb]; done)) ?_
      refine Tr.callV rfl rfl rfl rfl Body72 (hmul) (fun _ _ => trivial) ?_
      refine Tr.alloc (cs := (bytesV (List.replicate 32 0))) rfl Zr32 rfl ?_
      intro n6 hn6 hf6
      refine Tr.storeAll rfl rfl rfl rfl (by exact bytesV_cell _) Sz32 (by (simp [fb_length]; done)) (by exact mem0) (by (simp; done)) (by exact upd0) ?_
      refine Tr.nil ?_
      refine at_n ?_
      refine Sat.seq ?_
      refine Sat.draw [(1, 0), (3, 1), (3, 2), (2, 3), (4, 4)] Mixed (by kernel_rfl) ?_
      refine Tr.loadAll rfl rfl rfl Tryz.underlying32 rfl Sz32 (by exact mem0) (by (simp [fb_length]; done)) ?_
      refine Tr.callV rfl rfl rfl rfl Body74 (f_one) (fun _ _ => trivial) ?_
      refine Tr.callV rfl rfl rfl rfl Body73 (f_sub _ _) (fun _ _ => trivial) ?_
      refine Tr.alloc (cs := (bytesV (List.replicate 32 0))) rfl Zr32 rfl ?_
      intro n7 hn7 hf7
      refine Tr.storeAll rfl rfl rfl rfl (by exact bytesV_cell _) Sz32 (by (simp [fb_length]; done)) (by exact mem0) (by (simp; done)) (by exact upd0) ?_
      refine Tr.nil ?_
      refine at_n ?_
      refine Sat.seq ?_
      refine Sat.draw [(1, 1), (3, 0), (3, 2), (3, 3), (3, 4), (2, 5), (4, 6)] Mixed (by kernel_rfl) ?_
      refine Tr.loadAll rfl rfl rfl Tryz.underlying32 rfl Sz32 (by exact mem1) (by (simp [fb_length]; done)) ?_
      refine Tr.callV rfl rfl rfl rfl Body76 (curve_D) (fun _ _ => trivial) ?_
      refine Tr.callV rfl rfl rfl rfl Body72 (f_mul _ _) (fun _ _ => trivial) ?_
      refine Tr.callV rfl rfl rfl rfl Body74 (f_one) (fun _ _ => trivial) ?_
      refine Tr.callV rfl rfl rfl rfl Body75 (f_add _ _) (fun _ _ => trivial) ?_
      refine Tr.alloc (cs := (bytesV (List.replicate 32 0))) rfl Zr32 rfl ?_
      intro n8 hn8 hf8
      refine Tr.storeAll rfl rfl rfl rfl (by exact bytesV_cell _) Sz32 (by (simp [fb_length]; done)) (by exact mem0) (by (simp; done)) (by exact upd0) ?_
      refine Tr.nil ?_
      refine at_n ?_
      refine Sat.seq ?_
      refine Sat.draw [(1, 0), (1, 1), (3, 2), (3, 3), (3, 4), (0, 5), (0, 6), (0, 7), (2, 8), (4, 9), (0, 10)] Mixed (by kernel_rfl) ?_
      refine Tr.loadAll rfl rfl rfl Tryz.underlying32 rfl Sz32 (by exact mem1) (by (simp [fb_length]; done)) ?_
      refine Tr.loadAll rfl rfl rfl Tryz.underlying32 rfl Sz32 (by exact mem0) (by (simp [fb_length]; done)) ?_
      refine Tr.callV rfl rfl rfl rfl Body78 (hinv) (fun _ _ => trivial) ?_
      refine Tr.callV rfl rfl rfl rfl Body72 (f_mul _ _) (fun _ _ => trivial) ?_
      refine Tr.callV rfl rfl rfl rfl Body77 (hroot) (fun _ _ => trivial) ?_
      refine Tr.move rfl rfl rfl ?_
      refine Tr.extract rfl rfl rfl rfl ?_
      refine Tr.extractB rfl rfl rfl rfl (fun hs9_70 => ?_) (fun hs9_70 => ?_)
      ·
        have hs9_7 := hs9_70
        refine Tr.alloc (cs := (bytesV (List.replicate 32 0))) rfl Zr32 rfl ?_
        intro n9 hn9 hf9
        refine Tr.storeAll rfl rfl rfl rfl (by exact bytesV_cell _) Sz32 (by (simp [fb_length]; done)) (by exact mem0) (by (simp; done)) (by exact upd0) ?_
        refine Tr.assign rfl rfl rfl ?_
        refine Tr.nil ?_
        refine at_n ?_
        refine Sat.seq ?_
        refine Sat.seq ?_
        refine Sat.region ?_
        refine Tr.move rfl rfl rfl ?_
        refine Tr.not rfl rfl rfl ?_
        refine Tr.move rfl rfl rfl ?_
        refine Tr.move rfl rfl rfl ?_
        refine Tr.move rfl rfl rfl ?_
        refine Tr.loadAll rfl rfl rfl Tryz.underlying32 rfl Sz32 (by exact mem0) (by (simp [fb_length]; done)) ?_
        refine Tr.build (cs := bytesV (List.replicate 32 0)) rfl rfl rfl (fun w => by kernel_rfl) ?_
        refine two (fun r hr k => Tr.eql_bytes rfl rfl rfl rfl Tryz.eqGuardType32 Tryz.underlying32 Tryz.underlying5 Sz5 (by (simp [fb_length]; done)) (by (simp; done)) hr k) (fun hs10_70 => ?_) (fun hs10_70 => ?_)
        ·
          have hs10_7 := of_decide_eq_true hs10_70
          refine Tr.pick rfl rfl rfl rfl rfl rfl ?_
          refine Tr.pick rfl rfl rfl rfl rfl rfl ?_
          refine Tr.nil ?_
          refine at_n ?_
          refine Sat.cond_t rfl rfl ?_
          refine Sat.seq ?_
          refine Sat.region ?_
          refine Tr.build (cs := Point.zero.cells) rfl rfl rfl (fun w => by kernel_rfl) ?_
          refine Tr.storeAll rfl rfl rfl rfl (Point.isCell (by exact Point.zero_ok)) Sz41 (Point.length (by exact Point.zero_ok)) (by exact mem5) (Point.length (by exact Point.zero_ok)) (by exact upd5) ?_
          refine Tr.assign rfl rfl rfl ?_
          refine Tr.nil ?_
          refine at_n ?_
          refine Sat.ret ?_
          refine at_r ?_
          refine en_r ?_
          refine ⟨_, [], res_cell_tmp rfl rfl rfl Tryz.underlying41 rfl Sz41 (by exact mem5) (by exact Point.length (by exact Point.zero_ok)), sP, sP, ?_, rfl⟩
          exact (rdV_none (rd_n3 hxo (topB_t hs1_3) hs10_7)).symm
        ·
          have hs10_7 := of_decide_eq_false hs10_70
          refine Tr.pick rfl rfl rfl rfl rfl rfl ?_
          refine Tr.pick rfl rfl rfl rfl rfl rfl ?_
          refine Tr.nil ?_
          refine at_n ?_
          refine Sat.cond_f rfl rfl ?_
          refine Sat.skip ?_
          refine at_n ?_
          refine Sat.seq ?_
          refine Sat.seq ?_
          refine Sat.region ?_
          refine Tr.move rfl rfl rfl ?_
          refine Tr.nil ?_
          refine at_n ?_
          refine Sat.cond_t rfl rfl ?_
          refine Sat.region ?_
          refine Tr.loadAll rfl rfl rfl Tryz.underlying32 rfl Sz32 (by exact mem0) (by (simp [fb_length]; done)) ?_
          refine Tr.callV rfl rfl rfl rfl Body79 (f_neg _) (fun _ _ => trivial) ?_
          refine Tr.storeAll rfl rfl rfl rfl (by exact bytesV_cell _) Sz32 (by (simp [fb_length]; done)) (by exact mem0) (by (simp [fb_length]; done)) (by exact upd0) ?_
          refine Tr.nil ?_
          refine at_n ?_
          refine Sat.seq ?_
          refine Sat.region ?_
          rw [show b.set 31 (b.getD 31 0 &&& 127) = fb Y from hcy.symm]
          refine Tr.loadAll rfl rfl rfl Tryz.underlying32 rfl Sz32 (by exact mem0) (by (simp [fb_length]; done)) ?_
          refine Tr.loadAll rfl rfl rfl Tryz.underlying32 rfl Sz32 (by exact mem4) (by (simp [fb_length]; done)) ?_
          refine Tr.build (cs := (⟨fb (-xr.1), fb Y⟩ : Point).cells) rfl rfl rfl (fun w => by kernel_rfl) ?_
          refine Tr.storeAll rfl rfl rfl rfl (Point.isCell (by exact ⟨fb32 _, fb32 _⟩)) Sz41 (Point.length (by exact ⟨fb32 _, fb32 _⟩)) (by exact mem5) (Point.length (by exact Point.zero_ok)) (by exact upd5) ?_
          refine Tr.assign rfl rfl rfl ?_
          refine Tr.nil ?_
          refine at_n ?_
          refine Sat.ret ?_
          refine en_r ?_
          refine ⟨_, [], res_cell_tmp rfl rfl rfl Tryz.underlying41 rfl Sz41 (by exact mem5) (by exact Point.length (by exact ⟨fb32 _, fb32 _⟩)), sP, sP, ?_, rfl⟩
          (rw [rdV_some (rd_s1 (by rw [hY]; exact hcy) hxo hs9_7 (topB_t hs1_3) hs10_7), hY]; rfl)
      ·
        have hs9_7 := hs9_70
        refine Tr.alloc (cs := (bytesV (List.replicate 32 0))) rfl Zr32 rfl ?_
        intro n9 hn9 hf9
        refine Tr.storeAll rfl rfl rfl rfl (by exact bytesV_cell _) Sz32 (by (simp [fb_length]; done)) (by exact mem0) (by (simp; done)) (by exact upd0) ?_
        refine Tr.assign rfl rfl rfl ?_
        refine Tr.nil ?_
        refine at_n ?_
        refine Sat.seq ?_
        refine Sat.seq ?_
        refine Sat.region ?_
        refine Tr.move rfl rfl rfl ?_
        refine Tr.not rfl rfl rfl ?_
        refine Tr.move rfl rfl rfl ?_
        refine Tr.skp rfl rfl ?_
        refine Tr.skp rfl rfl ?_
        refine Tr.skp rfl rfl ?_
        refine Tr.skp rfl rfl ?_
        refine Tr.skp rfl rfl ?_
        refine Tr.skp rfl rfl ?_
        refine Tr.pick rfl rfl rfl rfl rfl rfl ?_
        refine Tr.nil ?_
        refine at_n ?_
        refine Sat.cond_t rfl rfl ?_
        refine Sat.seq ?_
        refine Sat.region ?_
        refine Tr.build (cs := Point.zero.cells) rfl rfl rfl (fun w => by kernel_rfl) ?_
        refine Tr.storeAll rfl rfl rfl rfl (Point.isCell (by exact Point.zero_ok)) Sz41 (Point.length (by exact Point.zero_ok)) (by exact mem5) (Point.length (by exact Point.zero_ok)) (by exact upd5) ?_
        refine Tr.assign rfl rfl rfl ?_
        refine Tr.nil ?_
        refine at_n ?_
        refine Sat.ret ?_
        refine at_r ?_
        refine en_r ?_
        refine ⟨_, [], res_cell_tmp rfl rfl rfl Tryz.underlying41 rfl Sz41 (by exact mem5) (by exact Point.length (by exact Point.zero_ok)), sP, sP, ?_, rfl⟩
        exact (rdV_none (rd_n2 hxo hs9_7)).symm
  ·
    have hs1_3 := nd_f hs1_30
    refine Tr.assign rfl rfl rfl ?_
    refine Tr.nil ?_
    refine at_n ?_
    refine Sat.seq ?_
    refine Sat.region ?_
    refine Tr.loadAll rfl rfl rfl Tryz.underlying22 rfl Sz22 (by exact mem1) (by (simp [hb]; done)) ?_
    refine Tr.alloc (cs := (bytesV (List.replicate 32 0))) rfl Zr32 rfl ?_
    intro n5 hn5 hf5
    refine Tr.storeAll rfl rfl rfl rfl (by exact bytesV_cell _) Sz32 (by (simp [hb]; done)) (by exact mem0) (by (simp; done)) (by exact upd0) ?_
    refine Tr.nil ?_
    refine at_n ?_
    refine Sat.seq ?_
    refine Sat.region ?_
    refine Tr.idxArr1 rfl rfl rfl rfl Tryz.underlying32 Sz5 31 rfl dE ?_
    refine Tr.load1 rfl rfl rfl Tryz.underlying5 rfl (by exact mem0) (by exact get_bytes oM) ?_
    refine Tr.and_u8 rfl rfl rfl (show evIn _ _ = some (u8 127) from rfl) ?_
    refine Tr.idxArr1 rfl rfl rfl rfl Tryz.underlying32 Sz5 31 rfl dE ?_
    refine Tr.store1 rfl rfl rfl rfl rfl Sz5 (by exact mem0) (by (simp [hb]; done)) (by exact set_bytes _ _ _) (by exact upd0) ?_
    refine Tr.nil ?_
    refine at_n ?_
    refine Sat.seq ?_
    refine Sat.seq ?_
    refine Sat.region ?_
    refine Tr.loadAll rfl rfl rfl Tryz.underlying32 rfl Sz32 (by exact mem0) (by (simp [hb]; done)) ?_
    refine Tr.callV rfl rfl rfl rfl Body71 (hcan) (fun _ _ => trivial) ?_
    refine Tr.not rfl rfl rfl ?_
    refine Tr.nil ?_
    refine at_n ?_
    refine Sat.cond rfl (fun hc0 => ?_) (fun hc0 => ?_)
    ·
      have hcn : ¬ fb Y = lowB b := of_decide_eq_false (by simpa using hc0)
      refine Sat.seq ?_
      refine Sat.region ?_
      refine Tr.build (cs := Point.zero.cells) rfl rfl rfl (fun w => by kernel_rfl) ?_
      refine Tr.storeAll rfl rfl rfl rfl (Point.isCell (by exact Point.zero_ok)) Sz41 (Point.length (by exact Point.zero_ok)) (by exact mem1) (Point.length (by exact Point.zero_ok)) (by exact upd1) ?_
      refine Tr.assign rfl rfl rfl ?_
      refine Tr.nil ?_
      refine at_n ?_
      refine Sat.ret ?_
      refine at_r ?_
      refine en_r ?_
      refine ⟨_, [], res_cell_tmp rfl rfl rfl Tryz.underlying41 rfl Sz41 (by exact mem1) (by exact Point.length (by exact Point.zero_ok)), sP, sP, ?_, rfl⟩
      exact (rdV_none (rd_n1 (by rw [hY]; exact hcn))).symm
    ·
      have hcy : fb Y = lowB b := of_decide_eq_true (by simpa using hc0)
      refine Sat.skip ?_
      refine at_n ?_
      refine Sat.seq ?_
      refine Sat.region ?_
      refine Tr.loadAll rfl rfl rfl Tryz.underlying32 rfl Sz32 (by exact mem0) (by (simp [hb]; done)) ?_
      refine Tr.loadAll rfl rfl rfl Tryz.underlying32 rfl Sz32 (by exact mem0) (by (simp [hb]; done)) ?_
      refine Tr.callV rfl rfl rfl rfl Body72 (hmul) (fun _ _ => trivial) ?_
      refine Tr.alloc (cs := (bytesV (List.replicate 32 0))) rfl Zr32 rfl ?_
      intro n6 hn6 hf6
      refine Tr.storeAll rfl rfl rfl rfl (by exact bytesV_cell _) Sz32 (by (simp [fb_length]; done)) (by exact mem0) (by (simp; done)) (by exact upd0) ?_
      refine Tr.nil ?_
      refine at_n ?_
      refine Sat.seq ?_
      refine Sat.draw [(1, 0), (3, 1), (3, 2), (2, 3), (4, 4)] Mixed (by kernel_rfl) ?_
      refine Tr.loadAll rfl rfl rfl Tryz.underlying32 rfl Sz32 (by exact mem0) (by (simp [fb_length]; done)) ?_
      refine Tr.callV rfl rfl rfl rfl Body74 (f_one) (fun _ _ => trivial) ?_
      refine Tr.callV rfl rfl rfl rfl Body73 (f_sub _ _) (fun _ _ => trivial) ?_
      refine Tr.alloc (cs := (bytesV (List.replicate 32 0))) rfl Zr32 rfl ?_
      intro n7 hn7 hf7
      refine Tr.storeAll rfl rfl rfl rfl (by exact bytesV_cell _) Sz32 (by (simp [fb_length]; done)) (by exact mem0) (by (simp; done)) (by exact upd0) ?_
      refine Tr.nil ?_
      refine at_n ?_
      refine Sat.seq ?_
      refine Sat.draw [(1, 1), (3, 0), (3, 2), (3, 3), (3, 4), (2, 5), (4, 6)] Mixed (by kernel_rfl) ?_
      refine Tr.loadAll rfl rfl rfl Tryz.underlying32 rfl Sz32 (by exact mem1) (by (simp [fb_length]; done)) ?_
      refine Tr.callV rfl rfl rfl rfl Body76 (curve_D) (fun _ _ => trivial) ?_
      refine Tr.callV rfl rfl rfl rfl Body72 (f_mul _ _) (fun _ _ => trivial) ?_
      refine Tr.callV rfl rfl rfl rfl Body74 (f_one) (fun _ _ => trivial) ?_
      refine Tr.callV rfl rfl rfl rfl Body75 (f_add _ _) (fun _ _ => trivial) ?_
      refine Tr.alloc (cs := (bytesV (List.replicate 32 0))) rfl Zr32 rfl ?_
      intro n8 hn8 hf8
      refine Tr.storeAll rfl rfl rfl rfl (by exact bytesV_cell _) Sz32 (by (simp [fb_length]; done)) (by exact mem0) (by (simp; done)) (by exact upd0) ?_
      refine Tr.nil ?_
      refine at_n ?_
      refine Sat.seq ?_
      refine Sat.draw [(1, 0), (1, 1), (3, 2), (3, 3), (3, 4), (0, 5), (0, 6), (0, 7), (2, 8), (4, 9), (0, 10)] Mixed (by kernel_rfl) ?_
      refine Tr.loadAll rfl rfl rfl Tryz.underlying32 rfl Sz32 (by exact mem1) (by (simp [fb_length]; done)) ?_
      refine Tr.loadAll rfl rfl rfl Tryz.underlying32 rfl Sz32 (by exact mem0) (by (simp [fb_length]; done)) ?_
      refine Tr.callV rfl rfl rfl rfl Body78 (hinv) (fun _ _ => trivial) ?_
      refine Tr.callV rfl rfl rfl rfl Body72 (f_mul _ _) (fun _ _ => trivial) ?_
      refine Tr.callV rfl rfl rfl rfl Body77 (hroot) (fun _ _ => trivial) ?_
      refine Tr.move rfl rfl rfl ?_
      refine Tr.extract rfl rfl rfl rfl ?_
      refine Tr.extractB rfl rfl rfl rfl (fun hs9_70 => ?_) (fun hs9_70 => ?_)
      ·
        have hs9_7 := hs9_70
        refine Tr.alloc (cs := (bytesV (List.replicate 32 0))) rfl Zr32 rfl ?_
        intro n9 hn9 hf9
        refine Tr.storeAll rfl rfl rfl rfl (by exact bytesV_cell _) Sz32 (by (simp [fb_length]; done)) (by exact mem0) (by (simp; done)) (by exact upd0) ?_
        refine Tr.assign rfl rfl rfl ?_
        refine Tr.nil ?_
        refine at_n ?_
        refine Sat.seq ?_
        refine Sat.seq ?_
        refine Sat.region ?_
        refine Tr.move rfl rfl rfl ?_
        refine Tr.not rfl rfl rfl ?_
        refine Tr.move rfl rfl rfl ?_
        refine Tr.move rfl rfl rfl ?_
        refine Tr.move rfl rfl rfl ?_
        refine Tr.skp rfl rfl ?_
        refine Tr.skp rfl rfl ?_
        refine Tr.skp rfl rfl ?_
        refine Tr.pick rfl rfl rfl rfl rfl rfl ?_
        refine Tr.pick rfl rfl rfl rfl rfl rfl ?_
        refine Tr.nil ?_
        refine at_n ?_
        refine Sat.cond_f rfl rfl ?_
        refine Sat.skip ?_
        refine at_n ?_
        refine Sat.seq ?_
        refine Sat.seq ?_
        refine Sat.region ?_
        refine Tr.move rfl rfl rfl ?_
        refine Tr.nil ?_
        refine at_n ?_
        refine Sat.cond_f rfl rfl ?_
        refine Sat.skip ?_
        refine at_n ?_
        refine Sat.seq ?_
        refine Sat.region ?_
        rw [show b.set 31 (b.getD 31 0 &&& 127) = fb Y from hcy.symm]
        refine Tr.loadAll rfl rfl rfl Tryz.underlying32 rfl Sz32 (by exact mem0) (by (simp [fb_length]; done)) ?_
        refine Tr.loadAll rfl rfl rfl Tryz.underlying32 rfl Sz32 (by exact mem4) (by (simp [fb_length]; done)) ?_
        refine Tr.build (cs := (⟨fb xr.1, fb Y⟩ : Point).cells) rfl rfl rfl (fun w => by kernel_rfl) ?_
        refine Tr.storeAll rfl rfl rfl rfl (Point.isCell (by exact ⟨fb32 _, fb32 _⟩)) Sz41 (Point.length (by exact ⟨fb32 _, fb32 _⟩)) (by exact mem5) (Point.length (by exact Point.zero_ok)) (by exact upd5) ?_
        refine Tr.assign rfl rfl rfl ?_
        refine Tr.nil ?_
        refine at_n ?_
        refine Sat.ret ?_
        refine en_r ?_
        refine ⟨_, [], res_cell_tmp rfl rfl rfl Tryz.underlying41 rfl Sz41 (by exact mem5) (by exact Point.length (by exact ⟨fb32 _, fb32 _⟩)), sP, sP, ?_, rfl⟩
        (rw [rdV_some (rd_s2 (by rw [hY]; exact hcy) hxo hs9_7 (topB_f hs1_3)), hY]; rfl)
      ·
        have hs9_7 := hs9_70
        refine Tr.alloc (cs := (bytesV (List.replicate 32 0))) rfl Zr32 rfl ?_
        intro n9 hn9 hf9
        refine Tr.storeAll rfl rfl rfl rfl (by exact bytesV_cell _) Sz32 (by (simp [fb_length]; done)) (by exact mem0) (by (simp; done)) (by exact upd0) ?_
        refine Tr.assign rfl rfl rfl ?_
        refine Tr.nil ?_
        refine at_n ?_
        refine Sat.seq ?_
        refine Sat.seq ?_
        refine Sat.region ?_
        refine Tr.move rfl rfl rfl ?_
        refine Tr.not rfl rfl rfl ?_
        refine Tr.move rfl rfl rfl ?_
        refine Tr.skp rfl rfl ?_
        refine Tr.skp rfl rfl ?_
        refine Tr.skp rfl rfl ?_
        refine Tr.skp rfl rfl ?_
        refine Tr.skp rfl rfl ?_
        refine Tr.skp rfl rfl ?_
        refine Tr.pick rfl rfl rfl rfl rfl rfl ?_
        refine Tr.nil ?_
        refine at_n ?_
        refine Sat.cond_t rfl rfl ?_
        refine Sat.seq ?_
        refine Sat.region ?_
        refine Tr.build (cs := Point.zero.cells) rfl rfl rfl (fun w => by kernel_rfl) ?_
        refine Tr.storeAll rfl rfl rfl rfl (Point.isCell (by exact Point.zero_ok)) Sz41 (Point.length (by exact Point.zero_ok)) (by exact mem5) (Point.length (by exact Point.zero_ok)) (by exact upd5) ?_
        refine Tr.assign rfl rfl rfl ?_
        refine Tr.nil ?_
        refine at_n ?_
        refine Sat.ret ?_
        refine at_r ?_
        refine en_r ?_
        refine ⟨_, [], res_cell_tmp rfl rfl rfl Tryz.underlying41 rfl Sz41 (by exact mem5) (by exact Point.length (by exact Point.zero_ok)), sP, sP, ?_, rfl⟩
        exact (rdV_none (rd_n2 hxo hs9_7)).symm

open Classical in
noncomputable def smallB (P : Pt Fp) : Bool := decide (cv.mul 8 P = zero)
theorem rep8 (P : Pt Fp) (h : cv.on P) : (Wd.dbl (Wd.dbl (Wd.dbl (Wd.of P)))).rep (cv.mul 8 P) := by
  rw [← eight_mul h]
  exact cv.rep_dbl (cv.rep_dbl (cv.rep_dbl (cv.rep_of P) h) (cv.on_add h h)) (cv.on_add (cv.on_add h h) (cv.on_add h h))
theorem small_dec (P : Pt Fp) : @decide (ptc (cv.mul 8 P) = ptc zero) (Classical.propDecidable _) = smallB P := by
  rw [smallB, Bool.eq_iff_iff]; simp [ptc_inj]

set_option maxRecDepth 100000 in
set_option maxHeartbeats 4000000 in
theorem curve_Small (P : Pt Fp) (hP : cv.on P) : Meets Tryz.prog 59 [agg (ptc P).cells] [] (fun _ => True) (fun v out => v = .bool (smallB P) ∧ out = []) := by
  intro W hW
  refine calls_of (hp0 := []) Tryz.func59 rfl 16 Tryz.ntmps59 rfl (HRep.nil _) ?_
  refine Sat.seq ?_
  refine Sat.region ?_
  refine Tr.boxA rfl rfl ?_
  intro n1 hn1 hf1
  refine Tr.assign rfl rfl rfl ?_
  refine Tr.nil ?_
  refine at_n ?_
  refine Sat.seq ?_
  refine Sat.seq ?_
  refine Sat.region ?_
  refine Tr.loadAll rfl rfl rfl Tryz.underlying41 rfl Sz41 (by exact mem0) (Point.length (by exact ptc_ok _)) ?_
  refine Tr.callV rfl rfl rfl rfl Body80 (curve_Check_on P hP) (fun _ _ => trivial) ?_
  refine Tr.nei rfl rfl rfl rfl (show (!decide _) = false from congrArg not (decide_eq_true (rfl))) ?_
  refine Tr.nil ?_
  refine at_n ?_
  refine Sat.cond_f rfl (rfl) ?_
  refine Sat.skip ?_
  refine at_n ?_
  refine Sat.seq ?_
  refine Sat.region ?_
  refine Tr.loadAll rfl rfl rfl Tryz.underlying41 rfl Sz41 (by exact mem0) (Point.length (by exact ptc_ok _)) ?_
  refine Tr.callV rfl rfl rfl rfl Body82 (curve_widen P) (fun _ _ => trivial) ?_
  refine Tr.alloc (cs := wide.zero.cells) rfl wide.zr rfl ?_
  intro n3 hn3 hf3
  refine Tr.storeAll rfl rfl rfl rfl (wide.isCell (by exact wdc_ok _)) Sz98 (wide.length (by exact wdc_ok _)) (by exact mem0) (wide.length (by exact wide.zero_ok)) (by exact upd0) ?_
  refine Tr.nil ?_
  refine at_n ?_
  refine Sat.seq ?_
  refine Sat.seq ?_
  refine Sat.region ?_
  refine Tr.move rfl rfl rfl ?_
  refine Tr.nil ?_
  refine at_n ?_
  refine Sat.block ?_
  refine Sat.rounds 4 (SRounds.more ?_)
  refine Sat.seq ?_
  refine Sat.region ?_
  refine Tr.lss rfl rfl rfl rfl rfl ?_
  refine Tr.nil ?_
  refine at_n ?_
  refine Sat.seq ?_
  refine Sat.cond_t rfl (rfl) ?_
  refine Sat.skip ?_
  refine at_n ?_
  refine Sat.seq ?_
  refine Sat.block ?_
  refine Sat.region ?_
  refine Tr.callL (L := [⟨n3, (wdc (Wd.of P)).cells, 98, 128⟩]) rfl rfl rfl rfl rfl Body84 (wide_double n3 (Wd.of P)) (pm_cons (by repeat (exact rem_here)) pm_nil) (lent_ok rfl) (fun w h => own_blk h (by exact mem0)) ?_
  rintro v11 out11 rfl
  simp only [List.cons_append, List.nil_append]
  refine Tr.nil ?_
  refine bl_n ?_
  refine at_n ?_
  refine Sat.region ?_
  refine Tr.add_i64 rfl rfl rfl rfl oM ?_
  refine Tr.move rfl rfl rfl ?_
  refine Tr.nil ?_
  refine at_n (SRounds.more ?_)
  refine Sat.seq ?_
  refine Sat.region ?_
  refine Tr.lss rfl rfl rfl rfl rfl ?_
  refine Tr.nil ?_
  refine at_n ?_
  refine Sat.seq ?_
  refine Sat.cond_t rfl (rfl) ?_
  refine Sat.skip ?_
  refine at_n ?_
  refine Sat.seq ?_
  refine Sat.block ?_
  refine Sat.region ?_
  refine Tr.callL (L := [⟨n3, (wdc (Wd.dbl (Wd.of P))).cells, 98, 128⟩]) rfl rfl rfl rfl rfl Body84 (wide_double n3 (Wd.dbl (Wd.of P))) (pm_cons (by repeat (exact rem_here)) pm_nil) (lent_ok rfl) (fun w h => own_blk h (by exact mem0)) ?_
  rintro v11 out11 rfl
  simp only [List.cons_append, List.nil_append]
  refine Tr.nil ?_
  refine bl_n ?_
  refine at_n ?_
  refine Sat.region ?_
  refine Tr.add_i64 rfl rfl rfl rfl oM ?_
  refine Tr.move rfl rfl rfl ?_
  refine Tr.nil ?_
  refine at_n (SRounds.more ?_)
  refine Sat.seq ?_
  refine Sat.region ?_
  refine Tr.lss rfl rfl rfl rfl rfl ?_
  refine Tr.nil ?_
  refine at_n ?_
  refine Sat.seq ?_
  refine Sat.cond_t rfl (rfl) ?_
  refine Sat.skip ?_
  refine at_n ?_
  refine Sat.seq ?_
  refine Sat.block ?_
  refine Sat.region ?_
  refine Tr.callL (L := [⟨n3, (wdc (Wd.dbl (Wd.dbl (Wd.of P)))).cells, 98, 128⟩]) rfl rfl rfl rfl rfl Body84 (wide_double n3 (Wd.dbl (Wd.dbl (Wd.of P)))) (pm_cons (by repeat (exact rem_here)) pm_nil) (lent_ok rfl) (fun w h => own_blk h (by exact mem0)) ?_
  rintro v11 out11 rfl
  simp only [List.cons_append, List.nil_append]
  refine Tr.nil ?_
  refine bl_n ?_
  refine at_n ?_
  refine Sat.region ?_
  refine Tr.add_i64 rfl rfl rfl rfl oM ?_
  refine Tr.move rfl rfl rfl ?_
  refine Tr.nil ?_
  refine at_n (SRounds.more ?_)
  refine Sat.seq ?_
  refine Sat.region ?_
  refine Tr.lss rfl rfl rfl rfl rfl ?_
  refine Tr.nil ?_
  refine at_n ?_
  refine Sat.seq ?_
  refine Sat.cond_f rfl (rfl) ?_
  refine Sat.exit ?_
  refine at_x ?_
  refine at_x ?_
  refine bl_h ?_
  refine at_n ?_
  refine Sat.seq ?_
  refine Sat.region ?_
  refine Tr.callV rfl rfl rfl rfl Body86 (wide_pointR n3 (Wd.dbl (Wd.dbl (Wd.dbl (Wd.of P)))) _ (rep8 P hP)) (fun w h => sees_own h (by exact mem0)) ?_
  refine Tr.callV rfl rfl rfl rfl Body81 (curve_Zero) (fun _ _ => trivial) ?_
  refine Tr.eql_rec rfl rfl rfl rfl Point.eg (fun w => Point.eq_runC (ptc_ok _) (ptc_ok _) w) (small_dec P) ?_
  refine Tr.assign rfl rfl rfl ?_
  refine Tr.nil ?_
  refine at_n ?_
  refine Sat.ret ?_
  refine en_r ?_
  refine ⟨_, [], res_tmp rfl rfl, sP, sP, ?_, rfl⟩
  rfl

end Go.Proofs.YtmddgelpllffoaaGreat
end

section
namespace Go.Proofs.YtmddgelpllffoaaGreat
open Go Hw
set_option linter.unusedSimpArgs false
set_option linter.unusedVariables false
set_option maxRecDepth 100000
section
variable {H : Type} {enc : TypeId × Value → H} {W : World} {base : Nat} {sp : Nat → Bool} {held : Bool}
theorem Point.openT {fuel : Nat} {cs : List Value} {y : DataW H × List MemPlace} (h : DataW.trod enc Tryz.prog W base sp held fuel 41 cs = some y) : ∃ x : Point, x.ok ∧ cs = x.cells ∧ True := by
  obtain ⟨xs, n, _, _, h4, h5, h6⟩ := DataW.trod_struct Tryz.underlying41 h
  rw [show Tryz.prog.cellsOf 41 = 64 by kernel_rfl] at h4
  have c0 : Tryz.prog.cellsOf 32 = 32 := by kernel_rfl
  have c1 : Tryz.prog.cellsOf 32 = 32 := by kernel_rfl
  have g0 : DataW.trod enc Tryz.prog W base sp held n 32 ((cs.drop 0).take (Tryz.prog.cellsOf 32)) = some (xs[0]'(by rw [h5]; decide)) := by rw [← List.getElem?_eq_getElem]; exact h6 0 _ rfl
  rw [c0] at g0
  obtain ⟨v0, e0, l0⟩ := Hw.open_bytesT Tryz.underlying32 Tryz.underlying5 (by kernel_rfl) (by kernel_rfl) g0
  have g1 : DataW.trod enc Tryz.prog W base sp held n 32 ((cs.drop 32).take (Tryz.prog.cellsOf 32)) = some (xs[1]'(by rw [h5]; decide)) := by rw [← List.getElem?_eq_getElem]; exact h6 1 _ rfl
  rw [c1] at g1
  obtain ⟨v1, e1, l1⟩ := Hw.open_bytesT Tryz.underlying32 Tryz.underlying5 (by kernel_rfl) (by kernel_rfl) g1
  refine ⟨⟨v0, v1⟩, ⟨l0, l1⟩, ?_, trivial⟩
  rw [← List.drop_zero (l := cs)]
  exact (Hw.cat 32 e0 rfl (Hw.cat_last e1 h4))
end
section
variable {H : Type} {enc : TypeId × Value → H} {W : World} {base : Nat} {sp : Nat → Bool} {held : Bool}
theorem wide.openT {fuel : Nat} {cs : List Value} {y : DataW H × List MemPlace} (h : DataW.trod enc Tryz.prog W base sp held fuel 98 cs = some y) : ∃ x : wide, x.ok ∧ cs = x.cells ∧ True := by
  obtain ⟨xs, n, _, _, h4, h5, h6⟩ := DataW.trod_struct Tryz.underlying98 h
  rw [show Tryz.prog.cellsOf 98 = 128 by kernel_rfl] at h4
  have c0 : Tryz.prog.cellsOf 32 = 32 := by kernel_rfl
  have c1 : Tryz.prog.cellsOf 32 = 32 := by kernel_rfl
  have c2 : Tryz.prog.cellsOf 32 = 32 := by kernel_rfl
  have c3 : Tryz.prog.cellsOf 32 = 32 := by kernel_rfl
  have g0 : DataW.trod enc Tryz.prog W base sp held n 32 ((cs.drop 0).take (Tryz.prog.cellsOf 32)) = some (xs[0]'(by rw [h5]; decide)) := by rw [← List.getElem?_eq_getElem]; exact h6 0 _ rfl
  rw [c0] at g0
  obtain ⟨v0, e0, l0⟩ := Hw.open_bytesT Tryz.underlying32 Tryz.underlying5 (by kernel_rfl) (by kernel_rfl) g0
  have g1 : DataW.trod enc Tryz.prog W base sp held n 32 ((cs.drop 32).take (Tryz.prog.cellsOf 32)) = some (xs[1]'(by rw [h5]; decide)) := by rw [← List.getElem?_eq_getElem]; exact h6 1 _ rfl
  rw [c1] at g1
  obtain ⟨v1, e1, l1⟩ := Hw.open_bytesT Tryz.underlying32 Tryz.underlying5 (by kernel_rfl) (by kernel_rfl) g1
  have g2 : DataW.trod enc Tryz.prog W base sp held n 32 ((cs.drop 64).take (Tryz.prog.cellsOf 32)) = some (xs[2]'(by rw [h5]; decide)) := by rw [← List.getElem?_eq_getElem]; exact h6 2 _ rfl
  rw [c2] at g2
  obtain ⟨v2, e2, l2⟩ := Hw.open_bytesT Tryz.underlying32 Tryz.underlying5 (by kernel_rfl) (by kernel_rfl) g2
  have g3 : DataW.trod enc Tryz.prog W base sp held n 32 ((cs.drop 96).take (Tryz.prog.cellsOf 32)) = some (xs[3]'(by rw [h5]; decide)) := by rw [← List.getElem?_eq_getElem]; exact h6 3 _ rfl
  rw [c3] at g3
  obtain ⟨v3, e3, l3⟩ := Hw.open_bytesT Tryz.underlying32 Tryz.underlying5 (by kernel_rfl) (by kernel_rfl) g3
  refine ⟨⟨v0, v1, v2, v3⟩, ⟨l0, l1, l2, l3⟩, ?_, trivial⟩
  rw [← List.drop_zero (l := cs)]
  exact (Hw.cat 32 e0 rfl (Hw.cat 64 e1 rfl (Hw.cat 96 e2 rfl (Hw.cat_last e3 h4))))
end
section
variable {H : Type} {enc : TypeId × Value → H} {W : World} {base : Nat} {sp : Nat → Bool} {held : Bool}
theorem secrets.openT {fuel : Nat} {cs : List Value} {y : DataW H × List MemPlace} (h : DataW.trod enc Tryz.prog W base sp held fuel 67 cs = some y) : ∃ x : secrets, x.ok ∧ cs = x.cells ∧ True := by
  obtain ⟨xs, n, _, _, h4, h5, h6⟩ := DataW.trod_struct Tryz.underlying67 h
  rw [show Tryz.prog.cellsOf 67 = 64 by kernel_rfl] at h4
  have c0 : Tryz.prog.cellsOf 32 = 32 := by kernel_rfl
  have c1 : Tryz.prog.cellsOf 22 = 32 := by kernel_rfl
  have g0 : DataW.trod enc Tryz.prog W base sp held n 32 ((cs.drop 0).take (Tryz.prog.cellsOf 32)) = some (xs[0]'(by rw [h5]; decide)) := by rw [← List.getElem?_eq_getElem]; exact h6 0 _ rfl
  rw [c0] at g0
  obtain ⟨v0, e0, l0⟩ := Hw.open_bytesT Tryz.underlying32 Tryz.underlying5 (by kernel_rfl) (by kernel_rfl) g0
  have g1 : DataW.trod enc Tryz.prog W base sp held n 22 ((cs.drop 32).take (Tryz.prog.cellsOf 22)) = some (xs[1]'(by rw [h5]; decide)) := by rw [← List.getElem?_eq_getElem]; exact h6 1 _ rfl
  rw [c1] at g1
  obtain ⟨v1, e1, l1⟩ := Hw.open_bytesT Tryz.underlying22 Tryz.underlying5 (by kernel_rfl) (by kernel_rfl) g1
  refine ⟨⟨v0, v1⟩, ⟨l0, l1⟩, ?_, trivial⟩
  rw [← List.drop_zero (l := cs)]
  exact (Hw.cat 32 e0 rfl (Hw.cat_last e1 h4))
end
end Go.Proofs.YtmddgelpllffoaaGreat
end

section
namespace Go.Proofs.YtmddgelpllffoaaGreat
open Go Hw
set_option linter.unusedVariables false
set_option linter.unusedSimpArgs false

set_option maxRecDepth 100000 in
set_option maxHeartbeats 1000000 in
theorem kit_own (s : Sl) (l : List UInt8) (hn : s.n ≤ 500000) : Meets Tryz.prog 11 [s.v] [] (fun W => BytesAt W s l) (fun v out => FreshRow v out (bytesV l) 5 s.n 1) := by
  intro W hW
  refine calls_of (hp0 := []) Tryz.func11 rfl 6 Tryz.ntmps11 rfl (HRep.nil _) ?_
  refine Sat.seq ?_
  refine Sat.region ?_
  refine Tr.assign rfl rfl rfl ?_
  refine Tr.nil ?_
  refine at_n ?_
  refine Sat.seq ?_
  refine Sat.region ?_
  refine Tr.mkRow (z := u8 0) [] ([]) rfl rfl rfl Tryz.underlying23 Sz5 Zr5 rfl rfl (by intro v hv; cases hv) dE (rfl) ?_
  intro q0
  refine Tr.move rfl rfl rfl ?_
  refine Tr.appendSl (z := u8 0) (by' := 1) (bytesV l) rfl rfl rfl rfl rfl Tryz.underlying23 Tryz.underlying23 Sz5 Zr5 (by unfold By; kernel_rfl) rfl (fun w h => seesP_ext h rfl hW.see) (fun e => by have := hW.nil e; have := hW.cap; omega) (by simp [bytesV, isCell, u8]) rem_here rfl rfl oM oM oM (by rw [bytesV, List.length_map, hW.len, Nat.mul_one]) ?_
  intro q1 c1 hq1
  refine Tr.assign rfl rfl rfl ?_
  refine Tr.nil ?_
  refine at_n ?_
  refine Sat.ret ?_
  refine en_r ?_
  refine ⟨_, [⟨q1, [] ++ bytesV l, 5, c1 * 1⟩], res_tmp rfl rfl, (by intro b hb; rw [List.mem_singleton.1 hb]; exact mem0), nodup1, ⟨q1, c1, by rw [Nat.zero_add], by omega, rfl⟩⟩

theorem bytes_ext {C : Cx} {hp : List Blk} {w : World} {s : Sl} {l : List UInt8} (h : HRep C hp w) (hl : C.lent = []) (hr : BytesAt C.W0 s l) : BytesAt w s l := ⟨hr.len, hr.cap, seesP_ext h hl hr.see, hr.max, hr.nil⟩

end Go.Proofs.YtmddgelpllffoaaGreat
end

section
namespace Go.Proofs.YtmddgelpllffoaaGreat
open Go Hw
set_option linter.unusedVariables false
set_option linter.unusedSimpArgs false

theorem shr64_nat (x : UInt64) (n : Nat) : (shr64 x n).toNat = x.toNat / 2 ^ n := by
  have h : x.toNat / 2 ^ n ≤ x.toNat := Nat.div_le_self _ _
  have := x.toNat_lt
  rw [shr64, UInt64.toNat_ofNat', Nat.mod_eq_of_lt oM]

end Go.Proofs.YtmddgelpllffoaaGreat
end

section
namespace Go.Proofs.YtmddgelpllffoaaGreat
open Go Hw
set_option linter.unusedVariables false
set_option linter.unusedSimpArgs false

theorem res_none {C : Cx} {fn : Func} {s : St} (hr : fn.results = #[]) : Res C fn s (.tuple #[]) := fun a w r => by
  simp [results, hr]



end Go.Proofs.YtmddgelpllffoaaGreat
end

section
namespace Go.Proofs.YtmddgelpllffoaaGreat
open Go Hw
set_option linter.unusedVariables false
set_option linter.unusedSimpArgs false

theorem BlkOk.keep {ex : List Nat} {w w' : World} {b : Blk} (h : Keeps ex w w') (hb : BlkOk w b) (hn : b.n ∉ ex) : BlkOk w' b := hb.of_heap (h.block b.n hb.lt hn)



end Go.Proofs.YtmddgelpllffoaaGreat
end

section
namespace Go.Proofs.YtmddgelpllffoaaGreat
open Go Hw
set_option linter.unusedVariables false
set_option linter.unusedSimpArgs false

theorem word_nat {n : Nat} (h : n ≤ 1000000) : wordOf (n : Int) = UInt64.ofNat n := by simp only [wordOf]; congr 1; omega
theorem ofNat_nat {n : Nat} (h : n ≤ 1000000) : (UInt64.ofNat n).toNat = n := by rw [UInt64.toNat_ofNat', Nat.mod_eq_of_lt oM]
end Go.Proofs.YtmddgelpllffoaaGreat
end

section
namespace Go.Proofs.YtmddgelpllffoaaGreat
open Go Hw
set_option linter.unusedVariables false
set_option linter.unusedSimpArgs false

/-- a block as plain data -/
structure DB where
  w : List UInt8
  seq : UInt64
  prev : List UInt8
  ls : List (List UInt8)
  ds : List UInt8
  sg : List UInt8
deriving DecidableEq
def DB.zero : DB := ⟨List.replicate 32 0, 0, List.replicate 32 0, [], [], List.replicate 64 0⟩
def DB.head (D : DB) : Bool := decide ((4294967295 : Int) < (D.seq.toNat : Int)) || (!decide (decide (D.prev = List.replicate 32 0) = decide ((D.seq.toNat : Int) = 0)) || (decide ((16 : Int) < (D.ls.length : Int)) || decide ((512 : Int) < (D.ds.length : Int))))
def DB.body (D : DB) : List UInt8 := D.w ++ numB D.seq ++ D.prev ++ numB (UInt64.ofNat D.ls.length) ++ D.ls.flatten ++ (numB (UInt64.ofNat D.ds.length) ++ D.ds)
def DB.bytes (D : DB) : List UInt8 := D.body ++ D.sg
/-- the lengths that the types ask -/
structure DB.ok (D : DB) : Prop where
  w : D.w.length = 32
  prev : D.prev.length = 32
  sg : D.sg.length = 64
  ls : ∀ l ∈ D.ls, l.length = 32
theorem acc_bytes {s : Sl} {bl : List Blk} {l : List UInt8} {E : TypeId} {n : Nat} {w : World} (h : Acc s bl (bytesV l) E n 1) (hl : Lies bl w) (hn : l.length = n) (hm : n ≤ 1000000) : BytesAt w s l :=
  ⟨by rw [h.num, hn], h.cap, h.see hl, by rw [h.num]; unfold maxLen; omega, h.nilc⟩

end Go.Proofs.YtmddgelpllffoaaGreat
end

section
namespace Hw
open Go
set_option linter.unusedSimpArgs false
set_option linter.unusedVariables false

/-- turned to the left by s bits -/
def rolW (x : UInt64) (s : Nat) : UInt64 := shl64 x s ||| shr64 x (64 - s)
def schA (p : List UInt8) : Nat → List UInt64
  | 0 => List.replicate 80 0
  | i + 1 => (schA p i).set (i / 8) (shl64 ((schA p i).getD (i / 8) 0) 8 ||| (p.getD i 0).toUInt64)
theorem schA_length (p : List UInt8) : ∀ i, (schA p i).length = 80
  | 0 => rfl
  | i + 1 => by rw [schA, List.length_set, schA_length p i]
def sig0 (x : UInt64) : UInt64 := rolW x 63 ^^^ rolW x 56 ^^^ shr64 x 7
def sig1 (y : UInt64) : UInt64 := rolW y 45 ^^^ rolW y 3 ^^^ shr64 y 6
def schB (w : List UInt64) : Nat → List UInt64
  | 0 => w
  | j + 1 => (schB w j).set (16 + j) ((schB w j).getD j 0 + sig0 ((schB w j).getD (j + 1) 0) + (schB w j).getD (j + 9) 0 + sig1 ((schB w j).getD (j + 14) 0))
theorem schB_length (w : List UInt64) : ∀ j, (schB w j).length = w.length
  | 0 => rfl
  | j + 1 => by rw [schB, List.length_set, schB_length w j]
def schW (p : List UInt8) : List UInt64 := schB (schA p 128) 64
structure W8 where
  a : UInt64
  b : UInt64
  c : UInt64
  d : UInt64
  e : UInt64
  f : UInt64
  g : UInt64
  h : UInt64
def W8.l (s : W8) : List UInt64 := [s.a, s.b, s.c, s.d, s.e, s.f, s.g, s.h]
def W8.of (l : List UInt64) : W8 := ⟨l.getD 0 0, l.getD 1 0, l.getD 2 0, l.getD 3 0, l.getD 4 0, l.getD 5 0, l.getD 6 0, l.getD 7 0⟩
def rndT1 (s : W8) (k w : UInt64) : UInt64 := s.h + (rolW s.e 50 ^^^ rolW s.e 46 ^^^ rolW s.e 23) + ((s.e &&& s.f) ^^^ ((18446744073709551615 ^^^ s.e) &&& s.g)) + k + w
def rndT2 (s : W8) : UInt64 := (rolW s.a 36 ^^^ rolW s.a 30 ^^^ rolW s.a 25) + ((s.a &&& s.b) ^^^ (s.a &&& s.c) ^^^ (s.b &&& s.c))
def rnd1 (s : W8) (k w : UInt64) : W8 := ⟨rndT1 s k w + rndT2 s, s.a, s.b, s.c, s.d + rndT1 s k w, s.e, s.f, s.g⟩
def rnds (k w : List UInt64) (s : W8) : Nat → W8
  | 0 => s
  | t + 1 => rnd1 (rnds k w s t) (k.getD t 0) (w.getD t 0)
def addUp (st xs : List UInt64) : Nat → List UInt64
  | 0 => st
  | i + 1 => (addUp st xs i).set i ((addUp st xs i).getD i 0 + xs.getD i 0)
theorem addUp_length (st xs : List UInt64) : ∀ i, (addUp st xs i).length = st.length
  | 0 => rfl
  | i + 1 => by rw [addUp, List.length_set, addUp_length st xs i]
theorem addUp_get (st xs : List UInt64) : ∀ i j, i ≤ j → (addUp st xs i).getD j 0 = st.getD j 0
  | 0, j, _ => rfl
  | i + 1, j, h => by
    rw [addUp, List.getD_eq_getElem?_getD, List.getElem?_set_ne oM, ← List.getD_eq_getElem?_getD]
    exact addUp_get st xs i j oM
def pieceW (k st : List UInt64) (p : List UInt8) : List UInt64 := addUp st (rnds k (schW p) (W8.of st) 80).l 8
theorem pieceW_length (k st : List UInt64) (p : List UInt8) : (pieceW k st p).length = st.length := addUp_length _ _ _
def sumUp (st : List UInt64) : Nat → List UInt8
  | 0 => List.replicate 64 0
  | i + 1 => (sumUp st i).set i (shr64 (st.getD (i / 8) 0) (56 - 8 * (i % 8))).toUInt8
theorem sumUp_length (st : List UInt64) : ∀ i, (sumUp st i).length = 64
  | 0 => rfl
  | i + 1 => by rw [sumUp, List.length_set, sumUp_length st i]
/-- the zeros behind the 128 -/
def padZ (n : Nat) : Nat := (239 - n % 128) % 128
theorem padZ_lt (n : Nat) : padZ n < 128 := Nat.mod_lt _ dE
theorem padZ_at (n j : Nat) (h : j ≤ padZ n) : (n + 1 + j) % 128 = 112 ↔ j = padZ n := by unfold padZ at *; omega
def beUp (x : UInt64) : Nat → List UInt8
  | 0 => []
  | j + 1 => beUp x j ++ [(shr64 x (56 - 8 * j)).toUInt8]
theorem beUp_length (x : UInt64) : ∀ j, (beUp x j).length = j
  | 0 => rfl
  | j + 1 => by rw [beUp, List.length_append, beUp_length x j]; rfl
def padB (l : List UInt8) : List UInt8 := l ++ [128] ++ List.replicate (padZ l.length) 0 ++ beUp 0 8 ++ beUp (UInt64.ofNat (8 * l.length)) 8
theorem padB_length (l : List UInt8) : (padB l).length = l.length + 17 + padZ l.length := by
  simp only [padB, List.length_append, beUp_length, List.length_replicate, List.length_singleton]; omega
theorem padB_mod (l : List UInt8) : (padB l).length = 128 * ((padB l).length / 128) := by
  rw [padB_length]; unfold padZ; omega
def runW (k st : List UInt64) (bs : List UInt8) : Nat → List UInt64
  | 0 => st
  | i + 1 => pieceW k (runW k st bs i) ((bs.drop (128 * i)).take 128)
theorem runW_length (k st : List UInt64) (bs : List UInt8) : ∀ i, (runW k st bs i).length = st.length
  | 0 => rfl
  | i + 1 => by rw [runW, pieceW_length, runW_length k st bs i]
def allW (k st : List UInt64) (l : List UInt8) : List UInt64 := runW k st (padB l) ((padB l).length / 128)
theorem allW_length (k st : List UInt64) (l : List UInt8) : (allW k st l).length = st.length := runW_length _ _ _ _
end Hw
end
