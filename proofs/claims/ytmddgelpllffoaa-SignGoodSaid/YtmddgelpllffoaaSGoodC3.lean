/- Contracts of functions of the loaded program, and the lemmas that they need (part 3). It proves no statement by itself; it has no conditions. -/
import Derived.WalkKit
import Derived.Orders
import Derived.Deep.LoopGhost
import Derived.IntWalk
import Derived.Laws.StructEq
import Derived.Test.YtmddgelpllffoaaRows
import Derived.KernelRfl
import Derived.Laws.MathBits
import Derived.ArgAppend
import Derived.Deep.AppendSrc
import Derived.Lib.Bytealg
import Derived.Lib.BytesEntry
import Derived.Laws.IdiomStrings
import Derived.WideKeyArr2
import Derived.ProofKit
import Derived.OpenShut
import Derived.Deep.Slices
import Derived.Laws.Pointers
import Derived.Laws.Cover3
import Derived.LaidEqlPtr
import Derived.LoopN
import Derived.Laws.Externs
import Derived.RangeFuncLeaves
import Derived.RangeFuncSeq
import Derived.OrdersIn
import Derived.ChangeOld
import Derived.Below
import Derived.Test.YtmddgelpllffoaaSGoodC2
section
namespace Go.Proofs.Ytmddgelpllffoaa
open Go Hw
set_option linter.unusedVariables false
set_option linter.unusedSimpArgs false

open Ed

set_option maxRecDepth 100000 in
set_option maxHeartbeats 2000000 in
theorem field_put (q o n c m : Nat) (l : List UInt8) (x : UInt64) (BT : TypeId) (hn : 8 ≤ n) (hl : o + 8 ≤ l.length) : Meets Try.prog 83 [.slice (some ⟨q, o, none⟩) n c, u64 x] [q] (fun W => BlkOk W ⟨q, bytesV l, BT, m⟩) (fun v out => out = [⟨q, bytesV (set8 l o x), BT, m⟩]) := by
  intro W hW
  refine calls_of (hp0 := [⟨q, bytesV l, BT, m⟩]) Try.func83 rfl 46 Try.ntmps83 rfl (HRep.one hW) ?_
  refine Sat.seq ?_
  refine Sat.region ?_
  refine Tr.move rfl rfl rfl ?_
  first
    | refine Tr.idxSl1 rfl rfl rfl rfl Try.underlying23 Sz5 7 rfl oM ?_
    | refine Tr.idxSlO rfl rfl rfl rfl Try.underlying23 Sz5 7 rfl oM ?_
  refine Tr.load1 rfl rfl rfl Try.underlying5 rfl mM (get_bytes oM) ?_
  refine Tr.nil ?_
  refine at_n ?_
  refine Sat.seq ?_
  refine Sat.region ?_
  refine Tr.move rfl rfl rfl ?_
  refine Tr.move rfl rfl rfl ?_
  refine Tr.move rfl rfl rfl ?_
  refine Tr.move rfl rfl rfl ?_
  refine Tr.move rfl rfl rfl ?_
  refine Tr.conv rfl rfl rfl Try.underlying65 Try.underlying5 (cv_u64_u8 _) ?_
  refine Tr.move rfl rfl rfl ?_
  refine Tr.shr_u64 rfl rfl rfl rfl 8 rfl dE ?_
  refine Tr.conv rfl rfl rfl Try.underlying65 Try.underlying5 (cv_u64_u8 _) ?_
  refine Tr.move rfl rfl rfl ?_
  refine Tr.shr_u64 rfl rfl rfl rfl 16 rfl dE ?_
  refine Tr.conv rfl rfl rfl Try.underlying65 Try.underlying5 (cv_u64_u8 _) ?_
  refine Tr.move rfl rfl rfl ?_
  refine Tr.shr_u64 rfl rfl rfl rfl 24 rfl dE ?_
  refine Tr.conv rfl rfl rfl Try.underlying65 Try.underlying5 (cv_u64_u8 _) ?_
  first
    | refine Tr.idxSl1 rfl rfl rfl rfl Try.underlying23 Sz5 0 rfl oM ?_
    | refine Tr.idxSlO rfl rfl rfl rfl Try.underlying23 Sz5 0 rfl oM ?_
  refine Tr.store1 rfl rfl rfl rfl rfl Sz5 mM (by simp; omega) (set_bytes _ _ _) uU ?_
  first
    | refine Tr.idxSl1 rfl rfl rfl rfl Try.underlying23 Sz5 1 rfl oM ?_
    | refine Tr.idxSlO rfl rfl rfl rfl Try.underlying23 Sz5 1 rfl oM ?_
  refine Tr.store1 rfl rfl rfl rfl rfl Sz5 mM (by simp; omega) (set_bytes _ _ _) uU ?_
  first
    | refine Tr.idxSl1 rfl rfl rfl rfl Try.underlying23 Sz5 2 rfl oM ?_
    | refine Tr.idxSlO rfl rfl rfl rfl Try.underlying23 Sz5 2 rfl oM ?_
  refine Tr.store1 rfl rfl rfl rfl rfl Sz5 mM (by simp; omega) (set_bytes _ _ _) uU ?_
  first
    | refine Tr.idxSl1 rfl rfl rfl rfl Try.underlying23 Sz5 3 rfl oM ?_
    | refine Tr.idxSlO rfl rfl rfl rfl Try.underlying23 Sz5 3 rfl oM ?_
  refine Tr.store1 rfl rfl rfl rfl rfl Sz5 mM (by simp; omega) (set_bytes _ _ _) uU ?_
  refine Tr.nil ?_
  refine at_n ?_
  refine Sat.region ?_
  refine Tr.move rfl rfl rfl ?_
  refine Tr.move rfl rfl rfl ?_
  refine Tr.move rfl rfl rfl ?_
  refine Tr.move rfl rfl rfl ?_
  refine Tr.move rfl rfl rfl ?_
  refine Tr.shr_u64 rfl rfl rfl rfl 32 rfl dE ?_
  refine Tr.conv rfl rfl rfl Try.underlying65 Try.underlying5 (cv_u64_u8 _) ?_
  refine Tr.move rfl rfl rfl ?_
  refine Tr.shr_u64 rfl rfl rfl rfl 40 rfl dE ?_
  refine Tr.conv rfl rfl rfl Try.underlying65 Try.underlying5 (cv_u64_u8 _) ?_
  refine Tr.move rfl rfl rfl ?_
  refine Tr.shr_u64 rfl rfl rfl rfl 48 rfl dE ?_
  refine Tr.conv rfl rfl rfl Try.underlying65 Try.underlying5 (cv_u64_u8 _) ?_
  refine Tr.move rfl rfl rfl ?_
  refine Tr.shr_u64 rfl rfl rfl rfl 56 rfl dE ?_
  refine Tr.conv rfl rfl rfl Try.underlying65 Try.underlying5 (cv_u64_u8 _) ?_
  first
    | refine Tr.idxSl1 rfl rfl rfl rfl Try.underlying23 Sz5 4 rfl oM ?_
    | refine Tr.idxSlO rfl rfl rfl rfl Try.underlying23 Sz5 4 rfl oM ?_
  refine Tr.store1 rfl rfl rfl rfl rfl Sz5 mM (by simp; omega) (set_bytes _ _ _) uU ?_
  first
    | refine Tr.idxSl1 rfl rfl rfl rfl Try.underlying23 Sz5 5 rfl oM ?_
    | refine Tr.idxSlO rfl rfl rfl rfl Try.underlying23 Sz5 5 rfl oM ?_
  refine Tr.store1 rfl rfl rfl rfl rfl Sz5 mM (by simp; omega) (set_bytes _ _ _) uU ?_
  first
    | refine Tr.idxSl1 rfl rfl rfl rfl Try.underlying23 Sz5 6 rfl oM ?_
    | refine Tr.idxSlO rfl rfl rfl rfl Try.underlying23 Sz5 6 rfl oM ?_
  refine Tr.store1 rfl rfl rfl rfl rfl Sz5 mM (by simp; omega) (set_bytes _ _ _) uU ?_
  first
    | refine Tr.idxSl1 rfl rfl rfl rfl Try.underlying23 Sz5 7 rfl oM ?_
    | refine Tr.idxSlO rfl rfl rfl rfl Try.underlying23 Sz5 7 rfl oM ?_
  refine Tr.store1 rfl rfl rfl rfl rfl Sz5 mM (by simp; omega) (set_bytes _ _ _) uU ?_
  refine Tr.nil ?_
  refine en_n ?_
  exact ⟨_, _, res_none rfl, (fun b hb => by rw [List.mem_singleton.1 hb]; exact mem0), nodup1, rfl⟩

set_option maxRecDepth 100000 in
set_option maxHeartbeats 2000000 in
theorem field_quarters (a : List UInt8) (ha : a.length = 32) : Meets Try.prog 96 [agg (bytesV a)] [] (fun _ => True) (fun v out => v = agg (wordsV [qw a 0, qw a 1, qw a 2, qw a 3]) ∧ out = []) := by
  intro W hW
  refine calls_of (hp0 := []) Try.func96 rfl 65 Try.ntmps96 rfl (HRep.nil _) ?_
  refine Sat.seq ?_
  refine Sat.region ?_
  refine Tr.boxA rfl rfl ?_
  intro n1 hn1 hf1
  refine Tr.alloc (cs := (wordsV (List.replicate 4 0))) rfl Zr66 rfl ?_
  intro n2 hn2 hf2
  refine Tr.nil ?_
  refine at_n ?_
  refine Sat.seq ?_
  refine Sat.region ?_
  refine Tr.alloc (cs := (wordsV (List.replicate 4 0))) rfl Zr66 rfl ?_
  intro n3 hn3 hf3
  refine Tr.nil ?_
  refine at_n ?_
  refine Sat.seq ?_
  refine Sat.seq ?_
  refine Sat.region ?_
  refine Tr.move rfl rfl rfl ?_
  refine Tr.nil ?_
  refine at_n ?_
  refine Sat.block ?_
  refine Sat.loop (ι := Nat) (fun k => ⟨[(1, ptr n1 0), (2, ptr n2 0), (3, ptr n3 0), (6, i64 (k : Int))], [⟨n3, wordsV (qtA a k), 66, 4⟩, ⟨n2, wordsV (List.replicate 4 0), 66, 4⟩, ⟨n1, bytesV a, 30, (bytesV a).length⟩]⟩) (fun k => k ≤ 4) (fun k => 4 - k) (0) ?_ ?_ ?_
  · omega
  · exact weak_of (wk1 rfl (wk1 rfl (wk1 rfl (wk1 rfl wk0)))) (wh1 mM (wh1 mM (wh1 mM wh0))) nD
  ·
    rintro k hi
    have hlk := qtA_length a k
    refine Sat.seq ?_
    refine Sat.region ?_
    refine Tr.lss rfl rfl rfl rfl rfl ?_
    refine Tr.nil ?_
    refine at_n ?_
    refine Sat.seq ?_
    first
      | refine Sat.condP rfl (fun hc0 => ?_) (fun hc0 => ?_)
      | refine Sat.condNP rfl (fun hc0 => ?_) (fun hc0 => ?_)
      | refine Sat.cond rfl (fun hc0 => ?_) (fun hc0 => ?_)
    ·
      refine Sat.skip ?_
      refine at_n ?_
      refine Sat.seq ?_
      refine Sat.block ?_
      refine Sat.seq ?_
      refine Sat.region ?_
      refine Tr.move rfl rfl rfl ?_
      refine Tr.assign rfl rfl rfl ?_
      refine Tr.nil ?_
      refine at_n ?_
      refine Sat.seq ?_
      refine Sat.region ?_
      refine Tr.move rfl rfl rfl ?_
      refine Tr.mul_i64 rfl rfl rfl rfl oM ?_
      refine Tr.move rfl rfl rfl ?_
      refine Tr.mul_i64 rfl rfl rfl rfl oM ?_
      refine Tr.add_i64 rfl rfl rfl rfl oM ?_
      refine Tr.sliceArrLH (8 * k) (8 * k + 8) rfl rfl rfl rfl rfl oM oM oM oM oM Try.underlying30 Sz5 ?_
      refine Tr.assign rfl rfl rfl ?_
      refine Tr.nil ?_
      refine at_n ?_
      refine Sat.draw [(0, 0), (0, 1), (0, 2), (1, 3), (0, 4), (0, 5), (0, 6), (1, 7), (0, 8), (0, 9), (0, 10), (0, 11), (0, 12), (1, 13), (0, 14), (0, 15), (0, 16), (0, 17), (0, 18), (1, 19), (0, 20), (0, 21), (0, 22), (0, 23), (0, 24), (1, 25), (0, 26), (0, 27), (0, 28), (0, 29), (0, 30), (1, 31), (0, 32), (0, 33), (0, 34), (0, 35), (0, 36), (1, 37), (0, 38), (0, 39), (0, 40), (0, 41), (0, 42), (1, 43), (0, 44), (0, 45), (0, 46), (0, 47), (4, 48)] Mixed (by kernel_rfl) ?_
      refine Tr.move rfl rfl rfl ?_
      refine Tr.move rfl rfl rfl ?_
      first
        | refine Tr.idxSl1 rfl rfl rfl rfl Try.underlying23 Sz5 0 rfl oM ?_
        | refine Tr.idxSlO rfl rfl rfl rfl Try.underlying23 Sz5 0 rfl oM ?_
      refine Tr.load1 rfl rfl rfl Try.underlying5 rfl mM (by first | rfl | exact get_words (by first | omega | (simp [W5.l_length, fb_length, qtA_length, set8_length, ha]; done) | (simp [W5.l_length, fb_length, qtA_length, set8_length, ha]; omega)) | exact get_bytes (by first | omega | (simp [W5.l_length, fb_length, qtA_length, set8_length, ha]; done) | (simp [W5.l_length, fb_length, qtA_length, set8_length, ha]; omega)) | exact get_ints (by first | omega | (simp [W5.l_length, fb_length, qtA_length, set8_length, ha]; done) | (simp [W5.l_length, fb_length, qtA_length, set8_length, ha]; omega))) ?_
      refine Tr.conv rfl rfl rfl Try.underlying5 Try.underlying65 (cv_u8_u64 _) ?_
      refine Tr.move rfl rfl rfl ?_
      first
        | refine Tr.idxSl1 rfl rfl rfl rfl Try.underlying23 Sz5 1 rfl oM ?_
        | refine Tr.idxSlO rfl rfl rfl rfl Try.underlying23 Sz5 1 rfl oM ?_
      refine Tr.load1 rfl rfl rfl Try.underlying5 rfl mM (by first | rfl | exact get_words (by first | omega | (simp [W5.l_length, fb_length, qtA_length, set8_length, ha]; done) | (simp [W5.l_length, fb_length, qtA_length, set8_length, ha]; omega)) | exact get_bytes (by first | omega | (simp [W5.l_length, fb_length, qtA_length, set8_length, ha]; done) | (simp [W5.l_length, fb_length, qtA_length, set8_length, ha]; omega)) | exact get_ints (by first | omega | (simp [W5.l_length, fb_length, qtA_length, set8_length, ha]; done) | (simp [W5.l_length, fb_length, qtA_length, set8_length, ha]; omega))) ?_
      refine Tr.conv rfl rfl rfl Try.underlying5 Try.underlying65 (cv_u8_u64 _) ?_
      refine Tr.shl_u64 rfl rfl rfl rfl 8 rfl dE ?_
      refine Tr.or_u64 rfl rfl rfl rfl ?_
      refine Tr.move rfl rfl rfl ?_
      first
        | refine Tr.idxSl1 rfl rfl rfl rfl Try.underlying23 Sz5 2 rfl oM ?_
        | refine Tr.idxSlO rfl rfl rfl rfl Try.underlying23 Sz5 2 rfl oM ?_
      refine Tr.load1 rfl rfl rfl Try.underlying5 rfl mM (by first | rfl | exact get_words (by first | omega | (simp [W5.l_length, fb_length, qtA_length, set8_length, ha]; done) | (simp [W5.l_length, fb_length, qtA_length, set8_length, ha]; omega)) | exact get_bytes (by first | omega | (simp [W5.l_length, fb_length, qtA_length, set8_length, ha]; done) | (simp [W5.l_length, fb_length, qtA_length, set8_length, ha]; omega)) | exact get_ints (by first | omega | (simp [W5.l_length, fb_length, qtA_length, set8_length, ha]; done) | (simp [W5.l_length, fb_length, qtA_length, set8_length, ha]; omega))) ?_
      refine Tr.conv rfl rfl rfl Try.underlying5 Try.underlying65 (cv_u8_u64 _) ?_
      refine Tr.shl_u64 rfl rfl rfl rfl 16 rfl dE ?_
      refine Tr.or_u64 rfl rfl rfl rfl ?_
      refine Tr.move rfl rfl rfl ?_
      first
        | refine Tr.idxSl1 rfl rfl rfl rfl Try.underlying23 Sz5 3 rfl oM ?_
        | refine Tr.idxSlO rfl rfl rfl rfl Try.underlying23 Sz5 3 rfl oM ?_
      refine Tr.load1 rfl rfl rfl Try.underlying5 rfl mM (by first | rfl | exact get_words (by first | omega | (simp [W5.l_length, fb_length, qtA_length, set8_length, ha]; done) | (simp [W5.l_length, fb_length, qtA_length, set8_length, ha]; omega)) | exact get_bytes (by first | omega | (simp [W5.l_length, fb_length, qtA_length, set8_length, ha]; done) | (simp [W5.l_length, fb_length, qtA_length, set8_length, ha]; omega)) | exact get_ints (by first | omega | (simp [W5.l_length, fb_length, qtA_length, set8_length, ha]; done) | (simp [W5.l_length, fb_length, qtA_length, set8_length, ha]; omega))) ?_
      refine Tr.conv rfl rfl rfl Try.underlying5 Try.underlying65 (cv_u8_u64 _) ?_
      refine Tr.shl_u64 rfl rfl rfl rfl 24 rfl dE ?_
      refine Tr.or_u64 rfl rfl rfl rfl ?_
      refine Tr.move rfl rfl rfl ?_
      first
        | refine Tr.idxSl1 rfl rfl rfl rfl Try.underlying23 Sz5 4 rfl oM ?_
        | refine Tr.idxSlO rfl rfl rfl rfl Try.underlying23 Sz5 4 rfl oM ?_
      refine Tr.load1 rfl rfl rfl Try.underlying5 rfl mM (by first | rfl | exact get_words (by first | omega | (simp [W5.l_length, fb_length, qtA_length, set8_length, ha]; done) | (simp [W5.l_length, fb_length, qtA_length, set8_length, ha]; omega)) | exact get_bytes (by first | omega | (simp [W5.l_length, fb_length, qtA_length, set8_length, ha]; done) | (simp [W5.l_length, fb_length, qtA_length, set8_length, ha]; omega)) | exact get_ints (by first | omega | (simp [W5.l_length, fb_length, qtA_length, set8_length, ha]; done) | (simp [W5.l_length, fb_length, qtA_length, set8_length, ha]; omega))) ?_
      refine Tr.conv rfl rfl rfl Try.underlying5 Try.underlying65 (cv_u8_u64 _) ?_
      refine Tr.shl_u64 rfl rfl rfl rfl 32 rfl dE ?_
      refine Tr.or_u64 rfl rfl rfl rfl ?_
      refine Tr.move rfl rfl rfl ?_
      first
        | refine Tr.idxSl1 rfl rfl rfl rfl Try.underlying23 Sz5 5 rfl oM ?_
        | refine Tr.idxSlO rfl rfl rfl rfl Try.underlying23 Sz5 5 rfl oM ?_
      refine Tr.load1 rfl rfl rfl Try.underlying5 rfl mM (by first | rfl | exact get_words (by first | omega | (simp [W5.l_length, fb_length, qtA_length, set8_length, ha]; done) | (simp [W5.l_length, fb_length, qtA_length, set8_length, ha]; omega)) | exact get_bytes (by first | omega | (simp [W5.l_length, fb_length, qtA_length, set8_length, ha]; done) | (simp [W5.l_length, fb_length, qtA_length, set8_length, ha]; omega)) | exact get_ints (by first | omega | (simp [W5.l_length, fb_length, qtA_length, set8_length, ha]; done) | (simp [W5.l_length, fb_length, qtA_length, set8_length, ha]; omega))) ?_
      refine Tr.conv rfl rfl rfl Try.underlying5 Try.underlying65 (cv_u8_u64 _) ?_
      refine Tr.shl_u64 rfl rfl rfl rfl 40 rfl dE ?_
      refine Tr.or_u64 rfl rfl rfl rfl ?_
      refine Tr.move rfl rfl rfl ?_
      first
        | refine Tr.idxSl1 rfl rfl rfl rfl Try.underlying23 Sz5 6 rfl oM ?_
        | refine Tr.idxSlO rfl rfl rfl rfl Try.underlying23 Sz5 6 rfl oM ?_
      refine Tr.load1 rfl rfl rfl Try.underlying5 rfl mM (by first | rfl | exact get_words (by first | omega | (simp [W5.l_length, fb_length, qtA_length, set8_length, ha]; done) | (simp [W5.l_length, fb_length, qtA_length, set8_length, ha]; omega)) | exact get_bytes (by first | omega | (simp [W5.l_length, fb_length, qtA_length, set8_length, ha]; done) | (simp [W5.l_length, fb_length, qtA_length, set8_length, ha]; omega)) | exact get_ints (by first | omega | (simp [W5.l_length, fb_length, qtA_length, set8_length, ha]; done) | (simp [W5.l_length, fb_length, qtA_length, set8_length, ha]; omega))) ?_
      refine Tr.conv rfl rfl rfl Try.underlying5 Try.underlying65 (cv_u8_u64 _) ?_
      refine Tr.shl_u64 rfl rfl rfl rfl 48 rfl dE ?_
      refine Tr.or_u64 rfl rfl rfl rfl ?_
      refine Tr.move rfl rfl rfl ?_
      first
        | refine Tr.idxSl1 rfl rfl rfl rfl Try.underlying23 Sz5 7 rfl oM ?_
        | refine Tr.idxSlO rfl rfl rfl rfl Try.underlying23 Sz5 7 rfl oM ?_
      refine Tr.load1 rfl rfl rfl Try.underlying5 rfl mM (by first | rfl | exact get_words (by first | omega | (simp [W5.l_length, fb_length, qtA_length, set8_length, ha]; done) | (simp [W5.l_length, fb_length, qtA_length, set8_length, ha]; omega)) | exact get_bytes (by first | omega | (simp [W5.l_length, fb_length, qtA_length, set8_length, ha]; done) | (simp [W5.l_length, fb_length, qtA_length, set8_length, ha]; omega)) | exact get_ints (by first | omega | (simp [W5.l_length, fb_length, qtA_length, set8_length, ha]; done) | (simp [W5.l_length, fb_length, qtA_length, set8_length, ha]; omega))) ?_
      refine Tr.conv rfl rfl rfl Try.underlying5 Try.underlying65 (cv_u8_u64 _) ?_
      refine Tr.shl_u64 rfl rfl rfl rfl 56 rfl dE ?_
      refine Tr.or_u64 rfl rfl rfl rfl ?_
      first
        | refine Tr.idxArr1 rfl rfl rfl rfl Try.underlying66 Sz65 _ rfl oM ?_
        | refine Tr.idxArrO rfl rfl rfl rfl Try.underlying66 Sz65 _ rfl oM ?_
        | refine Tr.idxArr1 rfl rfl rfl rfl Try.underlying66 Sz65 _ (toNat_back oM) oM ?_
        | refine Tr.idxArrO rfl rfl rfl rfl Try.underlying66 Sz65 _ (toNat_back oM) oM ?_
      refine Tr.store1 rfl rfl rfl rfl rfl Sz65 mM (by first | (simp [W5.l_length, fb_length, qtA_length, set8_length, ha]; done) | (simp [W5.l_length, fb_length, qtA_length, set8_length, ha]; omega)) sT uU ?_
      refine Tr.nil ?_
      refine bl_n ?_
      refine at_n ?_
      refine Sat.region ?_
      refine Tr.add_i64 rfl rfl rfl rfl oM ?_
      refine Tr.move rfl rfl rfl ?_
      refine Tr.nil ?_
      refine at_n ?_
      exact ⟨k + 1, by omega, by omega, weak_of (wk1 rfl (wk1 rfl (wk1 rfl (wk1 rfl wk0)))) (wh1 mM (wh1 mM (wh1 mM wh0))) nD⟩
    ·
      obtain rfl : k = 4 := by omega
      refine Sat.exit ?_
      refine at_x ?_
      refine at_x ?_
      refine bl_h ?_
      refine at_n ?_
      refine Sat.seq ?_
      refine Sat.region ?_
      first
        | refine Tr.loadAll rfl rfl rfl Try.underlying66 rfl Sz66 mM (by first | (simp [W5.l_length, fb_length, qtA_length, set8_length, ha]; done) | assumption | (rw [bytesV, List.length_map]; assumption)) ?_
        | refine Tr.loadN _ rfl rfl rfl Try.underlying66 rfl Sz66 mM (by exact rfl) (by first | (simp [W5.l_length, fb_length, qtA_length, set8_length, ha]; done) | assumption | (rw [bytesV, List.length_map]; assumption)) ?_
      first
        | refine Tr.storeAll rfl rfl rfl rfl cB Sz66 (by first | (simp [W5.l_length, fb_length, qtA_length, set8_length, ha]; done) | assumption | (rw [bytesV, List.length_map]; assumption)) mM (by first | (simp [W5.l_length, fb_length, qtA_length, set8_length, ha]; done) | assumption | (rw [bytesV, List.length_map]; assumption)) uU ?_
        | refine Tr.storeN _ rfl rfl rfl rfl rfl cB Sz66 (by first | (simp [W5.l_length, fb_length, qtA_length, set8_length, ha]; done) | assumption | (rw [bytesV, List.length_map]; assumption)) mM (by first | (simp [W5.l_length, fb_length, qtA_length, set8_length, ha]; done) | assumption | (rw [bytesV, List.length_map]; assumption)) (by exact rfl) uU ?_
      refine Tr.nil ?_
      refine at_n ?_
      refine Sat.ret ?_
      refine en_r ?_
      refine ⟨_, [], res_cell rfl rfl Try.underlying66 rfl Sz66 mM (by simp [W5.l_length, fb_length, qtA_length, set8_length, ha]), sP, sP, ?_, rfl⟩
      rfl

set_option maxRecDepth 100000 in
set_option maxHeartbeats 1000000 in
theorem field_load (a : List UInt8) (ha : a.length = 32) : Meets Try.prog 80 [agg (bytesV a)] [] (fun _ => True) (fun v out => v = agg (wordsV (ldN a).l) ∧ out = []) := by
  intro W hW
  refine calls_of (hp0 := []) Try.func80 rfl 37 Try.ntmps80 rfl (HRep.nil _) ?_
  refine Sat.seq ?_
  refine Sat.region ?_
  refine Tr.boxA rfl rfl ?_
  intro n1 hn1 hf1
  refine Tr.alloc (cs := (wordsV (List.replicate 5 0))) rfl Zr103 rfl ?_
  intro n2 hn2 hf2
  refine Tr.nil ?_
  refine at_n ?_
  refine Sat.seq ?_
  refine Sat.region ?_
  first
    | refine Tr.loadAll rfl rfl rfl Try.underlying30 rfl Sz30 mM (by first | (simp [W5.l_length, fb_length, qtA_length, set8_length, ha]; done) | assumption | (rw [bytesV, List.length_map]; assumption)) ?_
    | refine Tr.loadN _ rfl rfl rfl Try.underlying30 rfl Sz30 mM (by exact rfl) (by first | (simp [W5.l_length, fb_length, qtA_length, set8_length, ha]; done) | assumption | (rw [bytesV, List.length_map]; assumption)) ?_
  refine Tr.callV rfl rfl rfl rfl Body96 (field_quarters a ha) (fun _ _ => trivial) ?_
  refine Tr.alloc (cs := (wordsV (List.replicate 4 0))) rfl Zr66 rfl ?_
  intro n3 hn3 hf3
  first
    | refine Tr.storeAll rfl rfl rfl rfl cB Sz66 (by first | (simp [W5.l_length, fb_length, qtA_length, set8_length, ha]; done) | assumption | (rw [bytesV, List.length_map]; assumption)) mM (by first | (simp [W5.l_length, fb_length, qtA_length, set8_length, ha]; done) | assumption | (rw [bytesV, List.length_map]; assumption)) uU ?_
    | refine Tr.storeN _ rfl rfl rfl rfl rfl cB Sz66 (by first | (simp [W5.l_length, fb_length, qtA_length, set8_length, ha]; done) | assumption | (rw [bytesV, List.length_map]; assumption)) mM (by first | (simp [W5.l_length, fb_length, qtA_length, set8_length, ha]; done) | assumption | (rw [bytesV, List.length_map]; assumption)) (by exact rfl) uU ?_
  refine Tr.nil ?_
  refine at_n ?_
  refine Sat.seq ?_
  refine Sat.region ?_
  first
    | refine Tr.idxArr1 rfl rfl rfl rfl Try.underlying66 Sz65 0 rfl dE ?_
    | refine Tr.idxArrO rfl rfl rfl rfl Try.underlying66 Sz65 0 rfl dE ?_
  refine Tr.load1 rfl rfl rfl Try.underlying65 rfl mM (by first | rfl | exact get_words (by first | omega | (simp [W5.l_length, fb_length, qtA_length, set8_length, ha]; done) | (simp [W5.l_length, fb_length, qtA_length, set8_length, ha]; omega)) | exact get_bytes (by first | omega | (simp [W5.l_length, fb_length, qtA_length, set8_length, ha]; done) | (simp [W5.l_length, fb_length, qtA_length, set8_length, ha]; omega)) | exact get_ints (by first | omega | (simp [W5.l_length, fb_length, qtA_length, set8_length, ha]; done) | (simp [W5.l_length, fb_length, qtA_length, set8_length, ha]; omega))) ?_
  refine Tr.and_u64 rfl rfl rfl (show evIn _ _ = some (u64 2251799813685247) from rfl) ?_
  first
    | refine Tr.idxArr1 rfl rfl rfl rfl Try.underlying66 Sz65 0 rfl dE ?_
    | refine Tr.idxArrO rfl rfl rfl rfl Try.underlying66 Sz65 0 rfl dE ?_
  refine Tr.load1 rfl rfl rfl Try.underlying65 rfl mM (by first | rfl | exact get_words (by first | omega | (simp [W5.l_length, fb_length, qtA_length, set8_length, ha]; done) | (simp [W5.l_length, fb_length, qtA_length, set8_length, ha]; omega)) | exact get_bytes (by first | omega | (simp [W5.l_length, fb_length, qtA_length, set8_length, ha]; done) | (simp [W5.l_length, fb_length, qtA_length, set8_length, ha]; omega)) | exact get_ints (by first | omega | (simp [W5.l_length, fb_length, qtA_length, set8_length, ha]; done) | (simp [W5.l_length, fb_length, qtA_length, set8_length, ha]; omega))) ?_
  refine Tr.shr_u64 rfl rfl rfl rfl 51 rfl dE ?_
  first
    | refine Tr.idxArr1 rfl rfl rfl rfl Try.underlying66 Sz65 1 rfl dE ?_
    | refine Tr.idxArrO rfl rfl rfl rfl Try.underlying66 Sz65 1 rfl dE ?_
  refine Tr.load1 rfl rfl rfl Try.underlying65 rfl mM (by first | rfl | exact get_words (by first | omega | (simp [W5.l_length, fb_length, qtA_length, set8_length, ha]; done) | (simp [W5.l_length, fb_length, qtA_length, set8_length, ha]; omega)) | exact get_bytes (by first | omega | (simp [W5.l_length, fb_length, qtA_length, set8_length, ha]; done) | (simp [W5.l_length, fb_length, qtA_length, set8_length, ha]; omega)) | exact get_ints (by first | omega | (simp [W5.l_length, fb_length, qtA_length, set8_length, ha]; done) | (simp [W5.l_length, fb_length, qtA_length, set8_length, ha]; omega))) ?_
  refine Tr.shl_u64 rfl rfl rfl rfl 13 rfl dE ?_
  refine Tr.or_u64 rfl rfl rfl rfl ?_
  refine Tr.and_u64 rfl rfl rfl (show evIn _ _ = some (u64 2251799813685247) from rfl) ?_
  first
    | refine Tr.idxArr1 rfl rfl rfl rfl Try.underlying66 Sz65 1 rfl dE ?_
    | refine Tr.idxArrO rfl rfl rfl rfl Try.underlying66 Sz65 1 rfl dE ?_
  refine Tr.load1 rfl rfl rfl Try.underlying65 rfl mM (by first | rfl | exact get_words (by first | omega | (simp [W5.l_length, fb_length, qtA_length, set8_length, ha]; done) | (simp [W5.l_length, fb_length, qtA_length, set8_length, ha]; omega)) | exact get_bytes (by first | omega | (simp [W5.l_length, fb_length, qtA_length, set8_length, ha]; done) | (simp [W5.l_length, fb_length, qtA_length, set8_length, ha]; omega)) | exact get_ints (by first | omega | (simp [W5.l_length, fb_length, qtA_length, set8_length, ha]; done) | (simp [W5.l_length, fb_length, qtA_length, set8_length, ha]; omega))) ?_
  refine Tr.shr_u64 rfl rfl rfl rfl 38 rfl dE ?_
  first
    | refine Tr.idxArr1 rfl rfl rfl rfl Try.underlying66 Sz65 2 rfl dE ?_
    | refine Tr.idxArrO rfl rfl rfl rfl Try.underlying66 Sz65 2 rfl dE ?_
  refine Tr.load1 rfl rfl rfl Try.underlying65 rfl mM (by first | rfl | exact get_words (by first | omega | (simp [W5.l_length, fb_length, qtA_length, set8_length, ha]; done) | (simp [W5.l_length, fb_length, qtA_length, set8_length, ha]; omega)) | exact get_bytes (by first | omega | (simp [W5.l_length, fb_length, qtA_length, set8_length, ha]; done) | (simp [W5.l_length, fb_length, qtA_length, set8_length, ha]; omega)) | exact get_ints (by first | omega | (simp [W5.l_length, fb_length, qtA_length, set8_length, ha]; done) | (simp [W5.l_length, fb_length, qtA_length, set8_length, ha]; omega))) ?_
  refine Tr.shl_u64 rfl rfl rfl rfl 26 rfl dE ?_
  refine Tr.or_u64 rfl rfl rfl rfl ?_
  refine Tr.and_u64 rfl rfl rfl (show evIn _ _ = some (u64 2251799813685247) from rfl) ?_
  first
    | refine Tr.idxArr1 rfl rfl rfl rfl Try.underlying66 Sz65 2 rfl dE ?_
    | refine Tr.idxArrO rfl rfl rfl rfl Try.underlying66 Sz65 2 rfl dE ?_
  refine Tr.load1 rfl rfl rfl Try.underlying65 rfl mM (by first | rfl | exact get_words (by first | omega | (simp [W5.l_length, fb_length, qtA_length, set8_length, ha]; done) | (simp [W5.l_length, fb_length, qtA_length, set8_length, ha]; omega)) | exact get_bytes (by first | omega | (simp [W5.l_length, fb_length, qtA_length, set8_length, ha]; done) | (simp [W5.l_length, fb_length, qtA_length, set8_length, ha]; omega)) | exact get_ints (by first | omega | (simp [W5.l_length, fb_length, qtA_length, set8_length, ha]; done) | (simp [W5.l_length, fb_length, qtA_length, set8_length, ha]; omega))) ?_
  refine Tr.shr_u64 rfl rfl rfl rfl 25 rfl dE ?_
  first
    | refine Tr.idxArr1 rfl rfl rfl rfl Try.underlying66 Sz65 3 rfl dE ?_
    | refine Tr.idxArrO rfl rfl rfl rfl Try.underlying66 Sz65 3 rfl dE ?_
  refine Tr.load1 rfl rfl rfl Try.underlying65 rfl mM (by first | rfl | exact get_words (by first | omega | (simp [W5.l_length, fb_length, qtA_length, set8_length, ha]; done) | (simp [W5.l_length, fb_length, qtA_length, set8_length, ha]; omega)) | exact get_bytes (by first | omega | (simp [W5.l_length, fb_length, qtA_length, set8_length, ha]; done) | (simp [W5.l_length, fb_length, qtA_length, set8_length, ha]; omega)) | exact get_ints (by first | omega | (simp [W5.l_length, fb_length, qtA_length, set8_length, ha]; done) | (simp [W5.l_length, fb_length, qtA_length, set8_length, ha]; omega))) ?_
  refine Tr.shl_u64 rfl rfl rfl rfl 39 rfl dE ?_
  refine Tr.or_u64 rfl rfl rfl rfl ?_
  refine Tr.and_u64 rfl rfl rfl (show evIn _ _ = some (u64 2251799813685247) from rfl) ?_
  first
    | refine Tr.idxArr1 rfl rfl rfl rfl Try.underlying66 Sz65 3 rfl dE ?_
    | refine Tr.idxArrO rfl rfl rfl rfl Try.underlying66 Sz65 3 rfl dE ?_
  refine Tr.load1 rfl rfl rfl Try.underlying65 rfl mM (by first | rfl | exact get_words (by first | omega | (simp [W5.l_length, fb_length, qtA_length, set8_length, ha]; done) | (simp [W5.l_length, fb_length, qtA_length, set8_length, ha]; omega)) | exact get_bytes (by first | omega | (simp [W5.l_length, fb_length, qtA_length, set8_length, ha]; done) | (simp [W5.l_length, fb_length, qtA_length, set8_length, ha]; omega)) | exact get_ints (by first | omega | (simp [W5.l_length, fb_length, qtA_length, set8_length, ha]; done) | (simp [W5.l_length, fb_length, qtA_length, set8_length, ha]; omega))) ?_
  refine Tr.shr_u64 rfl rfl rfl rfl 12 rfl dE ?_
  refine Tr.build (cs := wordsV (ldN a).l) rfl rfl rfl (fun w => by kernel_rfl) ?_
  first
    | refine Tr.storeAll rfl rfl rfl rfl cB Sz103 (by first | (simp [W5.l_length, fb_length, qtA_length, set8_length, ha]; done) | assumption | (rw [bytesV, List.length_map]; assumption)) mM (by first | (simp [W5.l_length, fb_length, qtA_length, set8_length, ha]; done) | assumption | (rw [bytesV, List.length_map]; assumption)) uU ?_
    | refine Tr.storeN _ rfl rfl rfl rfl rfl cB Sz103 (by first | (simp [W5.l_length, fb_length, qtA_length, set8_length, ha]; done) | assumption | (rw [bytesV, List.length_map]; assumption)) mM (by first | (simp [W5.l_length, fb_length, qtA_length, set8_length, ha]; done) | assumption | (rw [bytesV, List.length_map]; assumption)) (by exact rfl) uU ?_
  refine Tr.nil ?_
  refine at_n ?_
  refine Sat.ret ?_
  refine en_r ?_
  refine ⟨_, [], res_cell rfl rfl Try.underlying103 rfl Sz103 mM (by simp [W5.l_length, fb_length, qtA_length, set8_length, ha]), sP, sP, ?_, rfl⟩
  rfl

set_option maxRecDepth 100000 in
set_option maxHeartbeats 1000000 in
theorem field_carried (w : W5) : Meets Try.prog 99 [agg (wordsV w.l)] [] (fun _ => True) (fun v out => v = agg (wordsV (carF w).l) ∧ out = []) := by
  intro W hW
  refine calls_of (hp0 := []) Try.func99 rfl 40 Try.ntmps99 rfl (HRep.nil _) ?_
  refine Sat.seq ?_
  refine Sat.region ?_
  refine Tr.boxA rfl rfl ?_
  intro n1 hn1 hf1
  refine Tr.alloc (cs := (wordsV (List.replicate 5 0))) rfl Zr103 rfl ?_
  intro n2 hn2 hf2
  refine Tr.nil ?_
  refine at_n ?_
  refine Sat.seq ?_
  refine Sat.region ?_
  first
    | refine Tr.idxArr1 rfl rfl rfl rfl Try.underlying103 Sz65 0 rfl dE ?_
    | refine Tr.idxArrO rfl rfl rfl rfl Try.underlying103 Sz65 0 rfl dE ?_
  refine Tr.load1 rfl rfl rfl Try.underlying65 rfl mM (by first | rfl | exact get_words (by first | omega | (simp [W5.l_length, fb_length, qtA_length, set8_length]; done) | (simp [W5.l_length, fb_length, qtA_length, set8_length]; omega)) | exact get_bytes (by first | omega | (simp [W5.l_length, fb_length, qtA_length, set8_length]; done) | (simp [W5.l_length, fb_length, qtA_length, set8_length]; omega)) | exact get_ints (by first | omega | (simp [W5.l_length, fb_length, qtA_length, set8_length]; done) | (simp [W5.l_length, fb_length, qtA_length, set8_length]; omega))) ?_
  refine Tr.and_u64 rfl rfl rfl (show evIn _ _ = some (u64 2251799813685247) from rfl) ?_
  first
    | refine Tr.idxArr1 rfl rfl rfl rfl Try.underlying103 Sz65 4 rfl dE ?_
    | refine Tr.idxArrO rfl rfl rfl rfl Try.underlying103 Sz65 4 rfl dE ?_
  refine Tr.load1 rfl rfl rfl Try.underlying65 rfl mM (by first | rfl | exact get_words (by first | omega | (simp [W5.l_length, fb_length, qtA_length, set8_length]; done) | (simp [W5.l_length, fb_length, qtA_length, set8_length]; omega)) | exact get_bytes (by first | omega | (simp [W5.l_length, fb_length, qtA_length, set8_length]; done) | (simp [W5.l_length, fb_length, qtA_length, set8_length]; omega)) | exact get_ints (by first | omega | (simp [W5.l_length, fb_length, qtA_length, set8_length]; done) | (simp [W5.l_length, fb_length, qtA_length, set8_length]; omega))) ?_
  refine Tr.shr_u64 rfl rfl rfl rfl 51 rfl dE ?_
  refine Tr.mul_u64 rfl rfl (show evIn _ _ = some (u64 19) from rfl) rfl ?_
  refine Tr.add_u64 rfl rfl rfl rfl ?_
  first
    | refine Tr.idxArr1 rfl rfl rfl rfl Try.underlying103 Sz65 1 rfl dE ?_
    | refine Tr.idxArrO rfl rfl rfl rfl Try.underlying103 Sz65 1 rfl dE ?_
  refine Tr.load1 rfl rfl rfl Try.underlying65 rfl mM (by first | rfl | exact get_words (by first | omega | (simp [W5.l_length, fb_length, qtA_length, set8_length]; done) | (simp [W5.l_length, fb_length, qtA_length, set8_length]; omega)) | exact get_bytes (by first | omega | (simp [W5.l_length, fb_length, qtA_length, set8_length]; done) | (simp [W5.l_length, fb_length, qtA_length, set8_length]; omega)) | exact get_ints (by first | omega | (simp [W5.l_length, fb_length, qtA_length, set8_length]; done) | (simp [W5.l_length, fb_length, qtA_length, set8_length]; omega))) ?_
  refine Tr.and_u64 rfl rfl rfl (show evIn _ _ = some (u64 2251799813685247) from rfl) ?_
  first
    | refine Tr.idxArr1 rfl rfl rfl rfl Try.underlying103 Sz65 0 rfl dE ?_
    | refine Tr.idxArrO rfl rfl rfl rfl Try.underlying103 Sz65 0 rfl dE ?_
  refine Tr.load1 rfl rfl rfl Try.underlying65 rfl mM (by first | rfl | exact get_words (by first | omega | (simp [W5.l_length, fb_length, qtA_length, set8_length]; done) | (simp [W5.l_length, fb_length, qtA_length, set8_length]; omega)) | exact get_bytes (by first | omega | (simp [W5.l_length, fb_length, qtA_length, set8_length]; done) | (simp [W5.l_length, fb_length, qtA_length, set8_length]; omega)) | exact get_ints (by first | omega | (simp [W5.l_length, fb_length, qtA_length, set8_length]; done) | (simp [W5.l_length, fb_length, qtA_length, set8_length]; omega))) ?_
  refine Tr.shr_u64 rfl rfl rfl rfl 51 rfl dE ?_
  refine Tr.add_u64 rfl rfl rfl rfl ?_
  first
    | refine Tr.idxArr1 rfl rfl rfl rfl Try.underlying103 Sz65 2 rfl dE ?_
    | refine Tr.idxArrO rfl rfl rfl rfl Try.underlying103 Sz65 2 rfl dE ?_
  refine Tr.load1 rfl rfl rfl Try.underlying65 rfl mM (by first | rfl | exact get_words (by first | omega | (simp [W5.l_length, fb_length, qtA_length, set8_length]; done) | (simp [W5.l_length, fb_length, qtA_length, set8_length]; omega)) | exact get_bytes (by first | omega | (simp [W5.l_length, fb_length, qtA_length, set8_length]; done) | (simp [W5.l_length, fb_length, qtA_length, set8_length]; omega)) | exact get_ints (by first | omega | (simp [W5.l_length, fb_length, qtA_length, set8_length]; done) | (simp [W5.l_length, fb_length, qtA_length, set8_length]; omega))) ?_
  refine Tr.and_u64 rfl rfl rfl (show evIn _ _ = some (u64 2251799813685247) from rfl) ?_
  first
    | refine Tr.idxArr1 rfl rfl rfl rfl Try.underlying103 Sz65 1 rfl dE ?_
    | refine Tr.idxArrO rfl rfl rfl rfl Try.underlying103 Sz65 1 rfl dE ?_
  refine Tr.load1 rfl rfl rfl Try.underlying65 rfl mM (by first | rfl | exact get_words (by first | omega | (simp [W5.l_length, fb_length, qtA_length, set8_length]; done) | (simp [W5.l_length, fb_length, qtA_length, set8_length]; omega)) | exact get_bytes (by first | omega | (simp [W5.l_length, fb_length, qtA_length, set8_length]; done) | (simp [W5.l_length, fb_length, qtA_length, set8_length]; omega)) | exact get_ints (by first | omega | (simp [W5.l_length, fb_length, qtA_length, set8_length]; done) | (simp [W5.l_length, fb_length, qtA_length, set8_length]; omega))) ?_
  refine Tr.shr_u64 rfl rfl rfl rfl 51 rfl dE ?_
  refine Tr.add_u64 rfl rfl rfl rfl ?_
  first
    | refine Tr.idxArr1 rfl rfl rfl rfl Try.underlying103 Sz65 3 rfl dE ?_
    | refine Tr.idxArrO rfl rfl rfl rfl Try.underlying103 Sz65 3 rfl dE ?_
  refine Tr.load1 rfl rfl rfl Try.underlying65 rfl mM (by first | rfl | exact get_words (by first | omega | (simp [W5.l_length, fb_length, qtA_length, set8_length]; done) | (simp [W5.l_length, fb_length, qtA_length, set8_length]; omega)) | exact get_bytes (by first | omega | (simp [W5.l_length, fb_length, qtA_length, set8_length]; done) | (simp [W5.l_length, fb_length, qtA_length, set8_length]; omega)) | exact get_ints (by first | omega | (simp [W5.l_length, fb_length, qtA_length, set8_length]; done) | (simp [W5.l_length, fb_length, qtA_length, set8_length]; omega))) ?_
  refine Tr.and_u64 rfl rfl rfl (show evIn _ _ = some (u64 2251799813685247) from rfl) ?_
  first
    | refine Tr.idxArr1 rfl rfl rfl rfl Try.underlying103 Sz65 2 rfl dE ?_
    | refine Tr.idxArrO rfl rfl rfl rfl Try.underlying103 Sz65 2 rfl dE ?_
  refine Tr.load1 rfl rfl rfl Try.underlying65 rfl mM (by first | rfl | exact get_words (by first | omega | (simp [W5.l_length, fb_length, qtA_length, set8_length]; done) | (simp [W5.l_length, fb_length, qtA_length, set8_length]; omega)) | exact get_bytes (by first | omega | (simp [W5.l_length, fb_length, qtA_length, set8_length]; done) | (simp [W5.l_length, fb_length, qtA_length, set8_length]; omega)) | exact get_ints (by first | omega | (simp [W5.l_length, fb_length, qtA_length, set8_length]; done) | (simp [W5.l_length, fb_length, qtA_length, set8_length]; omega))) ?_
  refine Tr.shr_u64 rfl rfl rfl rfl 51 rfl dE ?_
  refine Tr.add_u64 rfl rfl rfl rfl ?_
  first
    | refine Tr.idxArr1 rfl rfl rfl rfl Try.underlying103 Sz65 4 rfl dE ?_
    | refine Tr.idxArrO rfl rfl rfl rfl Try.underlying103 Sz65 4 rfl dE ?_
  refine Tr.load1 rfl rfl rfl Try.underlying65 rfl mM (by first | rfl | exact get_words (by first | omega | (simp [W5.l_length, fb_length, qtA_length, set8_length]; done) | (simp [W5.l_length, fb_length, qtA_length, set8_length]; omega)) | exact get_bytes (by first | omega | (simp [W5.l_length, fb_length, qtA_length, set8_length]; done) | (simp [W5.l_length, fb_length, qtA_length, set8_length]; omega)) | exact get_ints (by first | omega | (simp [W5.l_length, fb_length, qtA_length, set8_length]; done) | (simp [W5.l_length, fb_length, qtA_length, set8_length]; omega))) ?_
  refine Tr.and_u64 rfl rfl rfl (show evIn _ _ = some (u64 2251799813685247) from rfl) ?_
  first
    | refine Tr.idxArr1 rfl rfl rfl rfl Try.underlying103 Sz65 3 rfl dE ?_
    | refine Tr.idxArrO rfl rfl rfl rfl Try.underlying103 Sz65 3 rfl dE ?_
  refine Tr.load1 rfl rfl rfl Try.underlying65 rfl mM (by first | rfl | exact get_words (by first | omega | (simp [W5.l_length, fb_length, qtA_length, set8_length]; done) | (simp [W5.l_length, fb_length, qtA_length, set8_length]; omega)) | exact get_bytes (by first | omega | (simp [W5.l_length, fb_length, qtA_length, set8_length]; done) | (simp [W5.l_length, fb_length, qtA_length, set8_length]; omega)) | exact get_ints (by first | omega | (simp [W5.l_length, fb_length, qtA_length, set8_length]; done) | (simp [W5.l_length, fb_length, qtA_length, set8_length]; omega))) ?_
  refine Tr.shr_u64 rfl rfl rfl rfl 51 rfl dE ?_
  refine Tr.add_u64 rfl rfl rfl rfl ?_
  refine Tr.build (cs := wordsV (carF w).l) rfl rfl rfl (fun w => by kernel_rfl) ?_
  first
    | refine Tr.storeAll rfl rfl rfl rfl cB Sz103 (by first | (simp [W5.l_length, fb_length, qtA_length, set8_length]; done) | assumption | (rw [bytesV, List.length_map]; assumption)) mM (by first | (simp [W5.l_length, fb_length, qtA_length, set8_length]; done) | assumption | (rw [bytesV, List.length_map]; assumption)) uU ?_
    | refine Tr.storeN _ rfl rfl rfl rfl rfl cB Sz103 (by first | (simp [W5.l_length, fb_length, qtA_length, set8_length]; done) | assumption | (rw [bytesV, List.length_map]; assumption)) mM (by first | (simp [W5.l_length, fb_length, qtA_length, set8_length]; done) | assumption | (rw [bytesV, List.length_map]; assumption)) (by exact rfl) uU ?_
  refine Tr.nil ?_
  refine at_n ?_
  refine Sat.ret ?_
  refine en_r ?_
  refine ⟨_, [], res_cell rfl rfl Try.underlying103 rfl Sz103 mM (by simp [W5.l_length, fb_length, qtA_length, set8_length]), sP, sP, ?_, rfl⟩
  rfl

set_option maxRecDepth 100000 in
set_option maxHeartbeats 1000000 in
theorem wide_plus (s : UInt64 × UInt64) (a b : UInt64) : Meets Try.prog 97 [agg [u64 s.1, u64 s.2], u64 a, u64 b] [] (fun _ => True) (fun v out => v = agg [u64 (plF s a b).1, u64 (plF s a b).2] ∧ out = []) := by
  intro W hW
  refine calls_of (hp0 := []) Try.func97 rfl 34 Try.ntmps97 rfl (HRep.nil _) ?_
  refine Sat.seq ?_
  refine Sat.region ?_
  refine Tr.boxA rfl rfl ?_
  intro n3 hn3 hf3
  refine Tr.alloc (cs := ([u64 0] ++ [u64 0])) rfl Zr122 rfl ?_
  intro n6 hn6 hf6
  refine Tr.nil ?_
  refine at_n ?_
  refine Sat.seq ?_
  refine Sat.region ?_
  refine Tr.move rfl rfl rfl ?_
  refine Tr.move rfl rfl rfl ?_
  refine Tr.callV rfl rfl rfl rfl Body35 (mul64_ok _ _) (fun _ _ => trivial) ?_
  refine Tr.move rfl rfl rfl ?_
  refine Tr.extract rfl rfl rfl rfl ?_
  refine Tr.extract rfl rfl rfl rfl ?_
  refine Tr.assign rfl rfl rfl ?_
  refine Tr.assign rfl rfl rfl ?_
  refine Tr.nil ?_
  refine at_n ?_
  refine Sat.seq ?_
  refine Sat.region ?_
  refine Tr.fld rfl rfl rfl Try.underlying122 rfl Sz65 dE _ rfl ?_
  refine Tr.load1 rfl rfl rfl Try.underlying65 rfl mM (by first | rfl | exact get_words (by first | omega | (simp [W5.l_length, fb_length, qtA_length, set8_length]; done) | (simp [W5.l_length, fb_length, qtA_length, set8_length]; omega)) | exact get_bytes (by first | omega | (simp [W5.l_length, fb_length, qtA_length, set8_length]; done) | (simp [W5.l_length, fb_length, qtA_length, set8_length]; omega)) | exact get_ints (by first | omega | (simp [W5.l_length, fb_length, qtA_length, set8_length]; done) | (simp [W5.l_length, fb_length, qtA_length, set8_length]; omega))) ?_
  refine Tr.move rfl rfl rfl ?_
  refine Tr.ext rfl rfl rfl rfl (add64_run _ _ 0 dE) ?_
  refine Tr.move rfl rfl rfl ?_
  refine Tr.extract rfl rfl rfl rfl ?_
  refine Tr.extract rfl rfl rfl rfl ?_
  refine Tr.assign rfl rfl rfl ?_
  refine Tr.assign rfl rfl rfl ?_
  refine Tr.nil ?_
  refine at_n ?_
  refine Sat.seq ?_
  refine Sat.region ?_
  refine Tr.fld rfl rfl rfl Try.underlying122 rfl Sz65 dE _ rfl ?_
  refine Tr.load1 rfl rfl rfl Try.underlying65 rfl mM (by first | rfl | exact get_words (by first | omega | (simp [W5.l_length, fb_length, qtA_length, set8_length]; done) | (simp [W5.l_length, fb_length, qtA_length, set8_length]; omega)) | exact get_bytes (by first | omega | (simp [W5.l_length, fb_length, qtA_length, set8_length]; done) | (simp [W5.l_length, fb_length, qtA_length, set8_length]; omega)) | exact get_ints (by first | omega | (simp [W5.l_length, fb_length, qtA_length, set8_length]; done) | (simp [W5.l_length, fb_length, qtA_length, set8_length]; omega))) ?_
  refine Tr.move rfl rfl rfl ?_
  refine Tr.move rfl rfl rfl ?_
  refine Tr.ext rfl rfl rfl rfl (add64_run _ _ _ (by rw [w64_toNat]; have := s.2.toNat_lt; have := (a * b).toNat_lt; simp only [show (0 : UInt64).toNat = 0 from rfl]; omega)) ?_
  refine Tr.move rfl rfl rfl ?_
  refine Tr.extract rfl rfl rfl rfl ?_
  refine Tr.extract rfl rfl rfl rfl ?_
  refine Tr.assign rfl rfl rfl ?_
  refine Tr.nil ?_
  refine at_n ?_
  refine Sat.seq ?_
  refine Sat.region ?_
  refine Tr.move rfl rfl rfl ?_
  refine Tr.move rfl rfl rfl ?_
  refine Tr.build (cs := [u64 (plF s a b).1, u64 (plF s a b).2]) rfl rfl rfl (fun w => by kernel_rfl) ?_
  first
    | refine Tr.storeAll rfl rfl rfl rfl cB Sz122 (by first | (simp [W5.l_length, fb_length, qtA_length, set8_length]; done) | assumption | (rw [bytesV, List.length_map]; assumption)) mM (by first | (simp [W5.l_length, fb_length, qtA_length, set8_length]; done) | assumption | (rw [bytesV, List.length_map]; assumption)) uU ?_
    | refine Tr.storeN _ rfl rfl rfl rfl rfl cB Sz122 (by first | (simp [W5.l_length, fb_length, qtA_length, set8_length]; done) | assumption | (rw [bytesV, List.length_map]; assumption)) mM (by first | (simp [W5.l_length, fb_length, qtA_length, set8_length]; done) | assumption | (rw [bytesV, List.length_map]; assumption)) (by exact rfl) uU ?_
  refine Tr.nil ?_
  refine at_n ?_
  refine Sat.ret ?_
  refine en_r ?_
  refine ⟨_, [], res_cell rfl rfl Try.underlying122 rfl Sz122 mM (by simp [W5.l_length, fb_length, qtA_length, set8_length]), sP, sP, ?_, rfl⟩
  rfl

set_option maxRecDepth 100000 in
set_option maxHeartbeats 1000000 in
theorem wide_upper (s : UInt64 × UInt64) : Meets Try.prog 98 [agg [u64 s.1, u64 s.2]] [] (fun _ => True) (fun v out => v = u64 (upF s) ∧ out = []) := by
  intro W hW
  refine calls_of (hp0 := []) Try.func98 rfl 10 Try.ntmps98 rfl (HRep.nil _) ?_
  refine Sat.seq ?_
  refine Sat.region ?_
  refine Tr.boxA rfl rfl ?_
  intro n1 hn1 hf1
  refine Tr.assign rfl rfl (show evIn _ _ = some (u64 0) from rfl) ?_
  refine Tr.nil ?_
  refine at_n ?_
  refine Sat.seq ?_
  refine Sat.region ?_
  refine Tr.fld rfl rfl rfl Try.underlying122 rfl Sz65 dE _ rfl ?_
  refine Tr.load1 rfl rfl rfl Try.underlying65 rfl mM (by first | rfl | exact get_words (by first | omega | (simp [W5.l_length, fb_length, qtA_length, set8_length]; done) | (simp [W5.l_length, fb_length, qtA_length, set8_length]; omega)) | exact get_bytes (by first | omega | (simp [W5.l_length, fb_length, qtA_length, set8_length]; done) | (simp [W5.l_length, fb_length, qtA_length, set8_length]; omega)) | exact get_ints (by first | omega | (simp [W5.l_length, fb_length, qtA_length, set8_length]; done) | (simp [W5.l_length, fb_length, qtA_length, set8_length]; omega))) ?_
  refine Tr.shl_u64 rfl rfl rfl rfl 13 rfl dE ?_
  refine Tr.fld rfl rfl rfl Try.underlying122 rfl Sz65 dE _ rfl ?_
  refine Tr.load1 rfl rfl rfl Try.underlying65 rfl mM (by first | rfl | exact get_words (by first | omega | (simp [W5.l_length, fb_length, qtA_length, set8_length]; done) | (simp [W5.l_length, fb_length, qtA_length, set8_length]; omega)) | exact get_bytes (by first | omega | (simp [W5.l_length, fb_length, qtA_length, set8_length]; done) | (simp [W5.l_length, fb_length, qtA_length, set8_length]; omega)) | exact get_ints (by first | omega | (simp [W5.l_length, fb_length, qtA_length, set8_length]; done) | (simp [W5.l_length, fb_length, qtA_length, set8_length]; omega))) ?_
  refine Tr.shr_u64 rfl rfl rfl rfl 51 rfl dE ?_
  refine Tr.or_u64 rfl rfl rfl rfl ?_
  refine Tr.assign rfl rfl rfl ?_
  refine Tr.nil ?_
  refine at_n ?_
  refine Sat.ret ?_
  refine en_r ?_
  refine ⟨_, [], res_tmp rfl rfl, sP, sP, ?_, rfl⟩
  rfl

set_option maxRecDepth 100000 in
set_option maxHeartbeats 8000000 in
theorem field_product (na nb : Nat) (a b : W5) : Meets Try.prog 81 [ptr na 0, ptr nb 0] [] (fun W => Sees W na 0 (wordsV a.l) ∧ Sees W nb 0 (wordsV b.l)) (fun v out => v = agg (wordsV (mulF a b).l) ∧ out = []) := by
  intro W hW
  refine calls_of (hp0 := []) Try.func81 rfl 267 Try.ntmps81 rfl (HRep.nil _) ?_
  refine Sat.seq ?_
  refine Sat.region ?_
  refine Tr.alloc (cs := (wordsV (List.replicate 5 0))) rfl Zr103 rfl ?_
  intro n4 hn4 hf4
  refine Tr.nil ?_
  refine at_n ?_
  refine Sat.seq ?_
  refine Sat.draw [(0, 0), (0, 1), (0, 2), (1, 3), (0, 4), (0, 5), (0, 6), (0, 7), (1, 8), (0, 9), (0, 10), (0, 11), (0, 12), (1, 13), (0, 14), (0, 15), (0, 16), (0, 17), (1, 18), (0, 19), (0, 20), (0, 21), (0, 22), (0, 23)] Mixed (by kernel_rfl) ?_
  refine Tr.move rfl rfl rfl ?_
  refine Tr.nilChk rfl rfl rfl ?_
  first
    | refine Tr.idxArr1 rfl rfl rfl rfl Try.underlying103 Sz65 1 rfl dE ?_
    | refine Tr.idxArrO rfl rfl rfl rfl Try.underlying103 Sz65 1 rfl dE ?_
  refine Tr.loadE rfl rfl rfl Try.underlying65 rfl (by first | (simp; done) | (simp; exact hW.2.2) | (simp [Cx.with]; done) | (simp [Cx.with]; omega)) (hW.1 1 _ rfl) ?_
  refine Tr.mul_u64 rfl rfl (show evIn _ _ = some (u64 19) from rfl) rfl ?_
  refine Tr.move rfl rfl rfl ?_
  refine Tr.nilChk rfl rfl rfl ?_
  first
    | refine Tr.idxArr1 rfl rfl rfl rfl Try.underlying103 Sz65 2 rfl dE ?_
    | refine Tr.idxArrO rfl rfl rfl rfl Try.underlying103 Sz65 2 rfl dE ?_
  refine Tr.loadE rfl rfl rfl Try.underlying65 rfl (by first | (simp; done) | (simp; exact hW.2.2) | (simp [Cx.with]; done) | (simp [Cx.with]; omega)) (hW.1 2 _ rfl) ?_
  refine Tr.mul_u64 rfl rfl (show evIn _ _ = some (u64 19) from rfl) rfl ?_
  refine Tr.move rfl rfl rfl ?_
  refine Tr.nilChk rfl rfl rfl ?_
  first
    | refine Tr.idxArr1 rfl rfl rfl rfl Try.underlying103 Sz65 3 rfl dE ?_
    | refine Tr.idxArrO rfl rfl rfl rfl Try.underlying103 Sz65 3 rfl dE ?_
  refine Tr.loadE rfl rfl rfl Try.underlying65 rfl (by first | (simp; done) | (simp; exact hW.2.2) | (simp [Cx.with]; done) | (simp [Cx.with]; omega)) (hW.1 3 _ rfl) ?_
  refine Tr.mul_u64 rfl rfl (show evIn _ _ = some (u64 19) from rfl) rfl ?_
  refine Tr.move rfl rfl rfl ?_
  refine Tr.nilChk rfl rfl rfl ?_
  first
    | refine Tr.idxArr1 rfl rfl rfl rfl Try.underlying103 Sz65 4 rfl dE ?_
    | refine Tr.idxArrO rfl rfl rfl rfl Try.underlying103 Sz65 4 rfl dE ?_
  refine Tr.loadE rfl rfl rfl Try.underlying65 rfl (by first | (simp; done) | (simp; exact hW.2.2) | (simp [Cx.with]; done) | (simp [Cx.with]; omega)) (hW.1 4 _ rfl) ?_
  refine Tr.mul_u64 rfl rfl (show evIn _ _ = some (u64 19) from rfl) rfl ?_
  refine Tr.assign rfl rfl rfl ?_
  refine Tr.assign rfl rfl rfl ?_
  refine Tr.assign rfl rfl rfl ?_
  refine Tr.assign rfl rfl rfl ?_
  refine Tr.nil ?_
  refine at_n ?_
  refine Sat.seq ?_
  refine Sat.draw [(0, 0), (0, 1), (0, 2), (0, 3), (1, 4), (0, 5), (0, 6), (0, 7), (1, 8), (0, 10), (0, 11), (0, 12), (0, 13), (1, 14), (0, 16), (0, 17), (0, 18), (0, 19), (1, 20), (0, 22), (0, 23), (0, 24), (0, 25), (1, 26), (0, 28), (0, 29), (0, 30), (0, 31), (1, 32), (3, 9), (3, 15), (3, 21), (3, 27), (3, 33), (2, 34), (4, 35)] Mixed (by kernel_rfl) ?_
  refine Tr.build (cs := [u64 0, u64 0]) rfl rfl rfl (fun w => by kernel_rfl) ?_
  refine Tr.move rfl rfl rfl ?_
  refine Tr.nilChk rfl rfl rfl ?_
  first
    | refine Tr.idxArr1 rfl rfl rfl rfl Try.underlying103 Sz65 0 rfl dE ?_
    | refine Tr.idxArrO rfl rfl rfl rfl Try.underlying103 Sz65 0 rfl dE ?_
  refine Tr.loadE rfl rfl rfl Try.underlying65 rfl (by first | (simp; done) | (simp; exact hW.2.2) | (simp [Cx.with]; done) | (simp [Cx.with]; omega)) (hW.1 0 _ rfl) ?_
  refine Tr.move rfl rfl rfl ?_
  refine Tr.nilChk rfl rfl rfl ?_
  first
    | refine Tr.idxArr1 rfl rfl rfl rfl Try.underlying103 Sz65 0 rfl dE ?_
    | refine Tr.idxArrO rfl rfl rfl rfl Try.underlying103 Sz65 0 rfl dE ?_
  refine Tr.loadE rfl rfl rfl Try.underlying65 rfl (by first | (simp; done) | (simp; exact hW.2.2) | (simp [Cx.with]; done) | (simp [Cx.with]; omega)) (hW.2 0 _ rfl) ?_
  refine Tr.move rfl rfl rfl ?_
  refine Tr.move rfl rfl rfl ?_
  refine Tr.nilChk rfl rfl rfl ?_
  first
    | refine Tr.idxArr1 rfl rfl rfl rfl Try.underlying103 Sz65 4 rfl dE ?_
    | refine Tr.idxArrO rfl rfl rfl rfl Try.underlying103 Sz65 4 rfl dE ?_
  refine Tr.loadE rfl rfl rfl Try.underlying65 rfl (by first | (simp; done) | (simp; exact hW.2.2) | (simp [Cx.with]; done) | (simp [Cx.with]; omega)) (hW.2 4 _ rfl) ?_
  refine Tr.move rfl rfl rfl ?_
  refine Tr.move rfl rfl rfl ?_
  refine Tr.nilChk rfl rfl rfl ?_
  first
    | refine Tr.idxArr1 rfl rfl rfl rfl Try.underlying103 Sz65 3 rfl dE ?_
    | refine Tr.idxArrO rfl rfl rfl rfl Try.underlying103 Sz65 3 rfl dE ?_
  refine Tr.loadE rfl rfl rfl Try.underlying65 rfl (by first | (simp; done) | (simp; exact hW.2.2) | (simp [Cx.with]; done) | (simp [Cx.with]; omega)) (hW.2 3 _ rfl) ?_
  refine Tr.move rfl rfl rfl ?_
  refine Tr.move rfl rfl rfl ?_
  refine Tr.nilChk rfl rfl rfl ?_
  first
    | refine Tr.idxArr1 rfl rfl rfl rfl Try.underlying103 Sz65 2 rfl dE ?_
    | refine Tr.idxArrO rfl rfl rfl rfl Try.underlying103 Sz65 2 rfl dE ?_
  refine Tr.loadE rfl rfl rfl Try.underlying65 rfl (by first | (simp; done) | (simp; exact hW.2.2) | (simp [Cx.with]; done) | (simp [Cx.with]; omega)) (hW.2 2 _ rfl) ?_
  refine Tr.move rfl rfl rfl ?_
  refine Tr.move rfl rfl rfl ?_
  refine Tr.nilChk rfl rfl rfl ?_
  first
    | refine Tr.idxArr1 rfl rfl rfl rfl Try.underlying103 Sz65 1 rfl dE ?_
    | refine Tr.idxArrO rfl rfl rfl rfl Try.underlying103 Sz65 1 rfl dE ?_
  refine Tr.loadE rfl rfl rfl Try.underlying65 rfl (by first | (simp; done) | (simp; exact hW.2.2) | (simp [Cx.with]; done) | (simp [Cx.with]; omega)) (hW.2 1 _ rfl) ?_
  refine Tr.callV rfl rfl rfl rfl Body97 (wide_plus (0, 0) a.a b.a) (fun _ _ => trivial) ?_
  refine Tr.callV rfl rfl rfl rfl Body97 (wide_plus (plF (0, 0) a.a b.a) (19 * a.b) b.e) (fun _ _ => trivial) ?_
  refine Tr.callV rfl rfl rfl rfl Body97 (wide_plus (plF (plF (0, 0) a.a b.a) (19 * a.b) b.e) (19 * a.c) b.d) (fun _ _ => trivial) ?_
  refine Tr.callV rfl rfl rfl rfl Body97 (wide_plus (plF (plF (plF (0, 0) a.a b.a) (19 * a.b) b.e) (19 * a.c) b.d) (19 * a.d) b.c) (fun _ _ => trivial) ?_
  refine Tr.callV rfl rfl rfl rfl Body97 (wide_plus (plF (plF (plF (plF (0, 0) a.a b.a) (19 * a.b) b.e) (19 * a.c) b.d) (19 * a.d) b.c) (19 * a.e) b.b) (fun _ _ => trivial) ?_
  refine Tr.alloc (cs := ([u64 0] ++ [u64 0])) rfl Zr122 rfl ?_
  intro n9 hn9 hf9
  first
    | refine Tr.storeAll rfl rfl rfl rfl cB Sz122 (by first | (simp [W5.l_length, fb_length, qtA_length, set8_length]; done) | assumption | (rw [bytesV, List.length_map]; assumption)) mM (by first | (simp [W5.l_length, fb_length, qtA_length, set8_length]; done) | assumption | (rw [bytesV, List.length_map]; assumption)) uU ?_
    | refine Tr.storeN _ rfl rfl rfl rfl rfl cB Sz122 (by first | (simp [W5.l_length, fb_length, qtA_length, set8_length]; done) | assumption | (rw [bytesV, List.length_map]; assumption)) mM (by first | (simp [W5.l_length, fb_length, qtA_length, set8_length]; done) | assumption | (rw [bytesV, List.length_map]; assumption)) (by exact rfl) uU ?_
  refine Tr.nil ?_
  refine at_n ?_
  refine Sat.seq ?_
  refine Sat.draw [(0, 0), (0, 1), (0, 2), (0, 3), (1, 4), (0, 5), (0, 6), (0, 7), (1, 8), (0, 10), (0, 11), (0, 12), (1, 13), (0, 14), (0, 15), (0, 16), (1, 17), (0, 19), (0, 20), (0, 21), (0, 22), (1, 23), (0, 25), (0, 26), (0, 27), (0, 28), (1, 29), (0, 31), (0, 32), (0, 33), (0, 34), (1, 35), (3, 9), (3, 18), (3, 24), (3, 30), (3, 36), (2, 37), (4, 38)] Mixed (by kernel_rfl) ?_
  refine Tr.build (cs := [u64 0, u64 0]) rfl rfl rfl (fun w => by kernel_rfl) ?_
  refine Tr.move rfl rfl rfl ?_
  refine Tr.nilChk rfl rfl rfl ?_
  first
    | refine Tr.idxArr1 rfl rfl rfl rfl Try.underlying103 Sz65 0 rfl dE ?_
    | refine Tr.idxArrO rfl rfl rfl rfl Try.underlying103 Sz65 0 rfl dE ?_
  refine Tr.loadE rfl rfl rfl Try.underlying65 rfl (by first | (simp; done) | (simp; exact hW.2.2) | (simp [Cx.with]; done) | (simp [Cx.with]; omega)) (hW.1 0 _ rfl) ?_
  refine Tr.move rfl rfl rfl ?_
  refine Tr.nilChk rfl rfl rfl ?_
  first
    | refine Tr.idxArr1 rfl rfl rfl rfl Try.underlying103 Sz65 1 rfl dE ?_
    | refine Tr.idxArrO rfl rfl rfl rfl Try.underlying103 Sz65 1 rfl dE ?_
  refine Tr.loadE rfl rfl rfl Try.underlying65 rfl (by first | (simp; done) | (simp; exact hW.2.2) | (simp [Cx.with]; done) | (simp [Cx.with]; omega)) (hW.2 1 _ rfl) ?_
  refine Tr.move rfl rfl rfl ?_
  refine Tr.nilChk rfl rfl rfl ?_
  first
    | refine Tr.idxArr1 rfl rfl rfl rfl Try.underlying103 Sz65 1 rfl dE ?_
    | refine Tr.idxArrO rfl rfl rfl rfl Try.underlying103 Sz65 1 rfl dE ?_
  refine Tr.loadE rfl rfl rfl Try.underlying65 rfl (by first | (simp; done) | (simp; exact hW.2.2) | (simp [Cx.with]; done) | (simp [Cx.with]; omega)) (hW.1 1 _ rfl) ?_
  refine Tr.move rfl rfl rfl ?_
  refine Tr.nilChk rfl rfl rfl ?_
  first
    | refine Tr.idxArr1 rfl rfl rfl rfl Try.underlying103 Sz65 0 rfl dE ?_
    | refine Tr.idxArrO rfl rfl rfl rfl Try.underlying103 Sz65 0 rfl dE ?_
  refine Tr.loadE rfl rfl rfl Try.underlying65 rfl (by first | (simp; done) | (simp; exact hW.2.2) | (simp [Cx.with]; done) | (simp [Cx.with]; omega)) (hW.2 0 _ rfl) ?_
  refine Tr.move rfl rfl rfl ?_
  refine Tr.move rfl rfl rfl ?_
  refine Tr.nilChk rfl rfl rfl ?_
  first
    | refine Tr.idxArr1 rfl rfl rfl rfl Try.underlying103 Sz65 4 rfl dE ?_
    | refine Tr.idxArrO rfl rfl rfl rfl Try.underlying103 Sz65 4 rfl dE ?_
  refine Tr.loadE rfl rfl rfl Try.underlying65 rfl (by first | (simp; done) | (simp; exact hW.2.2) | (simp [Cx.with]; done) | (simp [Cx.with]; omega)) (hW.2 4 _ rfl) ?_
  refine Tr.move rfl rfl rfl ?_
  refine Tr.move rfl rfl rfl ?_
  refine Tr.nilChk rfl rfl rfl ?_
  first
    | refine Tr.idxArr1 rfl rfl rfl rfl Try.underlying103 Sz65 3 rfl dE ?_
    | refine Tr.idxArrO rfl rfl rfl rfl Try.underlying103 Sz65 3 rfl dE ?_
  refine Tr.loadE rfl rfl rfl Try.underlying65 rfl (by first | (simp; done) | (simp; exact hW.2.2) | (simp [Cx.with]; done) | (simp [Cx.with]; omega)) (hW.2 3 _ rfl) ?_
  refine Tr.move rfl rfl rfl ?_
  refine Tr.move rfl rfl rfl ?_
  refine Tr.nilChk rfl rfl rfl ?_
  first
    | refine Tr.idxArr1 rfl rfl rfl rfl Try.underlying103 Sz65 2 rfl dE ?_
    | refine Tr.idxArrO rfl rfl rfl rfl Try.underlying103 Sz65 2 rfl dE ?_
  refine Tr.loadE rfl rfl rfl Try.underlying65 rfl (by first | (simp; done) | (simp; exact hW.2.2) | (simp [Cx.with]; done) | (simp [Cx.with]; omega)) (hW.2 2 _ rfl) ?_
  refine Tr.callV rfl rfl rfl rfl Body97 (wide_plus (0, 0) a.a b.b) (fun _ _ => trivial) ?_
  refine Tr.callV rfl rfl rfl rfl Body97 (wide_plus (plF (0, 0) a.a b.b) a.b b.a) (fun _ _ => trivial) ?_
  refine Tr.callV rfl rfl rfl rfl Body97 (wide_plus (plF (plF (0, 0) a.a b.b) a.b b.a) (19 * a.c) b.e) (fun _ _ => trivial) ?_
  refine Tr.callV rfl rfl rfl rfl Body97 (wide_plus (plF (plF (plF (0, 0) a.a b.b) a.b b.a) (19 * a.c) b.e) (19 * a.d) b.d) (fun _ _ => trivial) ?_
  refine Tr.callV rfl rfl rfl rfl Body97 (wide_plus (plF (plF (plF (plF (0, 0) a.a b.b) a.b b.a) (19 * a.c) b.e) (19 * a.d) b.d) (19 * a.e) b.c) (fun _ _ => trivial) ?_
  refine Tr.alloc (cs := ([u64 0] ++ [u64 0])) rfl Zr122 rfl ?_
  intro n10 hn10 hf10
  first
    | refine Tr.storeAll rfl rfl rfl rfl cB Sz122 (by first | (simp [W5.l_length, fb_length, qtA_length, set8_length]; done) | assumption | (rw [bytesV, List.length_map]; assumption)) mM (by first | (simp [W5.l_length, fb_length, qtA_length, set8_length]; done) | assumption | (rw [bytesV, List.length_map]; assumption)) uU ?_
    | refine Tr.storeN _ rfl rfl rfl rfl rfl cB Sz122 (by first | (simp [W5.l_length, fb_length, qtA_length, set8_length]; done) | assumption | (rw [bytesV, List.length_map]; assumption)) mM (by first | (simp [W5.l_length, fb_length, qtA_length, set8_length]; done) | assumption | (rw [bytesV, List.length_map]; assumption)) (by exact rfl) uU ?_
  refine Tr.nil ?_
  refine at_n ?_
  refine Sat.seq ?_
  refine Sat.draw [(0, 0), (0, 1), (0, 2), (0, 3), (1, 4), (0, 5), (0, 6), (0, 7), (1, 8), (0, 10), (0, 11), (0, 12), (1, 13), (0, 14), (0, 15), (0, 16), (1, 17), (0, 19), (0, 20), (0, 21), (1, 22), (0, 23), (0, 24), (0, 25), (1, 26), (0, 28), (0, 29), (0, 30), (0, 31), (1, 32), (0, 34), (0, 35), (0, 36), (0, 37), (1, 38), (3, 9), (3, 18), (3, 27), (3, 33), (3, 39), (2, 40), (4, 41)] Mixed (by kernel_rfl) ?_
  refine Tr.build (cs := [u64 0, u64 0]) rfl rfl rfl (fun w => by kernel_rfl) ?_
  refine Tr.move rfl rfl rfl ?_
  refine Tr.nilChk rfl rfl rfl ?_
  first
    | refine Tr.idxArr1 rfl rfl rfl rfl Try.underlying103 Sz65 0 rfl dE ?_
    | refine Tr.idxArrO rfl rfl rfl rfl Try.underlying103 Sz65 0 rfl dE ?_
  refine Tr.loadE rfl rfl rfl Try.underlying65 rfl (by first | (simp; done) | (simp; exact hW.2.2) | (simp [Cx.with]; done) | (simp [Cx.with]; omega)) (hW.1 0 _ rfl) ?_
  refine Tr.move rfl rfl rfl ?_
  refine Tr.nilChk rfl rfl rfl ?_
  first
    | refine Tr.idxArr1 rfl rfl rfl rfl Try.underlying103 Sz65 2 rfl dE ?_
    | refine Tr.idxArrO rfl rfl rfl rfl Try.underlying103 Sz65 2 rfl dE ?_
  refine Tr.loadE rfl rfl rfl Try.underlying65 rfl (by first | (simp; done) | (simp; exact hW.2.2) | (simp [Cx.with]; done) | (simp [Cx.with]; omega)) (hW.2 2 _ rfl) ?_
  refine Tr.move rfl rfl rfl ?_
  refine Tr.nilChk rfl rfl rfl ?_
  first
    | refine Tr.idxArr1 rfl rfl rfl rfl Try.underlying103 Sz65 1 rfl dE ?_
    | refine Tr.idxArrO rfl rfl rfl rfl Try.underlying103 Sz65 1 rfl dE ?_
  refine Tr.loadE rfl rfl rfl Try.underlying65 rfl (by first | (simp; done) | (simp; exact hW.2.2) | (simp [Cx.with]; done) | (simp [Cx.with]; omega)) (hW.1 1 _ rfl) ?_
  refine Tr.move rfl rfl rfl ?_
  refine Tr.nilChk rfl rfl rfl ?_
  first
    | refine Tr.idxArr1 rfl rfl rfl rfl Try.underlying103 Sz65 1 rfl dE ?_
    | refine Tr.idxArrO rfl rfl rfl rfl Try.underlying103 Sz65 1 rfl dE ?_
  refine Tr.loadE rfl rfl rfl Try.underlying65 rfl (by first | (simp; done) | (simp; exact hW.2.2) | (simp [Cx.with]; done) | (simp [Cx.with]; omega)) (hW.2 1 _ rfl) ?_
  refine Tr.move rfl rfl rfl ?_
  refine Tr.nilChk rfl rfl rfl ?_
  first
    | refine Tr.idxArr1 rfl rfl rfl rfl Try.underlying103 Sz65 2 rfl dE ?_
    | refine Tr.idxArrO rfl rfl rfl rfl Try.underlying103 Sz65 2 rfl dE ?_
  refine Tr.loadE rfl rfl rfl Try.underlying65 rfl (by first | (simp; done) | (simp; exact hW.2.2) | (simp [Cx.with]; done) | (simp [Cx.with]; omega)) (hW.1 2 _ rfl) ?_
  refine Tr.move rfl rfl rfl ?_
  refine Tr.nilChk rfl rfl rfl ?_
  first
    | refine Tr.idxArr1 rfl rfl rfl rfl Try.underlying103 Sz65 0 rfl dE ?_
    | refine Tr.idxArrO rfl rfl rfl rfl Try.underlying103 Sz65 0 rfl dE ?_
  refine Tr.loadE rfl rfl rfl Try.underlying65 rfl (by first | (simp; done) | (simp; exact hW.2.2) | (simp [Cx.with]; done) | (simp [Cx.with]; omega)) (hW.2 0 _ rfl) ?_
  refine Tr.move rfl rfl rfl ?_
  refine Tr.move rfl rfl rfl ?_
  refine Tr.nilChk rfl rfl rfl ?_
  first
    | refine Tr.idxArr1 rfl rfl rfl rfl Try.underlying103 Sz65 4 rfl dE ?_
    | refine Tr.idxArrO rfl rfl rfl rfl Try.underlying103 Sz65 4 rfl dE ?_
  refine Tr.loadE rfl rfl rfl Try.underlying65 rfl (by first | (simp; done) | (simp; exact hW.2.2) | (simp [Cx.with]; done) | (simp [Cx.with]; omega)) (hW.2 4 _ rfl) ?_
  refine Tr.move rfl rfl rfl ?_
  refine Tr.move rfl rfl rfl ?_
  refine Tr.nilChk rfl rfl rfl ?_
  first
    | refine Tr.idxArr1 rfl rfl rfl rfl Try.underlying103 Sz65 3 rfl dE ?_
    | refine Tr.idxArrO rfl rfl rfl rfl Try.underlying103 Sz65 3 rfl dE ?_
  refine Tr.loadE rfl rfl rfl Try.underlying65 rfl (by first | (simp; done) | (simp; exact hW.2.2) | (simp [Cx.with]; done) | (simp [Cx.with]; omega)) (hW.2 3 _ rfl) ?_
  refine Tr.callV rfl rfl rfl rfl Body97 (wide_plus (0, 0) a.a b.c) (fun _ _ => trivial) ?_
  refine Tr.callV rfl rfl rfl rfl Body97 (wide_plus (plF (0, 0) a.a b.c) a.b b.b) (fun _ _ => trivial) ?_
  refine Tr.callV rfl rfl rfl rfl Body97 (wide_plus (plF (plF (0, 0) a.a b.c) a.b b.b) a.c b.a) (fun _ _ => trivial) ?_
  refine Tr.callV rfl rfl rfl rfl Body97 (wide_plus (plF (plF (plF (0, 0) a.a b.c) a.b b.b) a.c b.a) (19 * a.d) b.e) (fun _ _ => trivial) ?_
  refine Tr.callV rfl rfl rfl rfl Body97 (wide_plus (plF (plF (plF (plF (0, 0) a.a b.c) a.b b.b) a.c b.a) (19 * a.d) b.e) (19 * a.e) b.d) (fun _ _ => trivial) ?_
  refine Tr.alloc (cs := ([u64 0] ++ [u64 0])) rfl Zr122 rfl ?_
  intro n11 hn11 hf11
  first
    | refine Tr.storeAll rfl rfl rfl rfl cB Sz122 (by first | (simp [W5.l_length, fb_length, qtA_length, set8_length]; done) | assumption | (rw [bytesV, List.length_map]; assumption)) mM (by first | (simp [W5.l_length, fb_length, qtA_length, set8_length]; done) | assumption | (rw [bytesV, List.length_map]; assumption)) uU ?_
    | refine Tr.storeN _ rfl rfl rfl rfl rfl cB Sz122 (by first | (simp [W5.l_length, fb_length, qtA_length, set8_length]; done) | assumption | (rw [bytesV, List.length_map]; assumption)) mM (by first | (simp [W5.l_length, fb_length, qtA_length, set8_length]; done) | assumption | (rw [bytesV, List.length_map]; assumption)) (by exact rfl) uU ?_
  refine Tr.nil ?_
  refine at_n ?_
  refine Sat.seq ?_
  refine Sat.draw [(0, 0), (0, 1), (0, 2), (0, 3), (1, 4), (0, 5), (0, 6), (0, 7), (1, 8), (0, 10), (0, 11), (0, 12), (1, 13), (0, 14), (0, 15), (0, 16), (1, 17), (0, 19), (0, 20), (0, 21), (1, 22), (0, 23), (0, 24), (0, 25), (1, 26), (0, 28), (0, 29), (0, 30), (1, 31), (0, 32), (0, 33), (0, 34), (1, 35), (0, 37), (0, 38), (0, 39), (0, 40), (1, 41), (3, 9), (3, 18), (3, 27), (3, 36), (3, 42), (2, 43), (4, 44)] Mixed (by kernel_rfl) ?_
  refine Tr.build (cs := [u64 0, u64 0]) rfl rfl rfl (fun w => by kernel_rfl) ?_
  refine Tr.move rfl rfl rfl ?_
  refine Tr.nilChk rfl rfl rfl ?_
  first
    | refine Tr.idxArr1 rfl rfl rfl rfl Try.underlying103 Sz65 0 rfl dE ?_
    | refine Tr.idxArrO rfl rfl rfl rfl Try.underlying103 Sz65 0 rfl dE ?_
  refine Tr.loadE rfl rfl rfl Try.underlying65 rfl (by first | (simp; done) | (simp; exact hW.2.2) | (simp [Cx.with]; done) | (simp [Cx.with]; omega)) (hW.1 0 _ rfl) ?_
  refine Tr.move rfl rfl rfl ?_
  refine Tr.nilChk rfl rfl rfl ?_
  first
    | refine Tr.idxArr1 rfl rfl rfl rfl Try.underlying103 Sz65 3 rfl dE ?_
    | refine Tr.idxArrO rfl rfl rfl rfl Try.underlying103 Sz65 3 rfl dE ?_
  refine Tr.loadE rfl rfl rfl Try.underlying65 rfl (by first | (simp; done) | (simp; exact hW.2.2) | (simp [Cx.with]; done) | (simp [Cx.with]; omega)) (hW.2 3 _ rfl) ?_
  refine Tr.move rfl rfl rfl ?_
  refine Tr.nilChk rfl rfl rfl ?_
  first
    | refine Tr.idxArr1 rfl rfl rfl rfl Try.underlying103 Sz65 1 rfl dE ?_
    | refine Tr.idxArrO rfl rfl rfl rfl Try.underlying103 Sz65 1 rfl dE ?_
  refine Tr.loadE rfl rfl rfl Try.underlying65 rfl (by first | (simp; done) | (simp; exact hW.2.2) | (simp [Cx.with]; done) | (simp [Cx.with]; omega)) (hW.1 1 _ rfl) ?_
  refine Tr.move rfl rfl rfl ?_
  refine Tr.nilChk rfl rfl rfl ?_
  first
    | refine Tr.idxArr1 rfl rfl rfl rfl Try.underlying103 Sz65 2 rfl dE ?_
    | refine Tr.idxArrO rfl rfl rfl rfl Try.underlying103 Sz65 2 rfl dE ?_
  refine Tr.loadE rfl rfl rfl Try.underlying65 rfl (by first | (simp; done) | (simp; exact hW.2.2) | (simp [Cx.with]; done) | (simp [Cx.with]; omega)) (hW.2 2 _ rfl) ?_
  refine Tr.move rfl rfl rfl ?_
  refine Tr.nilChk rfl rfl rfl ?_
  first
    | refine Tr.idxArr1 rfl rfl rfl rfl Try.underlying103 Sz65 2 rfl dE ?_
    | refine Tr.idxArrO rfl rfl rfl rfl Try.underlying103 Sz65 2 rfl dE ?_
  refine Tr.loadE rfl rfl rfl Try.underlying65 rfl (by first | (simp; done) | (simp; exact hW.2.2) | (simp [Cx.with]; done) | (simp [Cx.with]; omega)) (hW.1 2 _ rfl) ?_
  refine Tr.move rfl rfl rfl ?_
  refine Tr.nilChk rfl rfl rfl ?_
  first
    | refine Tr.idxArr1 rfl rfl rfl rfl Try.underlying103 Sz65 1 rfl dE ?_
    | refine Tr.idxArrO rfl rfl rfl rfl Try.underlying103 Sz65 1 rfl dE ?_
  refine Tr.loadE rfl rfl rfl Try.underlying65 rfl (by first | (simp; done) | (simp; exact hW.2.2) | (simp [Cx.with]; done) | (simp [Cx.with]; omega)) (hW.2 1 _ rfl) ?_
  refine Tr.move rfl rfl rfl ?_
  refine Tr.nilChk rfl rfl rfl ?_
  first
    | refine Tr.idxArr1 rfl rfl rfl rfl Try.underlying103 Sz65 3 rfl dE ?_
    | refine Tr.idxArrO rfl rfl rfl rfl Try.underlying103 Sz65 3 rfl dE ?_
  refine Tr.loadE rfl rfl rfl Try.underlying65 rfl (by first | (simp; done) | (simp; exact hW.2.2) | (simp [Cx.with]; done) | (simp [Cx.with]; omega)) (hW.1 3 _ rfl) ?_
  refine Tr.move rfl rfl rfl ?_
  refine Tr.nilChk rfl rfl rfl ?_
  first
    | refine Tr.idxArr1 rfl rfl rfl rfl Try.underlying103 Sz65 0 rfl dE ?_
    | refine Tr.idxArrO rfl rfl rfl rfl Try.underlying103 Sz65 0 rfl dE ?_
  refine Tr.loadE rfl rfl rfl Try.underlying65 rfl (by first | (simp; done) | (simp; exact hW.2.2) | (simp [Cx.with]; done) | (simp [Cx.with]; omega)) (hW.2 0 _ rfl) ?_
  refine Tr.move rfl rfl rfl ?_
  refine Tr.move rfl rfl rfl ?_
  refine Tr.nilChk rfl rfl rfl ?_
  first
    | refine Tr.idxArr1 rfl rfl rfl rfl Try.underlying103 Sz65 4 rfl dE ?_
    | refine Tr.idxArrO rfl rfl rfl rfl Try.underlying103 Sz65 4 rfl dE ?_
  refine Tr.loadE rfl rfl rfl Try.underlying65 rfl (by first | (simp; done) | (simp; exact hW.2.2) | (simp [Cx.with]; done) | (simp [Cx.with]; omega)) (hW.2 4 _ rfl) ?_
  refine Tr.callV rfl rfl rfl rfl Body97 (wide_plus (0, 0) a.a b.d) (fun _ _ => trivial) ?_
  refine Tr.callV rfl rfl rfl rfl Body97 (wide_plus (plF (0, 0) a.a b.d) a.b b.c) (fun _ _ => trivial) ?_
  refine Tr.callV rfl rfl rfl rfl Body97 (wide_plus (plF (plF (0, 0) a.a b.d) a.b b.c) a.c b.b) (fun _ _ => trivial) ?_
  refine Tr.callV rfl rfl rfl rfl Body97 (wide_plus (plF (plF (plF (0, 0) a.a b.d) a.b b.c) a.c b.b) a.d b.a) (fun _ _ => trivial) ?_
  refine Tr.callV rfl rfl rfl rfl Body97 (wide_plus (plF (plF (plF (plF (0, 0) a.a b.d) a.b b.c) a.c b.b) a.d b.a) (19 * a.e) b.e) (fun _ _ => trivial) ?_
  refine Tr.alloc (cs := ([u64 0] ++ [u64 0])) rfl Zr122 rfl ?_
  intro n12 hn12 hf12
  first
    | refine Tr.storeAll rfl rfl rfl rfl cB Sz122 (by first | (simp [W5.l_length, fb_length, qtA_length, set8_length]; done) | assumption | (rw [bytesV, List.length_map]; assumption)) mM (by first | (simp [W5.l_length, fb_length, qtA_length, set8_length]; done) | assumption | (rw [bytesV, List.length_map]; assumption)) uU ?_
    | refine Tr.storeN _ rfl rfl rfl rfl rfl cB Sz122 (by first | (simp [W5.l_length, fb_length, qtA_length, set8_length]; done) | assumption | (rw [bytesV, List.length_map]; assumption)) mM (by first | (simp [W5.l_length, fb_length, qtA_length, set8_length]; done) | assumption | (rw [bytesV, List.length_map]; assumption)) (by exact rfl) uU ?_
  refine Tr.nil ?_
  refine at_n ?_
  refine Sat.seq ?_
  refine Sat.draw [(0, 0), (0, 1), (0, 2), (0, 3), (1, 4), (0, 5), (0, 6), (0, 7), (1, 8), (0, 10), (0, 11), (0, 12), (1, 13), (0, 14), (0, 15), (0, 16), (1, 17), (0, 19), (0, 20), (0, 21), (1, 22), (0, 23), (0, 24), (0, 25), (1, 26), (0, 28), (0, 29), (0, 30), (1, 31), (0, 32), (0, 33), (0, 34), (1, 35), (0, 37), (0, 38), (0, 39), (1, 40), (0, 41), (0, 42), (0, 43), (1, 44), (3, 9), (3, 18), (3, 27), (3, 36), (3, 45), (2, 46), (4, 47)] Mixed (by kernel_rfl) ?_
  refine Tr.build (cs := [u64 0, u64 0]) rfl rfl rfl (fun w => by kernel_rfl) ?_
  refine Tr.move rfl rfl rfl ?_
  refine Tr.nilChk rfl rfl rfl ?_
  first
    | refine Tr.idxArr1 rfl rfl rfl rfl Try.underlying103 Sz65 0 rfl dE ?_
    | refine Tr.idxArrO rfl rfl rfl rfl Try.underlying103 Sz65 0 rfl dE ?_
  refine Tr.loadE rfl rfl rfl Try.underlying65 rfl (by first | (simp; done) | (simp; exact hW.2.2) | (simp [Cx.with]; done) | (simp [Cx.with]; omega)) (hW.1 0 _ rfl) ?_
  refine Tr.move rfl rfl rfl ?_
  refine Tr.nilChk rfl rfl rfl ?_
  first
    | refine Tr.idxArr1 rfl rfl rfl rfl Try.underlying103 Sz65 4 rfl dE ?_
    | refine Tr.idxArrO rfl rfl rfl rfl Try.underlying103 Sz65 4 rfl dE ?_
  refine Tr.loadE rfl rfl rfl Try.underlying65 rfl (by first | (simp; done) | (simp; exact hW.2.2) | (simp [Cx.with]; done) | (simp [Cx.with]; omega)) (hW.2 4 _ rfl) ?_
  refine Tr.move rfl rfl rfl ?_
  refine Tr.nilChk rfl rfl rfl ?_
  first
    | refine Tr.idxArr1 rfl rfl rfl rfl Try.underlying103 Sz65 1 rfl dE ?_
    | refine Tr.idxArrO rfl rfl rfl rfl Try.underlying103 Sz65 1 rfl dE ?_
  refine Tr.loadE rfl rfl rfl Try.underlying65 rfl (by first | (simp; done) | (simp; exact hW.2.2) | (simp [Cx.with]; done) | (simp [Cx.with]; omega)) (hW.1 1 _ rfl) ?_
  refine Tr.move rfl rfl rfl ?_
  refine Tr.nilChk rfl rfl rfl ?_
  first
    | refine Tr.idxArr1 rfl rfl rfl rfl Try.underlying103 Sz65 3 rfl dE ?_
    | refine Tr.idxArrO rfl rfl rfl rfl Try.underlying103 Sz65 3 rfl dE ?_
  refine Tr.loadE rfl rfl rfl Try.underlying65 rfl (by first | (simp; done) | (simp; exact hW.2.2) | (simp [Cx.with]; done) | (simp [Cx.with]; omega)) (hW.2 3 _ rfl) ?_
  refine Tr.move rfl rfl rfl ?_
  refine Tr.nilChk rfl rfl rfl ?_
  first
    | refine Tr.idxArr1 rfl rfl rfl rfl Try.underlying103 Sz65 2 rfl dE ?_
    | refine Tr.idxArrO rfl rfl rfl rfl Try.underlying103 Sz65 2 rfl dE ?_
  refine Tr.loadE rfl rfl rfl Try.underlying65 rfl (by first | (simp; done) | (simp; exact hW.2.2) | (simp [Cx.with]; done) | (simp [Cx.with]; omega)) (hW.1 2 _ rfl) ?_
  refine Tr.move rfl rfl rfl ?_
  refine Tr.nilChk rfl rfl rfl ?_
  first
    | refine Tr.idxArr1 rfl rfl rfl rfl Try.underlying103 Sz65 2 rfl dE ?_
    | refine Tr.idxArrO rfl rfl rfl rfl Try.underlying103 Sz65 2 rfl dE ?_
  refine Tr.loadE rfl rfl rfl Try.underlying65 rfl (by first | (simp; done) | (simp; exact hW.2.2) | (simp [Cx.with]; done) | (simp [Cx.with]; omega)) (hW.2 2 _ rfl) ?_
  refine Tr.move rfl rfl rfl ?_
  refine Tr.nilChk rfl rfl rfl ?_
  first
    | refine Tr.idxArr1 rfl rfl rfl rfl Try.underlying103 Sz65 3 rfl dE ?_
    | refine Tr.idxArrO rfl rfl rfl rfl Try.underlying103 Sz65 3 rfl dE ?_
  refine Tr.loadE rfl rfl rfl Try.underlying65 rfl (by first | (simp; done) | (simp; exact hW.2.2) | (simp [Cx.with]; done) | (simp [Cx.with]; omega)) (hW.1 3 _ rfl) ?_
  refine Tr.move rfl rfl rfl ?_
  refine Tr.nilChk rfl rfl rfl ?_
  first
    | refine Tr.idxArr1 rfl rfl rfl rfl Try.underlying103 Sz65 1 rfl dE ?_
    | refine Tr.idxArrO rfl rfl rfl rfl Try.underlying103 Sz65 1 rfl dE ?_
  refine Tr.loadE rfl rfl rfl Try.underlying65 rfl (by first | (simp; done) | (simp; exact hW.2.2) | (simp [Cx.with]; done) | (simp [Cx.with]; omega)) (hW.2 1 _ rfl) ?_
  refine Tr.move rfl rfl rfl ?_
  refine Tr.nilChk rfl rfl rfl ?_
  first
    | refine Tr.idxArr1 rfl rfl rfl rfl Try.underlying103 Sz65 4 rfl dE ?_
    | refine Tr.idxArrO rfl rfl rfl rfl Try.underlying103 Sz65 4 rfl dE ?_
  refine Tr.loadE rfl rfl rfl Try.underlying65 rfl (by first | (simp; done) | (simp; exact hW.2.2) | (simp [Cx.with]; done) | (simp [Cx.with]; omega)) (hW.1 4 _ rfl) ?_
  refine Tr.move rfl rfl rfl ?_
  refine Tr.nilChk rfl rfl rfl ?_
  first
    | refine Tr.idxArr1 rfl rfl rfl rfl Try.underlying103 Sz65 0 rfl dE ?_
    | refine Tr.idxArrO rfl rfl rfl rfl Try.underlying103 Sz65 0 rfl dE ?_
  refine Tr.loadE rfl rfl rfl Try.underlying65 rfl (by first | (simp; done) | (simp; exact hW.2.2) | (simp [Cx.with]; done) | (simp [Cx.with]; omega)) (hW.2 0 _ rfl) ?_
  refine Tr.callV rfl rfl rfl rfl Body97 (wide_plus (0, 0) a.a b.e) (fun _ _ => trivial) ?_
  refine Tr.callV rfl rfl rfl rfl Body97 (wide_plus (plF (0, 0) a.a b.e) a.b b.d) (fun _ _ => trivial) ?_
  refine Tr.callV rfl rfl rfl rfl Body97 (wide_plus (plF (plF (0, 0) a.a b.e) a.b b.d) a.c b.c) (fun _ _ => trivial) ?_
  refine Tr.callV rfl rfl rfl rfl Body97 (wide_plus (plF (plF (plF (0, 0) a.a b.e) a.b b.d) a.c b.c) a.d b.b) (fun _ _ => trivial) ?_
  refine Tr.callV rfl rfl rfl rfl Body97 (wide_plus (plF (plF (plF (plF (0, 0) a.a b.e) a.b b.d) a.c b.c) a.d b.b) a.e b.a) (fun _ _ => trivial) ?_
  refine Tr.alloc (cs := ([u64 0] ++ [u64 0])) rfl Zr122 rfl ?_
  intro n13 hn13 hf13
  first
    | refine Tr.storeAll rfl rfl rfl rfl cB Sz122 (by first | (simp [W5.l_length, fb_length, qtA_length, set8_length]; done) | assumption | (rw [bytesV, List.length_map]; assumption)) mM (by first | (simp [W5.l_length, fb_length, qtA_length, set8_length]; done) | assumption | (rw [bytesV, List.length_map]; assumption)) uU ?_
    | refine Tr.storeN _ rfl rfl rfl rfl rfl cB Sz122 (by first | (simp [W5.l_length, fb_length, qtA_length, set8_length]; done) | assumption | (rw [bytesV, List.length_map]; assumption)) mM (by first | (simp [W5.l_length, fb_length, qtA_length, set8_length]; done) | assumption | (rw [bytesV, List.length_map]; assumption)) (by exact rfl) uU ?_
  refine Tr.nil ?_
  refine at_n ?_
  refine Sat.seq ?_
  refine Sat.draw [(0, 0), (1, 1), (0, 2), (1, 3), (0, 7), (1, 8), (0, 9), (1, 10), (0, 13), (1, 14), (0, 15), (1, 16), (0, 19), (1, 20), (0, 21), (1, 22), (0, 25), (1, 26), (0, 27), (1, 28), (3, 4), (0, 5), (0, 6), (3, 11), (0, 12), (3, 17), (0, 18), (3, 23), (0, 24), (3, 29), (0, 30), (0, 31), (3, 32), (4, 33)] Mixed (by kernel_rfl) ?_
  refine Tr.fld rfl rfl rfl Try.underlying122 rfl Sz65 dE _ rfl ?_
  refine Tr.load1 rfl rfl rfl Try.underlying65 rfl mM (by first | rfl | exact get_words (by first | omega | (simp [W5.l_length, fb_length, qtA_length, set8_length]; done) | (simp [W5.l_length, fb_length, qtA_length, set8_length]; omega)) | exact get_bytes (by first | omega | (simp [W5.l_length, fb_length, qtA_length, set8_length]; done) | (simp [W5.l_length, fb_length, qtA_length, set8_length]; omega)) | exact get_ints (by first | omega | (simp [W5.l_length, fb_length, qtA_length, set8_length]; done) | (simp [W5.l_length, fb_length, qtA_length, set8_length]; omega))) ?_
  refine Tr.and_u64 rfl rfl rfl (show evIn _ _ = some (u64 2251799813685247) from rfl) ?_
  first
    | refine Tr.loadAll rfl rfl rfl Try.underlying122 rfl Sz122 mM (by first | (simp [W5.l_length, fb_length, qtA_length, set8_length]; done) | assumption | (rw [bytesV, List.length_map]; assumption)) ?_
    | refine Tr.loadN _ rfl rfl rfl Try.underlying122 rfl Sz122 mM (by exact rfl) (by first | (simp [W5.l_length, fb_length, qtA_length, set8_length]; done) | assumption | (rw [bytesV, List.length_map]; assumption)) ?_
  refine Tr.fld rfl rfl rfl Try.underlying122 rfl Sz65 dE _ rfl ?_
  refine Tr.load1 rfl rfl rfl Try.underlying65 rfl mM (by first | rfl | exact get_words (by first | omega | (simp [W5.l_length, fb_length, qtA_length, set8_length]; done) | (simp [W5.l_length, fb_length, qtA_length, set8_length]; omega)) | exact get_bytes (by first | omega | (simp [W5.l_length, fb_length, qtA_length, set8_length]; done) | (simp [W5.l_length, fb_length, qtA_length, set8_length]; omega)) | exact get_ints (by first | omega | (simp [W5.l_length, fb_length, qtA_length, set8_length]; done) | (simp [W5.l_length, fb_length, qtA_length, set8_length]; omega))) ?_
  refine Tr.and_u64 rfl rfl rfl (show evIn _ _ = some (u64 2251799813685247) from rfl) ?_
  first
    | refine Tr.loadAll rfl rfl rfl Try.underlying122 rfl Sz122 mM (by first | (simp [W5.l_length, fb_length, qtA_length, set8_length]; done) | assumption | (rw [bytesV, List.length_map]; assumption)) ?_
    | refine Tr.loadN _ rfl rfl rfl Try.underlying122 rfl Sz122 mM (by exact rfl) (by first | (simp [W5.l_length, fb_length, qtA_length, set8_length]; done) | assumption | (rw [bytesV, List.length_map]; assumption)) ?_
  refine Tr.fld rfl rfl rfl Try.underlying122 rfl Sz65 dE _ rfl ?_
  refine Tr.load1 rfl rfl rfl Try.underlying65 rfl mM (by first | rfl | exact get_words (by first | omega | (simp [W5.l_length, fb_length, qtA_length, set8_length]; done) | (simp [W5.l_length, fb_length, qtA_length, set8_length]; omega)) | exact get_bytes (by first | omega | (simp [W5.l_length, fb_length, qtA_length, set8_length]; done) | (simp [W5.l_length, fb_length, qtA_length, set8_length]; omega)) | exact get_ints (by first | omega | (simp [W5.l_length, fb_length, qtA_length, set8_length]; done) | (simp [W5.l_length, fb_length, qtA_length, set8_length]; omega))) ?_
  refine Tr.and_u64 rfl rfl rfl (show evIn _ _ = some (u64 2251799813685247) from rfl) ?_
  first
    | refine Tr.loadAll rfl rfl rfl Try.underlying122 rfl Sz122 mM (by first | (simp [W5.l_length, fb_length, qtA_length, set8_length]; done) | assumption | (rw [bytesV, List.length_map]; assumption)) ?_
    | refine Tr.loadN _ rfl rfl rfl Try.underlying122 rfl Sz122 mM (by exact rfl) (by first | (simp [W5.l_length, fb_length, qtA_length, set8_length]; done) | assumption | (rw [bytesV, List.length_map]; assumption)) ?_
  refine Tr.fld rfl rfl rfl Try.underlying122 rfl Sz65 dE _ rfl ?_
  refine Tr.load1 rfl rfl rfl Try.underlying65 rfl mM (by first | rfl | exact get_words (by first | omega | (simp [W5.l_length, fb_length, qtA_length, set8_length]; done) | (simp [W5.l_length, fb_length, qtA_length, set8_length]; omega)) | exact get_bytes (by first | omega | (simp [W5.l_length, fb_length, qtA_length, set8_length]; done) | (simp [W5.l_length, fb_length, qtA_length, set8_length]; omega)) | exact get_ints (by first | omega | (simp [W5.l_length, fb_length, qtA_length, set8_length]; done) | (simp [W5.l_length, fb_length, qtA_length, set8_length]; omega))) ?_
  refine Tr.and_u64 rfl rfl rfl (show evIn _ _ = some (u64 2251799813685247) from rfl) ?_
  first
    | refine Tr.loadAll rfl rfl rfl Try.underlying122 rfl Sz122 mM (by first | (simp [W5.l_length, fb_length, qtA_length, set8_length]; done) | assumption | (rw [bytesV, List.length_map]; assumption)) ?_
    | refine Tr.loadN _ rfl rfl rfl Try.underlying122 rfl Sz122 mM (by exact rfl) (by first | (simp [W5.l_length, fb_length, qtA_length, set8_length]; done) | assumption | (rw [bytesV, List.length_map]; assumption)) ?_
  refine Tr.fld rfl rfl rfl Try.underlying122 rfl Sz65 dE _ rfl ?_
  refine Tr.load1 rfl rfl rfl Try.underlying65 rfl mM (by first | rfl | exact get_words (by first | omega | (simp [W5.l_length, fb_length, qtA_length, set8_length]; done) | (simp [W5.l_length, fb_length, qtA_length, set8_length]; omega)) | exact get_bytes (by first | omega | (simp [W5.l_length, fb_length, qtA_length, set8_length]; done) | (simp [W5.l_length, fb_length, qtA_length, set8_length]; omega)) | exact get_ints (by first | omega | (simp [W5.l_length, fb_length, qtA_length, set8_length]; done) | (simp [W5.l_length, fb_length, qtA_length, set8_length]; omega))) ?_
  refine Tr.and_u64 rfl rfl rfl (show evIn _ _ = some (u64 2251799813685247) from rfl) ?_
  first
    | refine Tr.loadAll rfl rfl rfl Try.underlying122 rfl Sz122 mM (by first | (simp [W5.l_length, fb_length, qtA_length, set8_length]; done) | assumption | (rw [bytesV, List.length_map]; assumption)) ?_
    | refine Tr.loadN _ rfl rfl rfl Try.underlying122 rfl Sz122 mM (by exact rfl) (by first | (simp [W5.l_length, fb_length, qtA_length, set8_length]; done) | assumption | (rw [bytesV, List.length_map]; assumption)) ?_
  refine Tr.callV rfl rfl rfl rfl Body98 (wide_upper (s4F a b)) (fun _ _ => trivial) ?_
  refine Tr.mul_u64 rfl rfl (show evIn _ _ = some (u64 19) from rfl) rfl ?_
  refine Tr.add_u64 rfl rfl rfl rfl ?_
  refine Tr.callV rfl rfl rfl rfl Body98 (wide_upper (s0F a b)) (fun _ _ => trivial) ?_
  refine Tr.add_u64 rfl rfl rfl rfl ?_
  refine Tr.callV rfl rfl rfl rfl Body98 (wide_upper (s1F a b)) (fun _ _ => trivial) ?_
  refine Tr.add_u64 rfl rfl rfl rfl ?_
  refine Tr.callV rfl rfl rfl rfl Body98 (wide_upper (s2F a b)) (fun _ _ => trivial) ?_
  refine Tr.add_u64 rfl rfl rfl rfl ?_
  refine Tr.callV rfl rfl rfl rfl Body98 (wide_upper (s3F a b)) (fun _ _ => trivial) ?_
  refine Tr.add_u64 rfl rfl rfl rfl ?_
  refine Tr.build (cs := wordsV (⟨((s0F a b).2 &&& LOW) + 19 * upF (s4F a b), ((s1F a b).2 &&& LOW) + upF (s0F a b), ((s2F a b).2 &&& LOW) + upF (s1F a b), ((s3F a b).2 &&& LOW) + upF (s2F a b), ((s4F a b).2 &&& LOW) + upF (s3F a b)⟩ : W5).l) rfl rfl rfl (fun w => by kernel_rfl) ?_
  refine Tr.callV rfl rfl rfl rfl Body99 (field_carried ⟨((s0F a b).2 &&& LOW) + 19 * upF (s4F a b), ((s1F a b).2 &&& LOW) + upF (s0F a b), ((s2F a b).2 &&& LOW) + upF (s1F a b), ((s3F a b).2 &&& LOW) + upF (s2F a b), ((s4F a b).2 &&& LOW) + upF (s3F a b)⟩) (fun _ _ => trivial) ?_
  first
    | refine Tr.storeAll rfl rfl rfl rfl cB Sz103 (by first | (simp [W5.l_length, fb_length, qtA_length, set8_length]; done) | assumption | (rw [bytesV, List.length_map]; assumption)) mM (by first | (simp [W5.l_length, fb_length, qtA_length, set8_length]; done) | assumption | (rw [bytesV, List.length_map]; assumption)) uU ?_
    | refine Tr.storeN _ rfl rfl rfl rfl rfl cB Sz103 (by first | (simp [W5.l_length, fb_length, qtA_length, set8_length]; done) | assumption | (rw [bytesV, List.length_map]; assumption)) mM (by first | (simp [W5.l_length, fb_length, qtA_length, set8_length]; done) | assumption | (rw [bytesV, List.length_map]; assumption)) (by exact rfl) uU ?_
  refine Tr.nil ?_
  refine at_n ?_
  refine Sat.ret ?_
  refine en_r ?_
  refine ⟨_, [], res_cell rfl rfl Try.underlying103 rfl Sz103 mM (by simp [W5.l_length, fb_length, qtA_length, set8_length]), sP, sP, ?_, rfl⟩
  rfl

set_option maxRecDepth 100000 in
set_option maxHeartbeats 4000000 in
theorem field_store (w : W5) : Meets Try.prog 82 [agg (wordsV w.l)] [] (fun _ => True) (fun v out => v = agg (bytesV (fb (fe w.v))) ∧ out = []) := by
  intro W hW
  refine calls_of (hp0 := []) Try.func82 rfl 88 Try.ntmps82 rfl (HRep.nil _) ?_
  refine Sat.seq ?_
  refine Sat.region ?_
  refine Tr.boxA rfl rfl ?_
  intro n1 hn1 hf1
  refine Tr.alloc (cs := (bytesV (List.replicate 32 0))) rfl Zr30 rfl ?_
  intro n2 hn2 hf2
  refine Tr.nil ?_
  refine at_n ?_
  refine Sat.seq ?_
  refine Sat.region ?_
  first
    | refine Tr.loadAll rfl rfl rfl Try.underlying103 rfl Sz103 mM (by first | (simp [W5.l_length, fb_length, qtA_length, set8_length, by8_length]; done) | assumption | (rw [bytesV, List.length_map]; assumption)) ?_
    | refine Tr.loadN _ rfl rfl rfl Try.underlying103 rfl Sz103 mM (by exact rfl) (by first | (simp [W5.l_length, fb_length, qtA_length, set8_length, by8_length]; done) | assumption | (rw [bytesV, List.length_map]; assumption)) ?_
  refine Tr.callV rfl rfl rfl rfl Body99 (field_carried w) (fun _ _ => trivial) ?_
  first
    | refine Tr.storeAll rfl rfl rfl rfl cB Sz103 (by first | (simp [W5.l_length, fb_length, qtA_length, set8_length, by8_length]; done) | assumption | (rw [bytesV, List.length_map]; assumption)) mM (by first | (simp [W5.l_length, fb_length, qtA_length, set8_length, by8_length]; done) | assumption | (rw [bytesV, List.length_map]; assumption)) uU ?_
    | refine Tr.storeN _ rfl rfl rfl rfl rfl cB Sz103 (by first | (simp [W5.l_length, fb_length, qtA_length, set8_length, by8_length]; done) | assumption | (rw [bytesV, List.length_map]; assumption)) mM (by first | (simp [W5.l_length, fb_length, qtA_length, set8_length, by8_length]; done) | assumption | (rw [bytesV, List.length_map]; assumption)) (by exact rfl) uU ?_
  refine Tr.nil ?_
  refine at_n ?_
  refine Sat.seq ?_
  refine Sat.region ?_
  first
    | refine Tr.idxArr1 rfl rfl rfl rfl Try.underlying103 Sz65 0 rfl dE ?_
    | refine Tr.idxArrO rfl rfl rfl rfl Try.underlying103 Sz65 0 rfl dE ?_
  refine Tr.load1 rfl rfl rfl Try.underlying65 rfl mM (by first | rfl | exact get_words (by first | omega | (simp [W5.l_length, fb_length, qtA_length, set8_length, by8_length]; done) | (simp [W5.l_length, fb_length, qtA_length, set8_length, by8_length]; omega)) | exact get_bytes (by first | omega | (simp [W5.l_length, fb_length, qtA_length, set8_length, by8_length]; done) | (simp [W5.l_length, fb_length, qtA_length, set8_length, by8_length]; omega)) | exact get_ints (by first | omega | (simp [W5.l_length, fb_length, qtA_length, set8_length, by8_length]; done) | (simp [W5.l_length, fb_length, qtA_length, set8_length, by8_length]; omega))) ?_
  refine Tr.add_u64 rfl rfl rfl (show evIn _ _ = some (u64 19) from rfl) ?_
  refine Tr.shr_u64 rfl rfl rfl rfl 51 rfl dE ?_
  refine Tr.assign rfl rfl rfl ?_
  refine Tr.nil ?_
  refine at_n ?_
  refine Sat.seq ?_
  refine Sat.seq ?_
  refine Sat.region ?_
  refine Tr.assign rfl rfl rfl ?_
  refine Tr.nil ?_
  refine at_n ?_
  refine Sat.block ?_
  refine Sat.rounds 5 (SRounds.more ?_)
  refine Sat.seq ?_
  refine Sat.seq ?_
  refine Sat.region ?_
  refine Tr.move rfl rfl rfl ?_
  refine Tr.lss rfl rfl rfl rfl rfl ?_
  refine Tr.nil ?_
  refine at_n ?_
  refine Sat.cond_t rfl (rfl) ?_
  refine Sat.skip ?_
  refine at_n ?_
  refine Sat.seq ?_
  refine Sat.block ?_
  refine Sat.region ?_
  refine Tr.move rfl rfl rfl ?_
  first
    | refine Tr.idxArr1 rfl rfl rfl rfl Try.underlying103 Sz65 1 rfl oM ?_
    | refine Tr.idxArrO rfl rfl rfl rfl Try.underlying103 Sz65 1 rfl oM ?_
  refine Tr.load1 rfl rfl rfl Try.underlying65 rfl mM (by first | rfl | exact get_words (by first | omega | (simp [W5.l_length, fb_length, qtA_length, set8_length, by8_length]; done) | (simp [W5.l_length, fb_length, qtA_length, set8_length, by8_length]; omega)) | exact get_bytes (by first | omega | (simp [W5.l_length, fb_length, qtA_length, set8_length, by8_length]; done) | (simp [W5.l_length, fb_length, qtA_length, set8_length, by8_length]; omega)) | exact get_ints (by first | omega | (simp [W5.l_length, fb_length, qtA_length, set8_length, by8_length]; done) | (simp [W5.l_length, fb_length, qtA_length, set8_length, by8_length]; omega))) ?_
  refine Tr.move rfl rfl rfl ?_
  refine Tr.add_u64 rfl rfl rfl rfl ?_
  refine Tr.shr_u64 rfl rfl rfl rfl 51 rfl dE ?_
  refine Tr.assign rfl rfl rfl ?_
  refine Tr.nil ?_
  refine bl_n ?_
  refine at_n ?_
  refine Sat.region ?_
  refine Tr.move rfl rfl rfl ?_
  refine Tr.add_i64 rfl rfl rfl rfl oM ?_
  refine Tr.assign rfl rfl rfl ?_
  refine Tr.nil ?_
  refine at_n (SRounds.more ?_)
  refine Sat.seq ?_
  refine Sat.seq ?_
  refine Sat.region ?_
  refine Tr.move rfl rfl rfl ?_
  refine Tr.lss rfl rfl rfl rfl rfl ?_
  refine Tr.nil ?_
  refine at_n ?_
  refine Sat.cond_t rfl (rfl) ?_
  refine Sat.skip ?_
  refine at_n ?_
  refine Sat.seq ?_
  refine Sat.block ?_
  refine Sat.region ?_
  refine Tr.move rfl rfl rfl ?_
  first
    | refine Tr.idxArr1 rfl rfl rfl rfl Try.underlying103 Sz65 2 rfl oM ?_
    | refine Tr.idxArrO rfl rfl rfl rfl Try.underlying103 Sz65 2 rfl oM ?_
  refine Tr.load1 rfl rfl rfl Try.underlying65 rfl mM (by first | rfl | exact get_words (by first | omega | (simp [W5.l_length, fb_length, qtA_length, set8_length, by8_length]; done) | (simp [W5.l_length, fb_length, qtA_length, set8_length, by8_length]; omega)) | exact get_bytes (by first | omega | (simp [W5.l_length, fb_length, qtA_length, set8_length, by8_length]; done) | (simp [W5.l_length, fb_length, qtA_length, set8_length, by8_length]; omega)) | exact get_ints (by first | omega | (simp [W5.l_length, fb_length, qtA_length, set8_length, by8_length]; done) | (simp [W5.l_length, fb_length, qtA_length, set8_length, by8_length]; omega))) ?_
  refine Tr.move rfl rfl rfl ?_
  refine Tr.add_u64 rfl rfl rfl rfl ?_
  refine Tr.shr_u64 rfl rfl rfl rfl 51 rfl dE ?_
  refine Tr.assign rfl rfl rfl ?_
  refine Tr.nil ?_
  refine bl_n ?_
  refine at_n ?_
  refine Sat.region ?_
  refine Tr.move rfl rfl rfl ?_
  refine Tr.add_i64 rfl rfl rfl rfl oM ?_
  refine Tr.assign rfl rfl rfl ?_
  refine Tr.nil ?_
  refine at_n (SRounds.more ?_)
  refine Sat.seq ?_
  refine Sat.seq ?_
  refine Sat.region ?_
  refine Tr.move rfl rfl rfl ?_
  refine Tr.lss rfl rfl rfl rfl rfl ?_
  refine Tr.nil ?_
  refine at_n ?_
  refine Sat.cond_t rfl (rfl) ?_
  refine Sat.skip ?_
  refine at_n ?_
  refine Sat.seq ?_
  refine Sat.block ?_
  refine Sat.region ?_
  refine Tr.move rfl rfl rfl ?_
  first
    | refine Tr.idxArr1 rfl rfl rfl rfl Try.underlying103 Sz65 3 rfl oM ?_
    | refine Tr.idxArrO rfl rfl rfl rfl Try.underlying103 Sz65 3 rfl oM ?_
  refine Tr.load1 rfl rfl rfl Try.underlying65 rfl mM (by first | rfl | exact get_words (by first | omega | (simp [W5.l_length, fb_length, qtA_length, set8_length, by8_length]; done) | (simp [W5.l_length, fb_length, qtA_length, set8_length, by8_length]; omega)) | exact get_bytes (by first | omega | (simp [W5.l_length, fb_length, qtA_length, set8_length, by8_length]; done) | (simp [W5.l_length, fb_length, qtA_length, set8_length, by8_length]; omega)) | exact get_ints (by first | omega | (simp [W5.l_length, fb_length, qtA_length, set8_length, by8_length]; done) | (simp [W5.l_length, fb_length, qtA_length, set8_length, by8_length]; omega))) ?_
  refine Tr.move rfl rfl rfl ?_
  refine Tr.add_u64 rfl rfl rfl rfl ?_
  refine Tr.shr_u64 rfl rfl rfl rfl 51 rfl dE ?_
  refine Tr.assign rfl rfl rfl ?_
  refine Tr.nil ?_
  refine bl_n ?_
  refine at_n ?_
  refine Sat.region ?_
  refine Tr.move rfl rfl rfl ?_
  refine Tr.add_i64 rfl rfl rfl rfl oM ?_
  refine Tr.assign rfl rfl rfl ?_
  refine Tr.nil ?_
  refine at_n (SRounds.more ?_)
  refine Sat.seq ?_
  refine Sat.seq ?_
  refine Sat.region ?_
  refine Tr.move rfl rfl rfl ?_
  refine Tr.lss rfl rfl rfl rfl rfl ?_
  refine Tr.nil ?_
  refine at_n ?_
  refine Sat.cond_t rfl (rfl) ?_
  refine Sat.skip ?_
  refine at_n ?_
  refine Sat.seq ?_
  refine Sat.block ?_
  refine Sat.region ?_
  refine Tr.move rfl rfl rfl ?_
  first
    | refine Tr.idxArr1 rfl rfl rfl rfl Try.underlying103 Sz65 4 rfl oM ?_
    | refine Tr.idxArrO rfl rfl rfl rfl Try.underlying103 Sz65 4 rfl oM ?_
  refine Tr.load1 rfl rfl rfl Try.underlying65 rfl mM (by first | rfl | exact get_words (by first | omega | (simp [W5.l_length, fb_length, qtA_length, set8_length, by8_length]; done) | (simp [W5.l_length, fb_length, qtA_length, set8_length, by8_length]; omega)) | exact get_bytes (by first | omega | (simp [W5.l_length, fb_length, qtA_length, set8_length, by8_length]; done) | (simp [W5.l_length, fb_length, qtA_length, set8_length, by8_length]; omega)) | exact get_ints (by first | omega | (simp [W5.l_length, fb_length, qtA_length, set8_length, by8_length]; done) | (simp [W5.l_length, fb_length, qtA_length, set8_length, by8_length]; omega))) ?_
  refine Tr.move rfl rfl rfl ?_
  refine Tr.add_u64 rfl rfl rfl rfl ?_
  refine Tr.shr_u64 rfl rfl rfl rfl 51 rfl dE ?_
  refine Tr.assign rfl rfl rfl ?_
  refine Tr.nil ?_
  refine bl_n ?_
  refine at_n ?_
  refine Sat.region ?_
  refine Tr.move rfl rfl rfl ?_
  refine Tr.add_i64 rfl rfl rfl rfl oM ?_
  refine Tr.assign rfl rfl rfl ?_
  refine Tr.nil ?_
  refine at_n (SRounds.more ?_)
  refine Sat.seq ?_
  refine Sat.seq ?_
  refine Sat.region ?_
  refine Tr.move rfl rfl rfl ?_
  refine Tr.lss rfl rfl rfl rfl rfl ?_
  refine Tr.nil ?_
  refine at_n ?_
  refine Sat.cond_f rfl (rfl) ?_
  refine Sat.exit ?_
  refine at_x ?_
  refine at_x ?_
  refine bl_h ?_
  refine at_n ?_
  refine Sat.seq ?_
  refine Sat.region ?_
  first
    | refine Tr.idxArr1 rfl rfl rfl rfl Try.underlying103 Sz65 0 rfl dE ?_
    | refine Tr.idxArrO rfl rfl rfl rfl Try.underlying103 Sz65 0 rfl dE ?_
  refine Tr.load1 rfl rfl rfl Try.underlying65 rfl mM (by first | rfl | exact get_words (by first | omega | (simp [W5.l_length, fb_length, qtA_length, set8_length, by8_length]; done) | (simp [W5.l_length, fb_length, qtA_length, set8_length, by8_length]; omega)) | exact get_bytes (by first | omega | (simp [W5.l_length, fb_length, qtA_length, set8_length, by8_length]; done) | (simp [W5.l_length, fb_length, qtA_length, set8_length, by8_length]; omega)) | exact get_ints (by first | omega | (simp [W5.l_length, fb_length, qtA_length, set8_length, by8_length]; done) | (simp [W5.l_length, fb_length, qtA_length, set8_length, by8_length]; omega))) ?_
  refine Tr.move rfl rfl rfl ?_
  refine Tr.mul_u64 rfl rfl (show evIn _ _ = some (u64 19) from rfl) rfl ?_
  refine Tr.add_u64 rfl rfl rfl rfl ?_
  first
    | refine Tr.idxArr1 rfl rfl rfl rfl Try.underlying103 Sz65 0 rfl dE ?_
    | refine Tr.idxArrO rfl rfl rfl rfl Try.underlying103 Sz65 0 rfl dE ?_
  refine Tr.store1 rfl rfl rfl rfl rfl Sz65 mM (by first | (simp [W5.l_length, fb_length, qtA_length, set8_length, by8_length]; done) | (simp [W5.l_length, fb_length, qtA_length, set8_length, by8_length]; omega)) sT uU ?_
  refine Tr.nil ?_
  refine at_n ?_
  refine Sat.seq ?_
  refine Sat.seq ?_
  refine Sat.region ?_
  refine Tr.move rfl rfl rfl ?_
  refine Tr.nil ?_
  refine at_n ?_
  refine Sat.block ?_
  refine Sat.rounds 5 (SRounds.more ?_)
  refine Sat.seq ?_
  refine Sat.region ?_
  refine Tr.lss rfl rfl rfl rfl rfl ?_
  refine Tr.nil ?_
  refine at_n ?_
  refine Sat.seq ?_
  refine Sat.cond_t rfl (rfl) ?_
  refine Sat.skip ?_
  refine at_n ?_
  refine Sat.seq ?_
  refine Sat.block ?_
  refine Sat.seq ?_
  refine Sat.region ?_
  refine Tr.move rfl rfl rfl ?_
  refine Tr.assign rfl rfl rfl ?_
  refine Tr.nil ?_
  refine at_n ?_
  refine Sat.seq ?_
  refine Sat.draw [(0, 0), (0, 1), (0, 2), (1, 3), (0, 4), (0, 5), (1, 6), (0, 7), (0, 8), (0, 9), (4, 10)] Mixed (by kernel_rfl) ?_
  refine Tr.move rfl rfl rfl ?_
  refine Tr.add_i64 rfl rfl rfl rfl oM ?_
  first
    | refine Tr.idxArr1 rfl rfl rfl rfl Try.underlying103 Sz65 1 rfl oM ?_
    | refine Tr.idxArrO rfl rfl rfl rfl Try.underlying103 Sz65 1 rfl oM ?_
  refine Tr.load1 rfl rfl rfl Try.underlying65 rfl mM (by first | rfl | exact get_words (by first | omega | (simp [W5.l_length, fb_length, qtA_length, set8_length, by8_length]; done) | (simp [W5.l_length, fb_length, qtA_length, set8_length, by8_length]; omega)) | exact get_bytes (by first | omega | (simp [W5.l_length, fb_length, qtA_length, set8_length, by8_length]; done) | (simp [W5.l_length, fb_length, qtA_length, set8_length, by8_length]; omega)) | exact get_ints (by first | omega | (simp [W5.l_length, fb_length, qtA_length, set8_length, by8_length]; done) | (simp [W5.l_length, fb_length, qtA_length, set8_length, by8_length]; omega))) ?_
  refine Tr.move rfl rfl rfl ?_
  first
    | refine Tr.idxArr1 rfl rfl rfl rfl Try.underlying103 Sz65 0 rfl oM ?_
    | refine Tr.idxArrO rfl rfl rfl rfl Try.underlying103 Sz65 0 rfl oM ?_
  refine Tr.load1 rfl rfl rfl Try.underlying65 rfl mM (by first | rfl | exact get_words (by first | omega | (simp [W5.l_length, fb_length, qtA_length, set8_length, by8_length]; done) | (simp [W5.l_length, fb_length, qtA_length, set8_length, by8_length]; omega)) | exact get_bytes (by first | omega | (simp [W5.l_length, fb_length, qtA_length, set8_length, by8_length]; done) | (simp [W5.l_length, fb_length, qtA_length, set8_length, by8_length]; omega)) | exact get_ints (by first | omega | (simp [W5.l_length, fb_length, qtA_length, set8_length, by8_length]; done) | (simp [W5.l_length, fb_length, qtA_length, set8_length, by8_length]; omega))) ?_
  refine Tr.shr_u64 rfl rfl rfl rfl 51 rfl dE ?_
  refine Tr.add_u64 rfl rfl rfl rfl ?_
  first
    | refine Tr.idxArr1 rfl rfl rfl rfl Try.underlying103 Sz65 1 rfl oM ?_
    | refine Tr.idxArrO rfl rfl rfl rfl Try.underlying103 Sz65 1 rfl oM ?_
  refine Tr.store1 rfl rfl rfl rfl rfl Sz65 mM (by first | (simp [W5.l_length, fb_length, qtA_length, set8_length, by8_length]; done) | (simp [W5.l_length, fb_length, qtA_length, set8_length, by8_length]; omega)) sT uU ?_
  refine Tr.nil ?_
  refine at_n ?_
  refine Sat.region ?_
  refine Tr.move rfl rfl rfl ?_
  first
    | refine Tr.idxArr1 rfl rfl rfl rfl Try.underlying103 Sz65 0 rfl oM ?_
    | refine Tr.idxArrO rfl rfl rfl rfl Try.underlying103 Sz65 0 rfl oM ?_
  refine Tr.load1 rfl rfl rfl Try.underlying65 rfl mM (by first | rfl | exact get_words (by first | omega | (simp [W5.l_length, fb_length, qtA_length, set8_length, by8_length]; done) | (simp [W5.l_length, fb_length, qtA_length, set8_length, by8_length]; omega)) | exact get_bytes (by first | omega | (simp [W5.l_length, fb_length, qtA_length, set8_length, by8_length]; done) | (simp [W5.l_length, fb_length, qtA_length, set8_length, by8_length]; omega)) | exact get_ints (by first | omega | (simp [W5.l_length, fb_length, qtA_length, set8_length, by8_length]; done) | (simp [W5.l_length, fb_length, qtA_length, set8_length, by8_length]; omega))) ?_
  refine Tr.and_u64 rfl rfl rfl (show evIn _ _ = some (u64 2251799813685247) from rfl) ?_
  first
    | refine Tr.idxArr1 rfl rfl rfl rfl Try.underlying103 Sz65 0 rfl oM ?_
    | refine Tr.idxArrO rfl rfl rfl rfl Try.underlying103 Sz65 0 rfl oM ?_
  refine Tr.store1 rfl rfl rfl rfl rfl Sz65 mM (by first | (simp [W5.l_length, fb_length, qtA_length, set8_length, by8_length]; done) | (simp [W5.l_length, fb_length, qtA_length, set8_length, by8_length]; omega)) sT uU ?_
  refine Tr.nil ?_
  refine bl_n ?_
  refine at_n ?_
  refine Sat.region ?_
  refine Tr.add_i64 rfl rfl rfl rfl oM ?_
  refine Tr.move rfl rfl rfl ?_
  refine Tr.nil ?_
  refine at_n (SRounds.more ?_)
  refine Sat.seq ?_
  refine Sat.region ?_
  refine Tr.lss rfl rfl rfl rfl rfl ?_
  refine Tr.nil ?_
  refine at_n ?_
  refine Sat.seq ?_
  refine Sat.cond_t rfl (rfl) ?_
  refine Sat.skip ?_
  refine at_n ?_
  refine Sat.seq ?_
  refine Sat.block ?_
  refine Sat.seq ?_
  refine Sat.region ?_
  refine Tr.move rfl rfl rfl ?_
  refine Tr.assign rfl rfl rfl ?_
  refine Tr.nil ?_
  refine at_n ?_
  refine Sat.seq ?_
  refine Sat.draw [(0, 0), (0, 1), (0, 2), (1, 3), (0, 4), (0, 5), (1, 6), (0, 7), (0, 8), (0, 9), (4, 10)] Mixed (by kernel_rfl) ?_
  refine Tr.move rfl rfl rfl ?_
  refine Tr.add_i64 rfl rfl rfl rfl oM ?_
  first
    | refine Tr.idxArr1 rfl rfl rfl rfl Try.underlying103 Sz65 2 rfl oM ?_
    | refine Tr.idxArrO rfl rfl rfl rfl Try.underlying103 Sz65 2 rfl oM ?_
  refine Tr.load1 rfl rfl rfl Try.underlying65 rfl mM (by first | rfl | exact get_words (by first | omega | (simp [W5.l_length, fb_length, qtA_length, set8_length, by8_length]; done) | (simp [W5.l_length, fb_length, qtA_length, set8_length, by8_length]; omega)) | exact get_bytes (by first | omega | (simp [W5.l_length, fb_length, qtA_length, set8_length, by8_length]; done) | (simp [W5.l_length, fb_length, qtA_length, set8_length, by8_length]; omega)) | exact get_ints (by first | omega | (simp [W5.l_length, fb_length, qtA_length, set8_length, by8_length]; done) | (simp [W5.l_length, fb_length, qtA_length, set8_length, by8_length]; omega))) ?_
  refine Tr.move rfl rfl rfl ?_
  first
    | refine Tr.idxArr1 rfl rfl rfl rfl Try.underlying103 Sz65 1 rfl oM ?_
    | refine Tr.idxArrO rfl rfl rfl rfl Try.underlying103 Sz65 1 rfl oM ?_
  refine Tr.load1 rfl rfl rfl Try.underlying65 rfl mM (by first | rfl | exact get_words (by first | omega | (simp [W5.l_length, fb_length, qtA_length, set8_length, by8_length]; done) | (simp [W5.l_length, fb_length, qtA_length, set8_length, by8_length]; omega)) | exact get_bytes (by first | omega | (simp [W5.l_length, fb_length, qtA_length, set8_length, by8_length]; done) | (simp [W5.l_length, fb_length, qtA_length, set8_length, by8_length]; omega)) | exact get_ints (by first | omega | (simp [W5.l_length, fb_length, qtA_length, set8_length, by8_length]; done) | (simp [W5.l_length, fb_length, qtA_length, set8_length, by8_length]; omega))) ?_
  refine Tr.shr_u64 rfl rfl rfl rfl 51 rfl dE ?_
  refine Tr.add_u64 rfl rfl rfl rfl ?_
  first
    | refine Tr.idxArr1 rfl rfl rfl rfl Try.underlying103 Sz65 2 rfl oM ?_
    | refine Tr.idxArrO rfl rfl rfl rfl Try.underlying103 Sz65 2 rfl oM ?_
  refine Tr.store1 rfl rfl rfl rfl rfl Sz65 mM (by first | (simp [W5.l_length, fb_length, qtA_length, set8_length, by8_length]; done) | (simp [W5.l_length, fb_length, qtA_length, set8_length, by8_length]; omega)) sT uU ?_
  refine Tr.nil ?_
  refine at_n ?_
  refine Sat.region ?_
  refine Tr.move rfl rfl rfl ?_
  first
    | refine Tr.idxArr1 rfl rfl rfl rfl Try.underlying103 Sz65 1 rfl oM ?_
    | refine Tr.idxArrO rfl rfl rfl rfl Try.underlying103 Sz65 1 rfl oM ?_
  refine Tr.load1 rfl rfl rfl Try.underlying65 rfl mM (by first | rfl | exact get_words (by first | omega | (simp [W5.l_length, fb_length, qtA_length, set8_length, by8_length]; done) | (simp [W5.l_length, fb_length, qtA_length, set8_length, by8_length]; omega)) | exact get_bytes (by first | omega | (simp [W5.l_length, fb_length, qtA_length, set8_length, by8_length]; done) | (simp [W5.l_length, fb_length, qtA_length, set8_length, by8_length]; omega)) | exact get_ints (by first | omega | (simp [W5.l_length, fb_length, qtA_length, set8_length, by8_length]; done) | (simp [W5.l_length, fb_length, qtA_length, set8_length, by8_length]; omega))) ?_
  refine Tr.and_u64 rfl rfl rfl (show evIn _ _ = some (u64 2251799813685247) from rfl) ?_
  first
    | refine Tr.idxArr1 rfl rfl rfl rfl Try.underlying103 Sz65 1 rfl oM ?_
    | refine Tr.idxArrO rfl rfl rfl rfl Try.underlying103 Sz65 1 rfl oM ?_
  refine Tr.store1 rfl rfl rfl rfl rfl Sz65 mM (by first | (simp [W5.l_length, fb_length, qtA_length, set8_length, by8_length]; done) | (simp [W5.l_length, fb_length, qtA_length, set8_length, by8_length]; omega)) sT uU ?_
  refine Tr.nil ?_
  refine bl_n ?_
  refine at_n ?_
  refine Sat.region ?_
  refine Tr.add_i64 rfl rfl rfl rfl oM ?_
  refine Tr.move rfl rfl rfl ?_
  refine Tr.nil ?_
  refine at_n (SRounds.more ?_)
  refine Sat.seq ?_
  refine Sat.region ?_
  refine Tr.lss rfl rfl rfl rfl rfl ?_
  refine Tr.nil ?_
  refine at_n ?_
  refine Sat.seq ?_
  refine Sat.cond_t rfl (rfl) ?_
  refine Sat.skip ?_
  refine at_n ?_
  refine Sat.seq ?_
  refine Sat.block ?_
  refine Sat.seq ?_
  refine Sat.region ?_
  refine Tr.move rfl rfl rfl ?_
  refine Tr.assign rfl rfl rfl ?_
  refine Tr.nil ?_
  refine at_n ?_
  refine Sat.seq ?_
  refine Sat.draw [(0, 0), (0, 1), (0, 2), (1, 3), (0, 4), (0, 5), (1, 6), (0, 7), (0, 8), (0, 9), (4, 10)] Mixed (by kernel_rfl) ?_
  refine Tr.move rfl rfl rfl ?_
  refine Tr.add_i64 rfl rfl rfl rfl oM ?_
  first
    | refine Tr.idxArr1 rfl rfl rfl rfl Try.underlying103 Sz65 3 rfl oM ?_
    | refine Tr.idxArrO rfl rfl rfl rfl Try.underlying103 Sz65 3 rfl oM ?_
  refine Tr.load1 rfl rfl rfl Try.underlying65 rfl mM (by first | rfl | exact get_words (by first | omega | (simp [W5.l_length, fb_length, qtA_length, set8_length, by8_length]; done) | (simp [W5.l_length, fb_length, qtA_length, set8_length, by8_length]; omega)) | exact get_bytes (by first | omega | (simp [W5.l_length, fb_length, qtA_length, set8_length, by8_length]; done) | (simp [W5.l_length, fb_length, qtA_length, set8_length, by8_length]; omega)) | exact get_ints (by first | omega | (simp [W5.l_length, fb_length, qtA_length, set8_length, by8_length]; done) | (simp [W5.l_length, fb_length, qtA_length, set8_length, by8_length]; omega))) ?_
  refine Tr.move rfl rfl rfl ?_
  first
    | refine Tr.idxArr1 rfl rfl rfl rfl Try.underlying103 Sz65 2 rfl oM ?_
    | refine Tr.idxArrO rfl rfl rfl rfl Try.underlying103 Sz65 2 rfl oM ?_
  refine Tr.load1 rfl rfl rfl Try.underlying65 rfl mM (by first | rfl | exact get_words (by first | omega | (simp [W5.l_length, fb_length, qtA_length, set8_length, by8_length]; done) | (simp [W5.l_length, fb_length, qtA_length, set8_length, by8_length]; omega)) | exact get_bytes (by first | omega | (simp [W5.l_length, fb_length, qtA_length, set8_length, by8_length]; done) | (simp [W5.l_length, fb_length, qtA_length, set8_length, by8_length]; omega)) | exact get_ints (by first | omega | (simp [W5.l_length, fb_length, qtA_length, set8_length, by8_length]; done) | (simp [W5.l_length, fb_length, qtA_length, set8_length, by8_length]; omega))) ?_
  refine Tr.shr_u64 rfl rfl rfl rfl 51 rfl dE ?_
  refine Tr.add_u64 rfl rfl rfl rfl ?_
  first
    | refine Tr.idxArr1 rfl rfl rfl rfl Try.underlying103 Sz65 3 rfl oM ?_
    | refine Tr.idxArrO rfl rfl rfl rfl Try.underlying103 Sz65 3 rfl oM ?_
  refine Tr.store1 rfl rfl rfl rfl rfl Sz65 mM (by first | (simp [W5.l_length, fb_length, qtA_length, set8_length, by8_length]; done) | (simp [W5.l_length, fb_length, qtA_length, set8_length, by8_length]; omega)) sT uU ?_
  refine Tr.nil ?_
  refine at_n ?_
  refine Sat.region ?_
  refine Tr.move rfl rfl rfl ?_
  first
    | refine Tr.idxArr1 rfl rfl rfl rfl Try.underlying103 Sz65 2 rfl oM ?_
    | refine Tr.idxArrO rfl rfl rfl rfl Try.underlying103 Sz65 2 rfl oM ?_
  refine Tr.load1 rfl rfl rfl Try.underlying65 rfl mM (by first | rfl | exact get_words (by first | omega | (simp [W5.l_length, fb_length, qtA_length, set8_length, by8_length]; done) | (simp [W5.l_length, fb_length, qtA_length, set8_length, by8_length]; omega)) | exact get_bytes (by first | omega | (simp [W5.l_length, fb_length, qtA_length, set8_length, by8_length]; done) | (simp [W5.l_length, fb_length, qtA_length, set8_length, by8_length]; omega)) | exact get_ints (by first | omega | (simp [W5.l_length, fb_length, qtA_length, set8_length, by8_length]; done) | (simp [W5.l_length, fb_length, qtA_length, set8_length, by8_length]; omega))) ?_
  refine Tr.and_u64 rfl rfl rfl (show evIn _ _ = some (u64 2251799813685247) from rfl) ?_
  first
    | refine Tr.idxArr1 rfl rfl rfl rfl Try.underlying103 Sz65 2 rfl oM ?_
    | refine Tr.idxArrO rfl rfl rfl rfl Try.underlying103 Sz65 2 rfl oM ?_
  refine Tr.store1 rfl rfl rfl rfl rfl Sz65 mM (by first | (simp [W5.l_length, fb_length, qtA_length, set8_length, by8_length]; done) | (simp [W5.l_length, fb_length, qtA_length, set8_length, by8_length]; omega)) sT uU ?_
  refine Tr.nil ?_
  refine bl_n ?_
  refine at_n ?_
  refine Sat.region ?_
  refine Tr.add_i64 rfl rfl rfl rfl oM ?_
  refine Tr.move rfl rfl rfl ?_
  refine Tr.nil ?_
  refine at_n (SRounds.more ?_)
  refine Sat.seq ?_
  refine Sat.region ?_
  refine Tr.lss rfl rfl rfl rfl rfl ?_
  refine Tr.nil ?_
  refine at_n ?_
  refine Sat.seq ?_
  refine Sat.cond_t rfl (rfl) ?_
  refine Sat.skip ?_
  refine at_n ?_
  refine Sat.seq ?_
  refine Sat.block ?_
  refine Sat.seq ?_
  refine Sat.region ?_
  refine Tr.move rfl rfl rfl ?_
  refine Tr.assign rfl rfl rfl ?_
  refine Tr.nil ?_
  refine at_n ?_
  refine Sat.seq ?_
  refine Sat.draw [(0, 0), (0, 1), (0, 2), (1, 3), (0, 4), (0, 5), (1, 6), (0, 7), (0, 8), (0, 9), (4, 10)] Mixed (by kernel_rfl) ?_
  refine Tr.move rfl rfl rfl ?_
  refine Tr.add_i64 rfl rfl rfl rfl oM ?_
  first
    | refine Tr.idxArr1 rfl rfl rfl rfl Try.underlying103 Sz65 4 rfl oM ?_
    | refine Tr.idxArrO rfl rfl rfl rfl Try.underlying103 Sz65 4 rfl oM ?_
  refine Tr.load1 rfl rfl rfl Try.underlying65 rfl mM (by first | rfl | exact get_words (by first | omega | (simp [W5.l_length, fb_length, qtA_length, set8_length, by8_length]; done) | (simp [W5.l_length, fb_length, qtA_length, set8_length, by8_length]; omega)) | exact get_bytes (by first | omega | (simp [W5.l_length, fb_length, qtA_length, set8_length, by8_length]; done) | (simp [W5.l_length, fb_length, qtA_length, set8_length, by8_length]; omega)) | exact get_ints (by first | omega | (simp [W5.l_length, fb_length, qtA_length, set8_length, by8_length]; done) | (simp [W5.l_length, fb_length, qtA_length, set8_length, by8_length]; omega))) ?_
  refine Tr.move rfl rfl rfl ?_
  first
    | refine Tr.idxArr1 rfl rfl rfl rfl Try.underlying103 Sz65 3 rfl oM ?_
    | refine Tr.idxArrO rfl rfl rfl rfl Try.underlying103 Sz65 3 rfl oM ?_
  refine Tr.load1 rfl rfl rfl Try.underlying65 rfl mM (by first | rfl | exact get_words (by first | omega | (simp [W5.l_length, fb_length, qtA_length, set8_length, by8_length]; done) | (simp [W5.l_length, fb_length, qtA_length, set8_length, by8_length]; omega)) | exact get_bytes (by first | omega | (simp [W5.l_length, fb_length, qtA_length, set8_length, by8_length]; done) | (simp [W5.l_length, fb_length, qtA_length, set8_length, by8_length]; omega)) | exact get_ints (by first | omega | (simp [W5.l_length, fb_length, qtA_length, set8_length, by8_length]; done) | (simp [W5.l_length, fb_length, qtA_length, set8_length, by8_length]; omega))) ?_
  refine Tr.shr_u64 rfl rfl rfl rfl 51 rfl dE ?_
  refine Tr.add_u64 rfl rfl rfl rfl ?_
  first
    | refine Tr.idxArr1 rfl rfl rfl rfl Try.underlying103 Sz65 4 rfl oM ?_
    | refine Tr.idxArrO rfl rfl rfl rfl Try.underlying103 Sz65 4 rfl oM ?_
  refine Tr.store1 rfl rfl rfl rfl rfl Sz65 mM (by first | (simp [W5.l_length, fb_length, qtA_length, set8_length, by8_length]; done) | (simp [W5.l_length, fb_length, qtA_length, set8_length, by8_length]; omega)) sT uU ?_
  refine Tr.nil ?_
  refine at_n ?_
  refine Sat.region ?_
  refine Tr.move rfl rfl rfl ?_
  first
    | refine Tr.idxArr1 rfl rfl rfl rfl Try.underlying103 Sz65 3 rfl oM ?_
    | refine Tr.idxArrO rfl rfl rfl rfl Try.underlying103 Sz65 3 rfl oM ?_
  refine Tr.load1 rfl rfl rfl Try.underlying65 rfl mM (by first | rfl | exact get_words (by first | omega | (simp [W5.l_length, fb_length, qtA_length, set8_length, by8_length]; done) | (simp [W5.l_length, fb_length, qtA_length, set8_length, by8_length]; omega)) | exact get_bytes (by first | omega | (simp [W5.l_length, fb_length, qtA_length, set8_length, by8_length]; done) | (simp [W5.l_length, fb_length, qtA_length, set8_length, by8_length]; omega)) | exact get_ints (by first | omega | (simp [W5.l_length, fb_length, qtA_length, set8_length, by8_length]; done) | (simp [W5.l_length, fb_length, qtA_length, set8_length, by8_length]; omega))) ?_
  refine Tr.and_u64 rfl rfl rfl (show evIn _ _ = some (u64 2251799813685247) from rfl) ?_
  first
    | refine Tr.idxArr1 rfl rfl rfl rfl Try.underlying103 Sz65 3 rfl oM ?_
    | refine Tr.idxArrO rfl rfl rfl rfl Try.underlying103 Sz65 3 rfl oM ?_
  refine Tr.store1 rfl rfl rfl rfl rfl Sz65 mM (by first | (simp [W5.l_length, fb_length, qtA_length, set8_length, by8_length]; done) | (simp [W5.l_length, fb_length, qtA_length, set8_length, by8_length]; omega)) sT uU ?_
  refine Tr.nil ?_
  refine bl_n ?_
  refine at_n ?_
  refine Sat.region ?_
  refine Tr.add_i64 rfl rfl rfl rfl oM ?_
  refine Tr.move rfl rfl rfl ?_
  refine Tr.nil ?_
  refine at_n (SRounds.more ?_)
  refine Sat.seq ?_
  refine Sat.region ?_
  refine Tr.lss rfl rfl rfl rfl rfl ?_
  refine Tr.nil ?_
  refine at_n ?_
  refine Sat.seq ?_
  refine Sat.cond_f rfl (rfl) ?_
  refine Sat.exit ?_
  refine at_x ?_
  refine at_x ?_
  refine bl_h ?_
  refine at_n ?_
  refine Sat.seq ?_
  refine Sat.region ?_
  first
    | refine Tr.idxArr1 rfl rfl rfl rfl Try.underlying103 Sz65 4 rfl dE ?_
    | refine Tr.idxArrO rfl rfl rfl rfl Try.underlying103 Sz65 4 rfl dE ?_
  refine Tr.load1 rfl rfl rfl Try.underlying65 rfl mM (by first | rfl | exact get_words (by first | omega | (simp [W5.l_length, fb_length, qtA_length, set8_length, by8_length]; done) | (simp [W5.l_length, fb_length, qtA_length, set8_length, by8_length]; omega)) | exact get_bytes (by first | omega | (simp [W5.l_length, fb_length, qtA_length, set8_length, by8_length]; done) | (simp [W5.l_length, fb_length, qtA_length, set8_length, by8_length]; omega)) | exact get_ints (by first | omega | (simp [W5.l_length, fb_length, qtA_length, set8_length, by8_length]; done) | (simp [W5.l_length, fb_length, qtA_length, set8_length, by8_length]; omega))) ?_
  refine Tr.and_u64 rfl rfl rfl (show evIn _ _ = some (u64 2251799813685247) from rfl) ?_
  first
    | refine Tr.idxArr1 rfl rfl rfl rfl Try.underlying103 Sz65 4 rfl dE ?_
    | refine Tr.idxArrO rfl rfl rfl rfl Try.underlying103 Sz65 4 rfl dE ?_
  refine Tr.store1 rfl rfl rfl rfl rfl Sz65 mM (by first | (simp [W5.l_length, fb_length, qtA_length, set8_length, by8_length]; done) | (simp [W5.l_length, fb_length, qtA_length, set8_length, by8_length]; omega)) sT uU ?_
  refine Tr.nil ?_
  refine at_n ?_
  refine Sat.seq ?_
  refine Sat.region ?_
  refine Tr.alloc (cs := (bytesV (List.replicate 32 0))) rfl Zr30 rfl ?_
  intro n6 hn6 hf6
  refine Tr.nil ?_
  refine at_n ?_
  refine Sat.seq ?_
  refine Sat.draw [(0, 0), (0, 1), (1, 2), (0, 3), (1, 4), (0, 5), (0, 6), (4, 7)] Mixed (by kernel_rfl) ?_
  refine Tr.sliceArrLH 0 8 rfl rfl rfl rfl rfl rfl rfl dE dE dE Try.underlying30 Sz5 ?_
  first
    | refine Tr.idxArr1 rfl rfl rfl rfl Try.underlying103 Sz65 0 rfl dE ?_
    | refine Tr.idxArrO rfl rfl rfl rfl Try.underlying103 Sz65 0 rfl dE ?_
  refine Tr.load1 rfl rfl rfl Try.underlying65 rfl mM (by first | rfl | exact get_words (by first | omega | (simp [W5.l_length, fb_length, qtA_length, set8_length, by8_length]; done) | (simp [W5.l_length, fb_length, qtA_length, set8_length, by8_length]; omega)) | exact get_bytes (by first | omega | (simp [W5.l_length, fb_length, qtA_length, set8_length, by8_length]; done) | (simp [W5.l_length, fb_length, qtA_length, set8_length, by8_length]; omega)) | exact get_ints (by first | omega | (simp [W5.l_length, fb_length, qtA_length, set8_length, by8_length]; done) | (simp [W5.l_length, fb_length, qtA_length, set8_length, by8_length]; omega))) ?_
  first
    | refine Tr.idxArr1 rfl rfl rfl rfl Try.underlying103 Sz65 1 rfl dE ?_
    | refine Tr.idxArrO rfl rfl rfl rfl Try.underlying103 Sz65 1 rfl dE ?_
  refine Tr.load1 rfl rfl rfl Try.underlying65 rfl mM (by first | rfl | exact get_words (by first | omega | (simp [W5.l_length, fb_length, qtA_length, set8_length, by8_length]; done) | (simp [W5.l_length, fb_length, qtA_length, set8_length, by8_length]; omega)) | exact get_bytes (by first | omega | (simp [W5.l_length, fb_length, qtA_length, set8_length, by8_length]; done) | (simp [W5.l_length, fb_length, qtA_length, set8_length, by8_length]; omega)) | exact get_ints (by first | omega | (simp [W5.l_length, fb_length, qtA_length, set8_length, by8_length]; done) | (simp [W5.l_length, fb_length, qtA_length, set8_length, by8_length]; omega))) ?_
  refine Tr.shl_u64 rfl rfl rfl rfl 51 rfl dE ?_
  refine Tr.or_u64 rfl rfl rfl rfl ?_
  refine Tr.callL (L := [⟨n6, bytesV (List.replicate 32 0), 30, 32⟩]) rfl rfl rfl rfl rfl Body83 (field_put n6 0 8 32 32 (List.replicate 32 0) ((stF w).a ||| shl64 (stF w).b 51) _ dE (by simp [by8_length])) (pm_cons rM pm_nil) (lent_ok rfl) (fun w h => own_blk h mM) ?_
  rintro v59 out59 rfl
  rw [set8_1]
  refine Tr.nil ?_
  refine at_n ?_
  refine Sat.seq ?_
  refine Sat.draw [(0, 0), (0, 1), (1, 2), (0, 3), (0, 4), (1, 5), (0, 6), (0, 7), (4, 8)] Mixed (by kernel_rfl) ?_
  refine Tr.sliceArrLH 8 16 rfl rfl rfl rfl rfl rfl rfl dE dE dE Try.underlying30 Sz5 ?_
  first
    | refine Tr.idxArr1 rfl rfl rfl rfl Try.underlying103 Sz65 1 rfl dE ?_
    | refine Tr.idxArrO rfl rfl rfl rfl Try.underlying103 Sz65 1 rfl dE ?_
  refine Tr.load1 rfl rfl rfl Try.underlying65 rfl mM (by first | rfl | exact get_words (by first | omega | (simp [W5.l_length, fb_length, qtA_length, set8_length, by8_length]; done) | (simp [W5.l_length, fb_length, qtA_length, set8_length, by8_length]; omega)) | exact get_bytes (by first | omega | (simp [W5.l_length, fb_length, qtA_length, set8_length, by8_length]; done) | (simp [W5.l_length, fb_length, qtA_length, set8_length, by8_length]; omega)) | exact get_ints (by first | omega | (simp [W5.l_length, fb_length, qtA_length, set8_length, by8_length]; done) | (simp [W5.l_length, fb_length, qtA_length, set8_length, by8_length]; omega))) ?_
  refine Tr.shr_u64 rfl rfl rfl rfl 13 rfl dE ?_
  first
    | refine Tr.idxArr1 rfl rfl rfl rfl Try.underlying103 Sz65 2 rfl dE ?_
    | refine Tr.idxArrO rfl rfl rfl rfl Try.underlying103 Sz65 2 rfl dE ?_
  refine Tr.load1 rfl rfl rfl Try.underlying65 rfl mM (by first | rfl | exact get_words (by first | omega | (simp [W5.l_length, fb_length, qtA_length, set8_length, by8_length]; done) | (simp [W5.l_length, fb_length, qtA_length, set8_length, by8_length]; omega)) | exact get_bytes (by first | omega | (simp [W5.l_length, fb_length, qtA_length, set8_length, by8_length]; done) | (simp [W5.l_length, fb_length, qtA_length, set8_length, by8_length]; omega)) | exact get_ints (by first | omega | (simp [W5.l_length, fb_length, qtA_length, set8_length, by8_length]; done) | (simp [W5.l_length, fb_length, qtA_length, set8_length, by8_length]; omega))) ?_
  refine Tr.shl_u64 rfl rfl rfl rfl 38 rfl dE ?_
  refine Tr.or_u64 rfl rfl rfl rfl ?_
  refine Tr.callL (L := [⟨n6, bytesV (by8 ((stF w).a ||| shl64 (stF w).b 51) ++ List.replicate 24 0), 30, 32⟩]) rfl rfl rfl rfl rfl Body83 (field_put n6 8 8 24 32 (by8 ((stF w).a ||| shl64 (stF w).b 51) ++ List.replicate 24 0) (shr64 (stF w).b 13 ||| shl64 (stF w).c 38) _ dE (by simp [by8_length])) (pm_cons rM pm_nil) (lent_ok rfl) (fun w h => own_blk h mM) ?_
  rintro v68 out68 rfl
  rw [set8_2]
  refine Tr.nil ?_
  refine at_n ?_
  refine Sat.seq ?_
  refine Sat.draw [(0, 0), (0, 1), (1, 2), (0, 3), (0, 4), (1, 5), (0, 6), (0, 7), (4, 8)] Mixed (by kernel_rfl) ?_
  refine Tr.sliceArrLH 16 24 rfl rfl rfl rfl rfl rfl rfl dE dE dE Try.underlying30 Sz5 ?_
  first
    | refine Tr.idxArr1 rfl rfl rfl rfl Try.underlying103 Sz65 2 rfl dE ?_
    | refine Tr.idxArrO rfl rfl rfl rfl Try.underlying103 Sz65 2 rfl dE ?_
  refine Tr.load1 rfl rfl rfl Try.underlying65 rfl mM (by first | rfl | exact get_words (by first | omega | (simp [W5.l_length, fb_length, qtA_length, set8_length, by8_length]; done) | (simp [W5.l_length, fb_length, qtA_length, set8_length, by8_length]; omega)) | exact get_bytes (by first | omega | (simp [W5.l_length, fb_length, qtA_length, set8_length, by8_length]; done) | (simp [W5.l_length, fb_length, qtA_length, set8_length, by8_length]; omega)) | exact get_ints (by first | omega | (simp [W5.l_length, fb_length, qtA_length, set8_length, by8_length]; done) | (simp [W5.l_length, fb_length, qtA_length, set8_length, by8_length]; omega))) ?_
  refine Tr.shr_u64 rfl rfl rfl rfl 26 rfl dE ?_
  first
    | refine Tr.idxArr1 rfl rfl rfl rfl Try.underlying103 Sz65 3 rfl dE ?_
    | refine Tr.idxArrO rfl rfl rfl rfl Try.underlying103 Sz65 3 rfl dE ?_
  refine Tr.load1 rfl rfl rfl Try.underlying65 rfl mM (by first | rfl | exact get_words (by first | omega | (simp [W5.l_length, fb_length, qtA_length, set8_length, by8_length]; done) | (simp [W5.l_length, fb_length, qtA_length, set8_length, by8_length]; omega)) | exact get_bytes (by first | omega | (simp [W5.l_length, fb_length, qtA_length, set8_length, by8_length]; done) | (simp [W5.l_length, fb_length, qtA_length, set8_length, by8_length]; omega)) | exact get_ints (by first | omega | (simp [W5.l_length, fb_length, qtA_length, set8_length, by8_length]; done) | (simp [W5.l_length, fb_length, qtA_length, set8_length, by8_length]; omega))) ?_
  refine Tr.shl_u64 rfl rfl rfl rfl 25 rfl dE ?_
  refine Tr.or_u64 rfl rfl rfl rfl ?_
  refine Tr.callL (L := [⟨n6, bytesV (by8 ((stF w).a ||| shl64 (stF w).b 51) ++ by8 (shr64 (stF w).b 13 ||| shl64 (stF w).c 38) ++ List.replicate 16 0), 30, 32⟩]) rfl rfl rfl rfl rfl Body83 (field_put n6 16 8 16 32 (by8 ((stF w).a ||| shl64 (stF w).b 51) ++ by8 (shr64 (stF w).b 13 ||| shl64 (stF w).c 38) ++ List.replicate 16 0) (shr64 (stF w).c 26 ||| shl64 (stF w).d 25) _ dE (by simp [by8_length])) (pm_cons rM pm_nil) (lent_ok rfl) (fun w h => own_blk h mM) ?_
  rintro v77 out77 rfl
  rw [set8_3]
  refine Tr.nil ?_
  refine at_n ?_
  refine Sat.seq ?_
  refine Sat.draw [(0, 0), (0, 1), (1, 2), (0, 3), (0, 4), (1, 5), (0, 6), (0, 7), (4, 8)] Mixed (by kernel_rfl) ?_
  refine Tr.sliceArrLH 24 32 rfl rfl rfl rfl rfl rfl rfl dE dE dE Try.underlying30 Sz5 ?_
  first
    | refine Tr.idxArr1 rfl rfl rfl rfl Try.underlying103 Sz65 3 rfl dE ?_
    | refine Tr.idxArrO rfl rfl rfl rfl Try.underlying103 Sz65 3 rfl dE ?_
  refine Tr.load1 rfl rfl rfl Try.underlying65 rfl mM (by first | rfl | exact get_words (by first | omega | (simp [W5.l_length, fb_length, qtA_length, set8_length, by8_length]; done) | (simp [W5.l_length, fb_length, qtA_length, set8_length, by8_length]; omega)) | exact get_bytes (by first | omega | (simp [W5.l_length, fb_length, qtA_length, set8_length, by8_length]; done) | (simp [W5.l_length, fb_length, qtA_length, set8_length, by8_length]; omega)) | exact get_ints (by first | omega | (simp [W5.l_length, fb_length, qtA_length, set8_length, by8_length]; done) | (simp [W5.l_length, fb_length, qtA_length, set8_length, by8_length]; omega))) ?_
  refine Tr.shr_u64 rfl rfl rfl rfl 39 rfl dE ?_
  first
    | refine Tr.idxArr1 rfl rfl rfl rfl Try.underlying103 Sz65 4 rfl dE ?_
    | refine Tr.idxArrO rfl rfl rfl rfl Try.underlying103 Sz65 4 rfl dE ?_
  refine Tr.load1 rfl rfl rfl Try.underlying65 rfl mM (by first | rfl | exact get_words (by first | omega | (simp [W5.l_length, fb_length, qtA_length, set8_length, by8_length]; done) | (simp [W5.l_length, fb_length, qtA_length, set8_length, by8_length]; omega)) | exact get_bytes (by first | omega | (simp [W5.l_length, fb_length, qtA_length, set8_length, by8_length]; done) | (simp [W5.l_length, fb_length, qtA_length, set8_length, by8_length]; omega)) | exact get_ints (by first | omega | (simp [W5.l_length, fb_length, qtA_length, set8_length, by8_length]; done) | (simp [W5.l_length, fb_length, qtA_length, set8_length, by8_length]; omega))) ?_
  refine Tr.shl_u64 rfl rfl rfl rfl 12 rfl dE ?_
  refine Tr.or_u64 rfl rfl rfl rfl ?_
  refine Tr.callL (L := [⟨n6, bytesV (by8 ((stF w).a ||| shl64 (stF w).b 51) ++ by8 (shr64 (stF w).b 13 ||| shl64 (stF w).c 38) ++ by8 (shr64 (stF w).c 26 ||| shl64 (stF w).d 25) ++ List.replicate 8 0), 30, 32⟩]) rfl rfl rfl rfl rfl Body83 (field_put n6 24 8 8 32 (by8 ((stF w).a ||| shl64 (stF w).b 51) ++ by8 (shr64 (stF w).b 13 ||| shl64 (stF w).c 38) ++ by8 (shr64 (stF w).c 26 ||| shl64 (stF w).d 25) ++ List.replicate 8 0) (shr64 (stF w).d 39 ||| shl64 (stF w).e 12) _ dE (by simp [by8_length])) (pm_cons rM pm_nil) (lent_ok rfl) (fun w h => own_blk h mM) ?_
  rintro v86 out86 rfl
  rw [set8_4]
  refine Tr.nil ?_
  refine at_n ?_
  refine Sat.seq ?_
  refine Sat.region ?_
  first
    | refine Tr.loadAll rfl rfl rfl Try.underlying30 rfl Sz30 mM (by first | (simp [W5.l_length, fb_length, qtA_length, set8_length, by8_length]; done) | assumption | (rw [bytesV, List.length_map]; assumption)) ?_
    | refine Tr.loadN _ rfl rfl rfl Try.underlying30 rfl Sz30 mM (by exact rfl) (by first | (simp [W5.l_length, fb_length, qtA_length, set8_length, by8_length]; done) | assumption | (rw [bytesV, List.length_map]; assumption)) ?_
  first
    | refine Tr.storeAll rfl rfl rfl rfl cB Sz30 (by first | (simp [W5.l_length, fb_length, qtA_length, set8_length, by8_length]; done) | assumption | (rw [bytesV, List.length_map]; assumption)) mM (by first | (simp [W5.l_length, fb_length, qtA_length, set8_length, by8_length]; done) | assumption | (rw [bytesV, List.length_map]; assumption)) uU ?_
    | refine Tr.storeN _ rfl rfl rfl rfl rfl cB Sz30 (by first | (simp [W5.l_length, fb_length, qtA_length, set8_length, by8_length]; done) | assumption | (rw [bytesV, List.length_map]; assumption)) mM (by first | (simp [W5.l_length, fb_length, qtA_length, set8_length, by8_length]; done) | assumption | (rw [bytesV, List.length_map]; assumption)) (by exact rfl) uU ?_
  refine Tr.nil ?_
  refine at_n ?_
  refine Sat.ret ?_
  refine en_r ?_
  refine ⟨_, [], res_cell rfl rfl Try.underlying30 rfl Sz30 mM (by simp [W5.l_length, fb_length, qtA_length, set8_length, by8_length]), sP, sP, ?_, rfl⟩
  rw [fb_fe, ← store_eq, ← by8_store]

set_option maxRecDepth 100000 in
set_option maxHeartbeats 1000000 in
theorem field_Rest (a : List UInt8) (ha : a.length = 32) : Meets Try.prog 79 [agg (bytesV a)] [] (fun _ => True) (fun v out => v = agg (bytesV (fb (fe (le a)))) ∧ out = []) := by
  intro W hW
  refine calls_of (hp0 := []) Try.func79 rfl 6 Try.ntmps79 rfl (HRep.nil _) ?_
  refine Sat.seq ?_
  refine Sat.region ?_
  refine Tr.boxA rfl rfl ?_
  intro n1 hn1 hf1
  refine Tr.alloc (cs := (bytesV (List.replicate 32 0))) rfl Zr30 rfl ?_
  intro n2 hn2 hf2
  refine Tr.nil ?_
  refine at_n ?_
  refine Sat.seq ?_
  refine Sat.region ?_
  first
    | refine Tr.loadAll rfl rfl rfl Try.underlying30 rfl Sz30 mM (by first | (simp [W5.l_length, fb_length, qtA_length, set8_length, ha]; done) | assumption | (rw [bytesV, List.length_map]; assumption)) ?_
    | refine Tr.loadN _ rfl rfl rfl Try.underlying30 rfl Sz30 mM (by exact rfl) (by first | (simp [W5.l_length, fb_length, qtA_length, set8_length, ha]; done) | assumption | (rw [bytesV, List.length_map]; assumption)) ?_
  refine Tr.callV rfl rfl rfl rfl Body80 (field_load a ha) (fun _ _ => trivial) ?_
  refine Tr.callV rfl rfl rfl rfl Body82 (field_store (ldN a)) (fun _ _ => trivial) ?_
  first
    | refine Tr.storeAll rfl rfl rfl rfl cB Sz30 (by first | (simp [W5.l_length, fb_length, qtA_length, set8_length, ha]; done) | assumption | (rw [bytesV, List.length_map]; assumption)) mM (by first | (simp [W5.l_length, fb_length, qtA_length, set8_length, ha]; done) | assumption | (rw [bytesV, List.length_map]; assumption)) uU ?_
    | refine Tr.storeN _ rfl rfl rfl rfl rfl cB Sz30 (by first | (simp [W5.l_length, fb_length, qtA_length, set8_length, ha]; done) | assumption | (rw [bytesV, List.length_map]; assumption)) mM (by first | (simp [W5.l_length, fb_length, qtA_length, set8_length, ha]; done) | assumption | (rw [bytesV, List.length_map]; assumption)) (by exact rfl) uU ?_
  refine Tr.nil ?_
  refine at_n ?_
  refine Sat.ret ?_
  refine en_r ?_
  refine ⟨_, [], res_cell rfl rfl Try.underlying30 rfl Sz30 mM (by simp [W5.l_length, fb_length, qtA_length, set8_length, ha]), sP, sP, ?_, rfl⟩
  rw [ldN_v ha]

set_option maxRecDepth 100000 in
set_option maxHeartbeats 1000000 in
theorem field_Canon (a : List UInt8) (ha : a.length = 32) : Meets Try.prog 46 [agg (bytesV a)] [] (fun _ => True) (fun v out => v = .bool (decide (fb (fe (le a)) = a)) ∧ out = []) := by
  intro W hW
  refine calls_of (hp0 := []) Try.func46 rfl 7 Try.ntmps46 rfl (HRep.nil _) ?_
  refine Sat.seq ?_
  refine Sat.region ?_
  refine Tr.boxA rfl rfl ?_
  intro n1 hn1 hf1
  refine Tr.assign rfl rfl rfl ?_
  refine Tr.nil ?_
  refine at_n ?_
  refine Sat.seq ?_
  refine Sat.draw [(1, 0), (1, 2), (3, 1), (0, 3), (0, 4)] Mixed (by kernel_rfl) ?_
  first
    | refine Tr.loadAll rfl rfl rfl Try.underlying30 rfl Sz30 mM (by first | (simp [W5.l_length, fb_length, qtA_length, set8_length, ha]; done) | assumption | (rw [bytesV, List.length_map]; assumption)) ?_
    | refine Tr.loadN _ rfl rfl rfl Try.underlying30 rfl Sz30 mM (by exact rfl) (by first | (simp [W5.l_length, fb_length, qtA_length, set8_length, ha]; done) | assumption | (rw [bytesV, List.length_map]; assumption)) ?_
  first
    | refine Tr.loadAll rfl rfl rfl Try.underlying30 rfl Sz30 mM (by first | (simp [W5.l_length, fb_length, qtA_length, set8_length, ha]; done) | assumption | (rw [bytesV, List.length_map]; assumption)) ?_
    | refine Tr.loadN _ rfl rfl rfl Try.underlying30 rfl Sz30 mM (by exact rfl) (by first | (simp [W5.l_length, fb_length, qtA_length, set8_length, ha]; done) | assumption | (rw [bytesV, List.length_map]; assumption)) ?_
  refine Tr.callV rfl rfl rfl rfl Body79 (field_Rest a ha) (fun _ _ => trivial) ?_
  refine Tr.eql_bytes rfl rfl rfl rfl Try.eqGuardType30 Try.underlying30 Try.underlying5 Sz5 (by first | (simp [W5.l_length, fb_length, qtA_length, set8_length, ha]; done) | assumption | (rw [bytesV, List.length_map]; assumption)) (by first | (simp [W5.l_length, fb_length, qtA_length, set8_length, ha]; done) | assumption | (rw [bytesV, List.length_map]; assumption)) rfl ?_
  refine Tr.assign rfl rfl rfl ?_
  refine Tr.nil ?_
  refine at_n ?_
  refine Sat.ret ?_
  refine en_r ?_
  refine ⟨_, [], res_tmp rfl rfl, sP, sP, ?_, rfl⟩
  rfl

set_option maxRecDepth 100000 in
set_option maxHeartbeats 1000000 in
theorem field_Same (a b : List UInt8) (ha : a.length = 32) (hb : b.length = 32) : Meets Try.prog 86 [agg (bytesV a), agg (bytesV b)] [] (fun _ => True) (fun v out => v = .bool (decide (fe (le a) = fe (le b))) ∧ out = []) := by
  intro W hW
  refine calls_of (hp0 := []) Try.func86 rfl 10 Try.ntmps86 rfl (HRep.nil _) ?_
  refine Sat.seq ?_
  refine Sat.region ?_
  refine Tr.boxA rfl rfl ?_
  intro n2 hn2 hf2
  refine Tr.boxA rfl rfl ?_
  intro n3 hn3 hf3
  refine Tr.assign rfl rfl rfl ?_
  refine Tr.nil ?_
  refine at_n ?_
  refine Sat.seq ?_
  refine Sat.draw [(1, 0), (1, 2), (3, 1), (3, 3), (0, 4), (0, 5)] Mixed (by kernel_rfl) ?_
  first
    | refine Tr.loadAll rfl rfl rfl Try.underlying30 rfl Sz30 mM (by first | (simp [W5.l_length, fb_length, qtA_length, set8_length, ha, hb]; done) | assumption | (rw [bytesV, List.length_map]; assumption)) ?_
    | refine Tr.loadN _ rfl rfl rfl Try.underlying30 rfl Sz30 mM (by exact rfl) (by first | (simp [W5.l_length, fb_length, qtA_length, set8_length, ha, hb]; done) | assumption | (rw [bytesV, List.length_map]; assumption)) ?_
  first
    | refine Tr.loadAll rfl rfl rfl Try.underlying30 rfl Sz30 mM (by first | (simp [W5.l_length, fb_length, qtA_length, set8_length, ha, hb]; done) | assumption | (rw [bytesV, List.length_map]; assumption)) ?_
    | refine Tr.loadN _ rfl rfl rfl Try.underlying30 rfl Sz30 mM (by exact rfl) (by first | (simp [W5.l_length, fb_length, qtA_length, set8_length, ha, hb]; done) | assumption | (rw [bytesV, List.length_map]; assumption)) ?_
  refine Tr.callV rfl rfl rfl rfl Body79 (field_Rest a ha) (fun _ _ => trivial) ?_
  refine Tr.callV rfl rfl rfl rfl Body79 (field_Rest b hb) (fun _ _ => trivial) ?_
  refine Tr.eql_bytes rfl rfl rfl rfl Try.eqGuardType30 Try.underlying30 Try.underlying5 Sz5 (by first | (simp [W5.l_length, fb_length, qtA_length, set8_length, ha, hb]; done) | assumption | (rw [bytesV, List.length_map]; assumption)) (by first | (simp [W5.l_length, fb_length, qtA_length, set8_length, ha, hb]; done) | assumption | (rw [bytesV, List.length_map]; assumption)) rfl ?_
  refine Tr.assign rfl rfl rfl ?_
  refine Tr.nil ?_
  refine at_n ?_
  refine Sat.ret ?_
  refine en_r ?_
  refine ⟨_, [], res_tmp rfl rfl, sP, sP, ?_, rfl⟩
  rw [fb_dec]

set_option maxRecDepth 100000 in
set_option maxHeartbeats 1000000 in
theorem field_Odd (a : List UInt8) (ha : a.length = 32) : Meets Try.prog 62 [agg (bytesV a)] [] (fun _ => True) (fun v out => v = .bool (decide ((fe (le a)).val % 2 = 1)) ∧ out = []) := by
  intro W hW
  refine calls_of (hp0 := []) Try.func62 rfl 8 Try.ntmps62 rfl (HRep.nil _) ?_
  refine Sat.seq ?_
  refine Sat.region ?_
  refine Tr.boxA rfl rfl ?_
  intro n1 hn1 hf1
  refine Tr.assign rfl rfl rfl ?_
  refine Tr.nil ?_
  refine at_n ?_
  refine Sat.seq ?_
  refine Sat.region ?_
  first
    | refine Tr.loadAll rfl rfl rfl Try.underlying30 rfl Sz30 mM (by first | (simp [W5.l_length, fb_length, qtA_length, set8_length, ha]; done) | assumption | (rw [bytesV, List.length_map]; assumption)) ?_
    | refine Tr.loadN _ rfl rfl rfl Try.underlying30 rfl Sz30 mM (by exact rfl) (by first | (simp [W5.l_length, fb_length, qtA_length, set8_length, ha]; done) | assumption | (rw [bytesV, List.length_map]; assumption)) ?_
  refine Tr.callV rfl rfl rfl rfl Body79 (field_Rest a ha) (fun _ _ => trivial) ?_
  refine Tr.idxA1 rfl rfl rfl rfl Try.underlying30 Sz5 Try.underlying5 rfl 0 rfl oM (by first | rfl | exact get_words (by first | omega | (simp [W5.l_length, fb_length, qtA_length, set8_length, ha]; done) | (simp [W5.l_length, fb_length, qtA_length, set8_length, ha]; omega)) | exact get_bytes (by first | omega | (simp [W5.l_length, fb_length, qtA_length, set8_length, ha]; done) | (simp [W5.l_length, fb_length, qtA_length, set8_length, ha]; omega)) | exact get_ints (by first | omega | (simp [W5.l_length, fb_length, qtA_length, set8_length, ha]; done) | (simp [W5.l_length, fb_length, qtA_length, set8_length, ha]; omega))) ?_
  refine Tr.and_u8 rfl rfl rfl (show evIn _ _ = some (u8 1) from rfl) ?_
  refine Tr.eqi rfl rfl rfl rfl rfl ?_
  refine Tr.assign rfl rfl rfl ?_
  refine Tr.nil ?_
  refine at_n ?_
  refine Sat.ret ?_
  refine en_r ?_
  refine ⟨_, [], res_tmp rfl rfl, sP, sP, ?_, rfl⟩
  exact congrArg Value.bool (odd_byte _)

structure PowS where
  k : Nat
  p : W5
  a : UInt64
  b : UInt64
  c : UInt64
  d : UInt64
theorem leb_small (x : UInt64) : leb 8 x.toNat ++ List.replicate 24 0 = leb 32 x.toNat := by
  have h := leb_split 24 8 x.toNat
  rw [show x.toNat / 256 ^ 8 = 0 from Nat.div_eq_of_lt x.toNat_lt] at h
  rw [show leb 24 0 = List.replicate 24 0 from by decide] at h
  exact h.symm

set_option maxRecDepth 100000 in
set_option maxHeartbeats 1000000 in
theorem field_Of (x : UInt64) : Meets Try.prog 49 [u64 x] [] (fun _ => True) (fun v out => v = agg (bytesV (fb (fe x.toNat))) ∧ out = []) := by
  intro W hW
  refine calls_of (hp0 := []) Try.func49 rfl 8 Try.ntmps49 rfl (HRep.nil _) ?_
  refine Sat.seq ?_
  refine Sat.region ?_
  refine Tr.alloc (cs := (bytesV (List.replicate 32 0))) rfl Zr30 rfl ?_
  intro n2 hn2 hf2
  refine Tr.nil ?_
  refine at_n ?_
  refine Sat.seq ?_
  refine Sat.region ?_
  refine Tr.alloc (cs := (bytesV (List.replicate 32 0))) rfl Zr30 rfl ?_
  intro n3 hn3 hf3
  refine Tr.nil ?_
  refine at_n ?_
  refine Sat.seq ?_
  refine Sat.region ?_
  refine Tr.sliceArrHi 8 rfl rfl rfl rfl rfl dE dE Try.underlying30 Sz5 ?_
  refine Tr.move rfl rfl rfl ?_
  refine Tr.callL (L := [⟨n3, bytesV (List.replicate 32 0), 30, 32⟩]) rfl rfl rfl rfl rfl Body83 (field_put n3 0 8 32 32 (List.replicate 32 0) (x) _ dE (by simp [by8_length])) (pm_cons rM pm_nil) (lent_ok rfl) (fun w h => own_blk h mM) ?_
  rintro v6 out6 rfl
  rw [set8_1]
  refine Tr.nil ?_
  refine at_n ?_
  refine Sat.seq ?_
  refine Sat.region ?_
  first
    | refine Tr.loadAll rfl rfl rfl Try.underlying30 rfl Sz30 mM (by first | (simp [W5.l_length, fb_length, qtA_length, set8_length, by8_length]; done) | assumption | (rw [bytesV, List.length_map]; assumption)) ?_
    | refine Tr.loadN _ rfl rfl rfl Try.underlying30 rfl Sz30 mM (by exact rfl) (by first | (simp [W5.l_length, fb_length, qtA_length, set8_length, by8_length]; done) | assumption | (rw [bytesV, List.length_map]; assumption)) ?_
  first
    | refine Tr.storeAll rfl rfl rfl rfl cB Sz30 (by first | (simp [W5.l_length, fb_length, qtA_length, set8_length, by8_length]; done) | assumption | (rw [bytesV, List.length_map]; assumption)) mM (by first | (simp [W5.l_length, fb_length, qtA_length, set8_length, by8_length]; done) | assumption | (rw [bytesV, List.length_map]; assumption)) uU ?_
    | refine Tr.storeN _ rfl rfl rfl rfl rfl cB Sz30 (by first | (simp [W5.l_length, fb_length, qtA_length, set8_length, by8_length]; done) | assumption | (rw [bytesV, List.length_map]; assumption)) mM (by first | (simp [W5.l_length, fb_length, qtA_length, set8_length, by8_length]; done) | assumption | (rw [bytesV, List.length_map]; assumption)) (by exact rfl) uU ?_
  refine Tr.nil ?_
  refine at_n ?_
  refine Sat.ret ?_
  refine en_r ?_
  refine ⟨_, [], res_cell rfl rfl Try.underlying30 rfl Sz30 mM (by simp [W5.l_length, fb_length, qtA_length, set8_length, by8_length]), sP, sP, ?_, rfl⟩
  rw [fe_small, by8_eq]
  exact congrArg (fun l => agg (bytesV l)) (leb_small x)

set_option maxRecDepth 100000 in
set_option maxHeartbeats 2000000 in
theorem field_Add (a b : List UInt8) (ha : a.length = 32) (hb : b.length = 32) : Meets Try.prog 50 [agg (bytesV a), agg (bytesV b)] [] (fun _ => True) (fun v out => v = agg (bytesV (fb (fe (le a) + fe (le b)))) ∧ out = []) := by
  intro W hW
  refine calls_of (hp0 := []) Try.func50 rfl 26 Try.ntmps50 rfl (HRep.nil _) ?_
  refine Sat.seq ?_
  refine Sat.region ?_
  refine Tr.boxA rfl rfl ?_
  intro n2 hn2 hf2
  refine Tr.boxA rfl rfl ?_
  intro n3 hn3 hf3
  refine Tr.alloc (cs := (bytesV (List.replicate 32 0))) rfl Zr30 rfl ?_
  intro n4 hn4 hf4
  refine Tr.nil ?_
  refine at_n ?_
  refine Sat.seq ?_
  refine Sat.draw [(1, 0), (1, 2), (3, 1), (3, 3), (2, 4), (2, 5), (4, 6), (4, 7)] Mixed (by kernel_rfl) ?_
  first
    | refine Tr.loadAll rfl rfl rfl Try.underlying30 rfl Sz30 mM (by first | (simp [W5.l_length, fb_length, qtA_length, set8_length, ha, hb]; done) | assumption | (rw [bytesV, List.length_map]; assumption)) ?_
    | refine Tr.loadN _ rfl rfl rfl Try.underlying30 rfl Sz30 mM (by exact rfl) (by first | (simp [W5.l_length, fb_length, qtA_length, set8_length, ha, hb]; done) | assumption | (rw [bytesV, List.length_map]; assumption)) ?_
  first
    | refine Tr.loadAll rfl rfl rfl Try.underlying30 rfl Sz30 mM (by first | (simp [W5.l_length, fb_length, qtA_length, set8_length, ha, hb]; done) | assumption | (rw [bytesV, List.length_map]; assumption)) ?_
    | refine Tr.loadN _ rfl rfl rfl Try.underlying30 rfl Sz30 mM (by exact rfl) (by first | (simp [W5.l_length, fb_length, qtA_length, set8_length, ha, hb]; done) | assumption | (rw [bytesV, List.length_map]; assumption)) ?_
  refine Tr.callV rfl rfl rfl rfl Body80 (field_load a ha) (fun _ _ => trivial) ?_
  refine Tr.callV rfl rfl rfl rfl Body80 (field_load b hb) (fun _ _ => trivial) ?_
  refine Tr.alloc (cs := (wordsV (List.replicate 5 0))) rfl Zr103 rfl ?_
  intro n5 hn5 hf5
  refine Tr.alloc (cs := (wordsV (List.replicate 5 0))) rfl Zr103 rfl ?_
  intro n6 hn6 hf6
  first
    | refine Tr.storeAll rfl rfl rfl rfl cB Sz103 (by first | (simp [W5.l_length, fb_length, qtA_length, set8_length, ha, hb]; done) | assumption | (rw [bytesV, List.length_map]; assumption)) mM (by first | (simp [W5.l_length, fb_length, qtA_length, set8_length, ha, hb]; done) | assumption | (rw [bytesV, List.length_map]; assumption)) uU ?_
    | refine Tr.storeN _ rfl rfl rfl rfl rfl cB Sz103 (by first | (simp [W5.l_length, fb_length, qtA_length, set8_length, ha, hb]; done) | assumption | (rw [bytesV, List.length_map]; assumption)) mM (by first | (simp [W5.l_length, fb_length, qtA_length, set8_length, ha, hb]; done) | assumption | (rw [bytesV, List.length_map]; assumption)) (by exact rfl) uU ?_
  first
    | refine Tr.storeAll rfl rfl rfl rfl cB Sz103 (by first | (simp [W5.l_length, fb_length, qtA_length, set8_length, ha, hb]; done) | assumption | (rw [bytesV, List.length_map]; assumption)) mM (by first | (simp [W5.l_length, fb_length, qtA_length, set8_length, ha, hb]; done) | assumption | (rw [bytesV, List.length_map]; assumption)) uU ?_
    | refine Tr.storeN _ rfl rfl rfl rfl rfl cB Sz103 (by first | (simp [W5.l_length, fb_length, qtA_length, set8_length, ha, hb]; done) | assumption | (rw [bytesV, List.length_map]; assumption)) mM (by first | (simp [W5.l_length, fb_length, qtA_length, set8_length, ha, hb]; done) | assumption | (rw [bytesV, List.length_map]; assumption)) (by exact rfl) uU ?_
  refine Tr.nil ?_
  refine at_n ?_
  refine Sat.seq ?_
  refine Sat.seq ?_
  refine Sat.region ?_
  refine Tr.move rfl rfl rfl ?_
  refine Tr.nil ?_
  refine at_n ?_
  refine Sat.block ?_
  refine Sat.rounds 6 (SRounds.more ?_)
  refine Sat.seq ?_
  refine Sat.region ?_
  refine Tr.lss rfl rfl rfl rfl rfl ?_
  refine Tr.nil ?_
  refine at_n ?_
  refine Sat.seq ?_
  refine Sat.cond_t rfl (rfl) ?_
  refine Sat.skip ?_
  refine at_n ?_
  refine Sat.seq ?_
  refine Sat.block ?_
  refine Sat.seq ?_
  refine Sat.region ?_
  refine Tr.move rfl rfl rfl ?_
  refine Tr.assign rfl rfl rfl ?_
  refine Tr.nil ?_
  refine at_n ?_
  refine Sat.draw [(0, 0), (0, 1), (1, 2), (0, 3), (0, 4), (1, 5), (0, 6), (0, 7), (4, 8)] Mixed (by kernel_rfl) ?_
  refine Tr.move rfl rfl rfl ?_
  first
    | refine Tr.idxArr1 rfl rfl rfl rfl Try.underlying103 Sz65 0 rfl oM ?_
    | refine Tr.idxArrO rfl rfl rfl rfl Try.underlying103 Sz65 0 rfl oM ?_
  refine Tr.load1 rfl rfl rfl Try.underlying65 rfl mM (by first | rfl | exact get_words (by first | omega | (simp [W5.l_length, fb_length, qtA_length, set8_length, ha, hb]; done) | (simp [W5.l_length, fb_length, qtA_length, set8_length, ha, hb]; omega)) | exact get_bytes (by first | omega | (simp [W5.l_length, fb_length, qtA_length, set8_length, ha, hb]; done) | (simp [W5.l_length, fb_length, qtA_length, set8_length, ha, hb]; omega)) | exact get_ints (by first | omega | (simp [W5.l_length, fb_length, qtA_length, set8_length, ha, hb]; done) | (simp [W5.l_length, fb_length, qtA_length, set8_length, ha, hb]; omega))) ?_
  refine Tr.move rfl rfl rfl ?_
  first
    | refine Tr.idxArr1 rfl rfl rfl rfl Try.underlying103 Sz65 0 rfl oM ?_
    | refine Tr.idxArrO rfl rfl rfl rfl Try.underlying103 Sz65 0 rfl oM ?_
  refine Tr.load1 rfl rfl rfl Try.underlying65 rfl mM (by first | rfl | exact get_words (by first | omega | (simp [W5.l_length, fb_length, qtA_length, set8_length, ha, hb]; done) | (simp [W5.l_length, fb_length, qtA_length, set8_length, ha, hb]; omega)) | exact get_bytes (by first | omega | (simp [W5.l_length, fb_length, qtA_length, set8_length, ha, hb]; done) | (simp [W5.l_length, fb_length, qtA_length, set8_length, ha, hb]; omega)) | exact get_ints (by first | omega | (simp [W5.l_length, fb_length, qtA_length, set8_length, ha, hb]; done) | (simp [W5.l_length, fb_length, qtA_length, set8_length, ha, hb]; omega))) ?_
  refine Tr.add_u64 rfl rfl rfl rfl ?_
  first
    | refine Tr.idxArr1 rfl rfl rfl rfl Try.underlying103 Sz65 0 rfl oM ?_
    | refine Tr.idxArrO rfl rfl rfl rfl Try.underlying103 Sz65 0 rfl oM ?_
  refine Tr.store1 rfl rfl rfl rfl rfl Sz65 mM (by first | (simp [W5.l_length, fb_length, qtA_length, set8_length, ha, hb]; done) | (simp [W5.l_length, fb_length, qtA_length, set8_length, ha, hb]; omega)) sT uU ?_
  refine Tr.nil ?_
  refine bl_n ?_
  refine at_n ?_
  refine Sat.region ?_
  refine Tr.add_i64 rfl rfl rfl rfl oM ?_
  refine Tr.move rfl rfl rfl ?_
  refine Tr.nil ?_
  refine at_n (SRounds.more ?_)
  refine Sat.seq ?_
  refine Sat.region ?_
  refine Tr.lss rfl rfl rfl rfl rfl ?_
  refine Tr.nil ?_
  refine at_n ?_
  refine Sat.seq ?_
  refine Sat.cond_t rfl (rfl) ?_
  refine Sat.skip ?_
  refine at_n ?_
  refine Sat.seq ?_
  refine Sat.block ?_
  refine Sat.seq ?_
  refine Sat.region ?_
  refine Tr.move rfl rfl rfl ?_
  refine Tr.assign rfl rfl rfl ?_
  refine Tr.nil ?_
  refine at_n ?_
  refine Sat.draw [(0, 0), (0, 1), (1, 2), (0, 3), (0, 4), (1, 5), (0, 6), (0, 7), (4, 8)] Mixed (by kernel_rfl) ?_
  refine Tr.move rfl rfl rfl ?_
  first
    | refine Tr.idxArr1 rfl rfl rfl rfl Try.underlying103 Sz65 1 rfl oM ?_
    | refine Tr.idxArrO rfl rfl rfl rfl Try.underlying103 Sz65 1 rfl oM ?_
  refine Tr.load1 rfl rfl rfl Try.underlying65 rfl mM (by first | rfl | exact get_words (by first | omega | (simp [W5.l_length, fb_length, qtA_length, set8_length, ha, hb]; done) | (simp [W5.l_length, fb_length, qtA_length, set8_length, ha, hb]; omega)) | exact get_bytes (by first | omega | (simp [W5.l_length, fb_length, qtA_length, set8_length, ha, hb]; done) | (simp [W5.l_length, fb_length, qtA_length, set8_length, ha, hb]; omega)) | exact get_ints (by first | omega | (simp [W5.l_length, fb_length, qtA_length, set8_length, ha, hb]; done) | (simp [W5.l_length, fb_length, qtA_length, set8_length, ha, hb]; omega))) ?_
  refine Tr.move rfl rfl rfl ?_
  first
    | refine Tr.idxArr1 rfl rfl rfl rfl Try.underlying103 Sz65 1 rfl oM ?_
    | refine Tr.idxArrO rfl rfl rfl rfl Try.underlying103 Sz65 1 rfl oM ?_
  refine Tr.load1 rfl rfl rfl Try.underlying65 rfl mM (by first | rfl | exact get_words (by first | omega | (simp [W5.l_length, fb_length, qtA_length, set8_length, ha, hb]; done) | (simp [W5.l_length, fb_length, qtA_length, set8_length, ha, hb]; omega)) | exact get_bytes (by first | omega | (simp [W5.l_length, fb_length, qtA_length, set8_length, ha, hb]; done) | (simp [W5.l_length, fb_length, qtA_length, set8_length, ha, hb]; omega)) | exact get_ints (by first | omega | (simp [W5.l_length, fb_length, qtA_length, set8_length, ha, hb]; done) | (simp [W5.l_length, fb_length, qtA_length, set8_length, ha, hb]; omega))) ?_
  refine Tr.add_u64 rfl rfl rfl rfl ?_
  first
    | refine Tr.idxArr1 rfl rfl rfl rfl Try.underlying103 Sz65 1 rfl oM ?_
    | refine Tr.idxArrO rfl rfl rfl rfl Try.underlying103 Sz65 1 rfl oM ?_
  refine Tr.store1 rfl rfl rfl rfl rfl Sz65 mM (by first | (simp [W5.l_length, fb_length, qtA_length, set8_length, ha, hb]; done) | (simp [W5.l_length, fb_length, qtA_length, set8_length, ha, hb]; omega)) sT uU ?_
  refine Tr.nil ?_
  refine bl_n ?_
  refine at_n ?_
  refine Sat.region ?_
  refine Tr.add_i64 rfl rfl rfl rfl oM ?_
  refine Tr.move rfl rfl rfl ?_
  refine Tr.nil ?_
  refine at_n (SRounds.more ?_)
  refine Sat.seq ?_
  refine Sat.region ?_
  refine Tr.lss rfl rfl rfl rfl rfl ?_
  refine Tr.nil ?_
  refine at_n ?_
  refine Sat.seq ?_
  refine Sat.cond_t rfl (rfl) ?_
  refine Sat.skip ?_
  refine at_n ?_
  refine Sat.seq ?_
  refine Sat.block ?_
  refine Sat.seq ?_
  refine Sat.region ?_
  refine Tr.move rfl rfl rfl ?_
  refine Tr.assign rfl rfl rfl ?_
  refine Tr.nil ?_
  refine at_n ?_
  refine Sat.draw [(0, 0), (0, 1), (1, 2), (0, 3), (0, 4), (1, 5), (0, 6), (0, 7), (4, 8)] Mixed (by kernel_rfl) ?_
  refine Tr.move rfl rfl rfl ?_
  first
    | refine Tr.idxArr1 rfl rfl rfl rfl Try.underlying103 Sz65 2 rfl oM ?_
    | refine Tr.idxArrO rfl rfl rfl rfl Try.underlying103 Sz65 2 rfl oM ?_
  refine Tr.load1 rfl rfl rfl Try.underlying65 rfl mM (by first | rfl | exact get_words (by first | omega | (simp [W5.l_length, fb_length, qtA_length, set8_length, ha, hb]; done) | (simp [W5.l_length, fb_length, qtA_length, set8_length, ha, hb]; omega)) | exact get_bytes (by first | omega | (simp [W5.l_length, fb_length, qtA_length, set8_length, ha, hb]; done) | (simp [W5.l_length, fb_length, qtA_length, set8_length, ha, hb]; omega)) | exact get_ints (by first | omega | (simp [W5.l_length, fb_length, qtA_length, set8_length, ha, hb]; done) | (simp [W5.l_length, fb_length, qtA_length, set8_length, ha, hb]; omega))) ?_
  refine Tr.move rfl rfl rfl ?_
  first
    | refine Tr.idxArr1 rfl rfl rfl rfl Try.underlying103 Sz65 2 rfl oM ?_
    | refine Tr.idxArrO rfl rfl rfl rfl Try.underlying103 Sz65 2 rfl oM ?_
  refine Tr.load1 rfl rfl rfl Try.underlying65 rfl mM (by first | rfl | exact get_words (by first | omega | (simp [W5.l_length, fb_length, qtA_length, set8_length, ha, hb]; done) | (simp [W5.l_length, fb_length, qtA_length, set8_length, ha, hb]; omega)) | exact get_bytes (by first | omega | (simp [W5.l_length, fb_length, qtA_length, set8_length, ha, hb]; done) | (simp [W5.l_length, fb_length, qtA_length, set8_length, ha, hb]; omega)) | exact get_ints (by first | omega | (simp [W5.l_length, fb_length, qtA_length, set8_length, ha, hb]; done) | (simp [W5.l_length, fb_length, qtA_length, set8_length, ha, hb]; omega))) ?_
  refine Tr.add_u64 rfl rfl rfl rfl ?_
  first
    | refine Tr.idxArr1 rfl rfl rfl rfl Try.underlying103 Sz65 2 rfl oM ?_
    | refine Tr.idxArrO rfl rfl rfl rfl Try.underlying103 Sz65 2 rfl oM ?_
  refine Tr.store1 rfl rfl rfl rfl rfl Sz65 mM (by first | (simp [W5.l_length, fb_length, qtA_length, set8_length, ha, hb]; done) | (simp [W5.l_length, fb_length, qtA_length, set8_length, ha, hb]; omega)) sT uU ?_
  refine Tr.nil ?_
  refine bl_n ?_
  refine at_n ?_
  refine Sat.region ?_
  refine Tr.add_i64 rfl rfl rfl rfl oM ?_
  refine Tr.move rfl rfl rfl ?_
  refine Tr.nil ?_
  refine at_n (SRounds.more ?_)
  refine Sat.seq ?_
  refine Sat.region ?_
  refine Tr.lss rfl rfl rfl rfl rfl ?_
  refine Tr.nil ?_
  refine at_n ?_
  refine Sat.seq ?_
  refine Sat.cond_t rfl (rfl) ?_
  refine Sat.skip ?_
  refine at_n ?_
  refine Sat.seq ?_
  refine Sat.block ?_
  refine Sat.seq ?_
  refine Sat.region ?_
  refine Tr.move rfl rfl rfl ?_
  refine Tr.assign rfl rfl rfl ?_
  refine Tr.nil ?_
  refine at_n ?_
  refine Sat.draw [(0, 0), (0, 1), (1, 2), (0, 3), (0, 4), (1, 5), (0, 6), (0, 7), (4, 8)] Mixed (by kernel_rfl) ?_
  refine Tr.move rfl rfl rfl ?_
  first
    | refine Tr.idxArr1 rfl rfl rfl rfl Try.underlying103 Sz65 3 rfl oM ?_
    | refine Tr.idxArrO rfl rfl rfl rfl Try.underlying103 Sz65 3 rfl oM ?_
  refine Tr.load1 rfl rfl rfl Try.underlying65 rfl mM (by first | rfl | exact get_words (by first | omega | (simp [W5.l_length, fb_length, qtA_length, set8_length, ha, hb]; done) | (simp [W5.l_length, fb_length, qtA_length, set8_length, ha, hb]; omega)) | exact get_bytes (by first | omega | (simp [W5.l_length, fb_length, qtA_length, set8_length, ha, hb]; done) | (simp [W5.l_length, fb_length, qtA_length, set8_length, ha, hb]; omega)) | exact get_ints (by first | omega | (simp [W5.l_length, fb_length, qtA_length, set8_length, ha, hb]; done) | (simp [W5.l_length, fb_length, qtA_length, set8_length, ha, hb]; omega))) ?_
  refine Tr.move rfl rfl rfl ?_
  first
    | refine Tr.idxArr1 rfl rfl rfl rfl Try.underlying103 Sz65 3 rfl oM ?_
    | refine Tr.idxArrO rfl rfl rfl rfl Try.underlying103 Sz65 3 rfl oM ?_
  refine Tr.load1 rfl rfl rfl Try.underlying65 rfl mM (by first | rfl | exact get_words (by first | omega | (simp [W5.l_length, fb_length, qtA_length, set8_length, ha, hb]; done) | (simp [W5.l_length, fb_length, qtA_length, set8_length, ha, hb]; omega)) | exact get_bytes (by first | omega | (simp [W5.l_length, fb_length, qtA_length, set8_length, ha, hb]; done) | (simp [W5.l_length, fb_length, qtA_length, set8_length, ha, hb]; omega)) | exact get_ints (by first | omega | (simp [W5.l_length, fb_length, qtA_length, set8_length, ha, hb]; done) | (simp [W5.l_length, fb_length, qtA_length, set8_length, ha, hb]; omega))) ?_
  refine Tr.add_u64 rfl rfl rfl rfl ?_
  first
    | refine Tr.idxArr1 rfl rfl rfl rfl Try.underlying103 Sz65 3 rfl oM ?_
    | refine Tr.idxArrO rfl rfl rfl rfl Try.underlying103 Sz65 3 rfl oM ?_
  refine Tr.store1 rfl rfl rfl rfl rfl Sz65 mM (by first | (simp [W5.l_length, fb_length, qtA_length, set8_length, ha, hb]; done) | (simp [W5.l_length, fb_length, qtA_length, set8_length, ha, hb]; omega)) sT uU ?_
  refine Tr.nil ?_
  refine bl_n ?_
  refine at_n ?_
  refine Sat.region ?_
  refine Tr.add_i64 rfl rfl rfl rfl oM ?_
  refine Tr.move rfl rfl rfl ?_
  refine Tr.nil ?_
  refine at_n (SRounds.more ?_)
  refine Sat.seq ?_
  refine Sat.region ?_
  refine Tr.lss rfl rfl rfl rfl rfl ?_
  refine Tr.nil ?_
  refine at_n ?_
  refine Sat.seq ?_
  refine Sat.cond_t rfl (rfl) ?_
  refine Sat.skip ?_
  refine at_n ?_
  refine Sat.seq ?_
  refine Sat.block ?_
  refine Sat.seq ?_
  refine Sat.region ?_
  refine Tr.move rfl rfl rfl ?_
  refine Tr.assign rfl rfl rfl ?_
  refine Tr.nil ?_
  refine at_n ?_
  refine Sat.draw [(0, 0), (0, 1), (1, 2), (0, 3), (0, 4), (1, 5), (0, 6), (0, 7), (4, 8)] Mixed (by kernel_rfl) ?_
  refine Tr.move rfl rfl rfl ?_
  first
    | refine Tr.idxArr1 rfl rfl rfl rfl Try.underlying103 Sz65 4 rfl oM ?_
    | refine Tr.idxArrO rfl rfl rfl rfl Try.underlying103 Sz65 4 rfl oM ?_
  refine Tr.load1 rfl rfl rfl Try.underlying65 rfl mM (by first | rfl | exact get_words (by first | omega | (simp [W5.l_length, fb_length, qtA_length, set8_length, ha, hb]; done) | (simp [W5.l_length, fb_length, qtA_length, set8_length, ha, hb]; omega)) | exact get_bytes (by first | omega | (simp [W5.l_length, fb_length, qtA_length, set8_length, ha, hb]; done) | (simp [W5.l_length, fb_length, qtA_length, set8_length, ha, hb]; omega)) | exact get_ints (by first | omega | (simp [W5.l_length, fb_length, qtA_length, set8_length, ha, hb]; done) | (simp [W5.l_length, fb_length, qtA_length, set8_length, ha, hb]; omega))) ?_
  refine Tr.move rfl rfl rfl ?_
  first
    | refine Tr.idxArr1 rfl rfl rfl rfl Try.underlying103 Sz65 4 rfl oM ?_
    | refine Tr.idxArrO rfl rfl rfl rfl Try.underlying103 Sz65 4 rfl oM ?_
  refine Tr.load1 rfl rfl rfl Try.underlying65 rfl mM (by first | rfl | exact get_words (by first | omega | (simp [W5.l_length, fb_length, qtA_length, set8_length, ha, hb]; done) | (simp [W5.l_length, fb_length, qtA_length, set8_length, ha, hb]; omega)) | exact get_bytes (by first | omega | (simp [W5.l_length, fb_length, qtA_length, set8_length, ha, hb]; done) | (simp [W5.l_length, fb_length, qtA_length, set8_length, ha, hb]; omega)) | exact get_ints (by first | omega | (simp [W5.l_length, fb_length, qtA_length, set8_length, ha, hb]; done) | (simp [W5.l_length, fb_length, qtA_length, set8_length, ha, hb]; omega))) ?_
  refine Tr.add_u64 rfl rfl rfl rfl ?_
  first
    | refine Tr.idxArr1 rfl rfl rfl rfl Try.underlying103 Sz65 4 rfl oM ?_
    | refine Tr.idxArrO rfl rfl rfl rfl Try.underlying103 Sz65 4 rfl oM ?_
  refine Tr.store1 rfl rfl rfl rfl rfl Sz65 mM (by first | (simp [W5.l_length, fb_length, qtA_length, set8_length, ha, hb]; done) | (simp [W5.l_length, fb_length, qtA_length, set8_length, ha, hb]; omega)) sT uU ?_
  refine Tr.nil ?_
  refine bl_n ?_
  refine at_n ?_
  refine Sat.region ?_
  refine Tr.add_i64 rfl rfl rfl rfl oM ?_
  refine Tr.move rfl rfl rfl ?_
  refine Tr.nil ?_
  refine at_n (SRounds.more ?_)
  refine Sat.seq ?_
  refine Sat.region ?_
  refine Tr.lss rfl rfl rfl rfl rfl ?_
  refine Tr.nil ?_
  refine at_n ?_
  refine Sat.seq ?_
  refine Sat.cond_f rfl (rfl) ?_
  refine Sat.exit ?_
  refine at_x ?_
  refine at_x ?_
  refine bl_h ?_
  refine at_n ?_
  refine Sat.seq ?_
  refine Sat.region ?_
  first
    | refine Tr.loadAll rfl rfl rfl Try.underlying103 rfl Sz103 mM (by first | (simp [W5.l_length, fb_length, qtA_length, set8_length, ha, hb]; done) | assumption | (rw [bytesV, List.length_map]; assumption)) ?_
    | refine Tr.loadN _ rfl rfl rfl Try.underlying103 rfl Sz103 mM (by exact rfl) (by first | (simp [W5.l_length, fb_length, qtA_length, set8_length, ha, hb]; done) | assumption | (rw [bytesV, List.length_map]; assumption)) ?_
  refine Tr.callV rfl rfl rfl rfl Body82 (field_store (addF (ldN a) (ldN b))) (fun _ _ => trivial) ?_
  first
    | refine Tr.storeAll rfl rfl rfl rfl cB Sz30 (by first | (simp [W5.l_length, fb_length, qtA_length, set8_length, ha, hb]; done) | assumption | (rw [bytesV, List.length_map]; assumption)) mM (by first | (simp [W5.l_length, fb_length, qtA_length, set8_length, ha, hb]; done) | assumption | (rw [bytesV, List.length_map]; assumption)) uU ?_
    | refine Tr.storeN _ rfl rfl rfl rfl rfl cB Sz30 (by first | (simp [W5.l_length, fb_length, qtA_length, set8_length, ha, hb]; done) | assumption | (rw [bytesV, List.length_map]; assumption)) mM (by first | (simp [W5.l_length, fb_length, qtA_length, set8_length, ha, hb]; done) | assumption | (rw [bytesV, List.length_map]; assumption)) (by exact rfl) uU ?_
  refine Tr.nil ?_
  refine at_n ?_
  refine Sat.ret ?_
  refine en_r ?_
  refine ⟨_, [], res_cell rfl rfl Try.underlying30 rfl Sz30 mM (by simp [W5.l_length, fb_length, qtA_length, set8_length, ha, hb]), sP, sP, ?_, rfl⟩
  rw [addF_fe ha hb]

set_option maxRecDepth 100000 in
set_option maxHeartbeats 2000000 in
theorem field_Sub (a b : List UInt8) (ha : a.length = 32) (hb : b.length = 32) : Meets Try.prog 48 [agg (bytesV a), agg (bytesV b)] [] (fun _ => True) (fun v out => v = agg (bytesV (fb (fe (le a) - fe (le b)))) ∧ out = []) := by
  intro W hW
  refine calls_of (hp0 := []) Try.func48 rfl 34 Try.ntmps48 rfl (HRep.nil _) ?_
  refine Sat.seq ?_
  refine Sat.region ?_
  refine Tr.boxA rfl rfl ?_
  intro n2 hn2 hf2
  refine Tr.boxA rfl rfl ?_
  intro n3 hn3 hf3
  refine Tr.alloc (cs := (bytesV (List.replicate 32 0))) rfl Zr30 rfl ?_
  intro n4 hn4 hf4
  refine Tr.nil ?_
  refine at_n ?_
  refine Sat.seq ?_
  refine Sat.draw [(1, 0), (1, 2), (3, 1), (3, 3), (2, 4), (2, 5), (4, 6), (4, 7)] Mixed (by kernel_rfl) ?_
  first
    | refine Tr.loadAll rfl rfl rfl Try.underlying30 rfl Sz30 mM (by first | (simp [W5.l_length, fb_length, qtA_length, set8_length, ha, hb]; done) | assumption | (rw [bytesV, List.length_map]; assumption)) ?_
    | refine Tr.loadN _ rfl rfl rfl Try.underlying30 rfl Sz30 mM (by exact rfl) (by first | (simp [W5.l_length, fb_length, qtA_length, set8_length, ha, hb]; done) | assumption | (rw [bytesV, List.length_map]; assumption)) ?_
  first
    | refine Tr.loadAll rfl rfl rfl Try.underlying30 rfl Sz30 mM (by first | (simp [W5.l_length, fb_length, qtA_length, set8_length, ha, hb]; done) | assumption | (rw [bytesV, List.length_map]; assumption)) ?_
    | refine Tr.loadN _ rfl rfl rfl Try.underlying30 rfl Sz30 mM (by exact rfl) (by first | (simp [W5.l_length, fb_length, qtA_length, set8_length, ha, hb]; done) | assumption | (rw [bytesV, List.length_map]; assumption)) ?_
  refine Tr.callV rfl rfl rfl rfl Body80 (field_load a ha) (fun _ _ => trivial) ?_
  refine Tr.callV rfl rfl rfl rfl Body80 (field_load b hb) (fun _ _ => trivial) ?_
  refine Tr.alloc (cs := (wordsV (List.replicate 5 0))) rfl Zr103 rfl ?_
  intro n5 hn5 hf5
  refine Tr.alloc (cs := (wordsV (List.replicate 5 0))) rfl Zr103 rfl ?_
  intro n6 hn6 hf6
  first
    | refine Tr.storeAll rfl rfl rfl rfl cB Sz103 (by first | (simp [W5.l_length, fb_length, qtA_length, set8_length, ha, hb]; done) | assumption | (rw [bytesV, List.length_map]; assumption)) mM (by first | (simp [W5.l_length, fb_length, qtA_length, set8_length, ha, hb]; done) | assumption | (rw [bytesV, List.length_map]; assumption)) uU ?_
    | refine Tr.storeN _ rfl rfl rfl rfl rfl cB Sz103 (by first | (simp [W5.l_length, fb_length, qtA_length, set8_length, ha, hb]; done) | assumption | (rw [bytesV, List.length_map]; assumption)) mM (by first | (simp [W5.l_length, fb_length, qtA_length, set8_length, ha, hb]; done) | assumption | (rw [bytesV, List.length_map]; assumption)) (by exact rfl) uU ?_
  first
    | refine Tr.storeAll rfl rfl rfl rfl cB Sz103 (by first | (simp [W5.l_length, fb_length, qtA_length, set8_length, ha, hb]; done) | assumption | (rw [bytesV, List.length_map]; assumption)) mM (by first | (simp [W5.l_length, fb_length, qtA_length, set8_length, ha, hb]; done) | assumption | (rw [bytesV, List.length_map]; assumption)) uU ?_
    | refine Tr.storeN _ rfl rfl rfl rfl rfl cB Sz103 (by first | (simp [W5.l_length, fb_length, qtA_length, set8_length, ha, hb]; done) | assumption | (rw [bytesV, List.length_map]; assumption)) mM (by first | (simp [W5.l_length, fb_length, qtA_length, set8_length, ha, hb]; done) | assumption | (rw [bytesV, List.length_map]; assumption)) (by exact rfl) uU ?_
  refine Tr.nil ?_
  refine at_n ?_
  refine Sat.seq ?_
  refine Sat.region ?_
  first
    | refine Tr.idxArr1 rfl rfl rfl rfl Try.underlying103 Sz65 0 rfl dE ?_
    | refine Tr.idxArrO rfl rfl rfl rfl Try.underlying103 Sz65 0 rfl dE ?_
  refine Tr.load1 rfl rfl rfl Try.underlying65 rfl mM (by first | rfl | exact get_words (by first | omega | (simp [W5.l_length, fb_length, qtA_length, set8_length, ha, hb]; done) | (simp [W5.l_length, fb_length, qtA_length, set8_length, ha, hb]; omega)) | exact get_bytes (by first | omega | (simp [W5.l_length, fb_length, qtA_length, set8_length, ha, hb]; done) | (simp [W5.l_length, fb_length, qtA_length, set8_length, ha, hb]; omega)) | exact get_ints (by first | omega | (simp [W5.l_length, fb_length, qtA_length, set8_length, ha, hb]; done) | (simp [W5.l_length, fb_length, qtA_length, set8_length, ha, hb]; omega))) ?_
  first
    | refine Tr.idxArr1 rfl rfl rfl rfl Try.underlying103 Sz65 0 rfl dE ?_
    | refine Tr.idxArrO rfl rfl rfl rfl Try.underlying103 Sz65 0 rfl dE ?_
  refine Tr.load1 rfl rfl rfl Try.underlying65 rfl mM (by first | rfl | exact get_words (by first | omega | (simp [W5.l_length, fb_length, qtA_length, set8_length, ha, hb]; done) | (simp [W5.l_length, fb_length, qtA_length, set8_length, ha, hb]; omega)) | exact get_bytes (by first | omega | (simp [W5.l_length, fb_length, qtA_length, set8_length, ha, hb]; done) | (simp [W5.l_length, fb_length, qtA_length, set8_length, ha, hb]; omega)) | exact get_ints (by first | omega | (simp [W5.l_length, fb_length, qtA_length, set8_length, ha, hb]; done) | (simp [W5.l_length, fb_length, qtA_length, set8_length, ha, hb]; omega))) ?_
  refine Tr.sub_u64 rfl rfl (show evIn _ _ = some (u64 9007199254740916) from rfl) rfl ?_
  refine Tr.add_u64 rfl rfl rfl rfl ?_
  first
    | refine Tr.idxArr1 rfl rfl rfl rfl Try.underlying103 Sz65 0 rfl dE ?_
    | refine Tr.idxArrO rfl rfl rfl rfl Try.underlying103 Sz65 0 rfl dE ?_
  refine Tr.store1 rfl rfl rfl rfl rfl Sz65 mM (by first | (simp [W5.l_length, fb_length, qtA_length, set8_length, ha, hb]; done) | (simp [W5.l_length, fb_length, qtA_length, set8_length, ha, hb]; omega)) sT uU ?_
  refine Tr.nil ?_
  refine at_n ?_
  refine Sat.seq ?_
  refine Sat.seq ?_
  refine Sat.region ?_
  refine Tr.assign rfl rfl rfl ?_
  refine Tr.nil ?_
  refine at_n ?_
  refine Sat.block ?_
  refine Sat.rounds 5 (SRounds.more ?_)
  refine Sat.seq ?_
  refine Sat.seq ?_
  refine Sat.region ?_
  refine Tr.move rfl rfl rfl ?_
  refine Tr.lss rfl rfl rfl rfl rfl ?_
  refine Tr.nil ?_
  refine at_n ?_
  refine Sat.cond_t rfl (rfl) ?_
  refine Sat.skip ?_
  refine at_n ?_
  refine Sat.seq ?_
  refine Sat.block ?_
  refine Sat.draw [(0, 0), (0, 1), (1, 2), (0, 3), (0, 4), (1, 5), (0, 6), (0, 7), (0, 8), (4, 9)] Mixed (by kernel_rfl) ?_
  refine Tr.move rfl rfl rfl ?_
  first
    | refine Tr.idxArr1 rfl rfl rfl rfl Try.underlying103 Sz65 1 rfl oM ?_
    | refine Tr.idxArrO rfl rfl rfl rfl Try.underlying103 Sz65 1 rfl oM ?_
  refine Tr.load1 rfl rfl rfl Try.underlying65 rfl mM (by first | rfl | exact get_words (by first | omega | (simp [W5.l_length, fb_length, qtA_length, set8_length, ha, hb]; done) | (simp [W5.l_length, fb_length, qtA_length, set8_length, ha, hb]; omega)) | exact get_bytes (by first | omega | (simp [W5.l_length, fb_length, qtA_length, set8_length, ha, hb]; done) | (simp [W5.l_length, fb_length, qtA_length, set8_length, ha, hb]; omega)) | exact get_ints (by first | omega | (simp [W5.l_length, fb_length, qtA_length, set8_length, ha, hb]; done) | (simp [W5.l_length, fb_length, qtA_length, set8_length, ha, hb]; omega))) ?_
  refine Tr.move rfl rfl rfl ?_
  first
    | refine Tr.idxArr1 rfl rfl rfl rfl Try.underlying103 Sz65 1 rfl oM ?_
    | refine Tr.idxArrO rfl rfl rfl rfl Try.underlying103 Sz65 1 rfl oM ?_
  refine Tr.load1 rfl rfl rfl Try.underlying65 rfl mM (by first | rfl | exact get_words (by first | omega | (simp [W5.l_length, fb_length, qtA_length, set8_length, ha, hb]; done) | (simp [W5.l_length, fb_length, qtA_length, set8_length, ha, hb]; omega)) | exact get_bytes (by first | omega | (simp [W5.l_length, fb_length, qtA_length, set8_length, ha, hb]; done) | (simp [W5.l_length, fb_length, qtA_length, set8_length, ha, hb]; omega)) | exact get_ints (by first | omega | (simp [W5.l_length, fb_length, qtA_length, set8_length, ha, hb]; done) | (simp [W5.l_length, fb_length, qtA_length, set8_length, ha, hb]; omega))) ?_
  refine Tr.sub_u64 rfl rfl (show evIn _ _ = some (u64 9007199254740988) from rfl) rfl ?_
  refine Tr.add_u64 rfl rfl rfl rfl ?_
  first
    | refine Tr.idxArr1 rfl rfl rfl rfl Try.underlying103 Sz65 1 rfl oM ?_
    | refine Tr.idxArrO rfl rfl rfl rfl Try.underlying103 Sz65 1 rfl oM ?_
  refine Tr.store1 rfl rfl rfl rfl rfl Sz65 mM (by first | (simp [W5.l_length, fb_length, qtA_length, set8_length, ha, hb]; done) | (simp [W5.l_length, fb_length, qtA_length, set8_length, ha, hb]; omega)) sT uU ?_
  refine Tr.nil ?_
  refine bl_n ?_
  refine at_n ?_
  refine Sat.region ?_
  refine Tr.move rfl rfl rfl ?_
  refine Tr.add_i64 rfl rfl rfl rfl oM ?_
  refine Tr.assign rfl rfl rfl ?_
  refine Tr.nil ?_
  refine at_n (SRounds.more ?_)
  refine Sat.seq ?_
  refine Sat.seq ?_
  refine Sat.region ?_
  refine Tr.move rfl rfl rfl ?_
  refine Tr.lss rfl rfl rfl rfl rfl ?_
  refine Tr.nil ?_
  refine at_n ?_
  refine Sat.cond_t rfl (rfl) ?_
  refine Sat.skip ?_
  refine at_n ?_
  refine Sat.seq ?_
  refine Sat.block ?_
  refine Sat.draw [(0, 0), (0, 1), (1, 2), (0, 3), (0, 4), (1, 5), (0, 6), (0, 7), (0, 8), (4, 9)] Mixed (by kernel_rfl) ?_
  refine Tr.move rfl rfl rfl ?_
  first
    | refine Tr.idxArr1 rfl rfl rfl rfl Try.underlying103 Sz65 2 rfl oM ?_
    | refine Tr.idxArrO rfl rfl rfl rfl Try.underlying103 Sz65 2 rfl oM ?_
  refine Tr.load1 rfl rfl rfl Try.underlying65 rfl mM (by first | rfl | exact get_words (by first | omega | (simp [W5.l_length, fb_length, qtA_length, set8_length, ha, hb]; done) | (simp [W5.l_length, fb_length, qtA_length, set8_length, ha, hb]; omega)) | exact get_bytes (by first | omega | (simp [W5.l_length, fb_length, qtA_length, set8_length, ha, hb]; done) | (simp [W5.l_length, fb_length, qtA_length, set8_length, ha, hb]; omega)) | exact get_ints (by first | omega | (simp [W5.l_length, fb_length, qtA_length, set8_length, ha, hb]; done) | (simp [W5.l_length, fb_length, qtA_length, set8_length, ha, hb]; omega))) ?_
  refine Tr.move rfl rfl rfl ?_
  first
    | refine Tr.idxArr1 rfl rfl rfl rfl Try.underlying103 Sz65 2 rfl oM ?_
    | refine Tr.idxArrO rfl rfl rfl rfl Try.underlying103 Sz65 2 rfl oM ?_
  refine Tr.load1 rfl rfl rfl Try.underlying65 rfl mM (by first | rfl | exact get_words (by first | omega | (simp [W5.l_length, fb_length, qtA_length, set8_length, ha, hb]; done) | (simp [W5.l_length, fb_length, qtA_length, set8_length, ha, hb]; omega)) | exact get_bytes (by first | omega | (simp [W5.l_length, fb_length, qtA_length, set8_length, ha, hb]; done) | (simp [W5.l_length, fb_length, qtA_length, set8_length, ha, hb]; omega)) | exact get_ints (by first | omega | (simp [W5.l_length, fb_length, qtA_length, set8_length, ha, hb]; done) | (simp [W5.l_length, fb_length, qtA_length, set8_length, ha, hb]; omega))) ?_
  refine Tr.sub_u64 rfl rfl (show evIn _ _ = some (u64 9007199254740988) from rfl) rfl ?_
  refine Tr.add_u64 rfl rfl rfl rfl ?_
  first
    | refine Tr.idxArr1 rfl rfl rfl rfl Try.underlying103 Sz65 2 rfl oM ?_
    | refine Tr.idxArrO rfl rfl rfl rfl Try.underlying103 Sz65 2 rfl oM ?_
  refine Tr.store1 rfl rfl rfl rfl rfl Sz65 mM (by first | (simp [W5.l_length, fb_length, qtA_length, set8_length, ha, hb]; done) | (simp [W5.l_length, fb_length, qtA_length, set8_length, ha, hb]; omega)) sT uU ?_
  refine Tr.nil ?_
  refine bl_n ?_
  refine at_n ?_
  refine Sat.region ?_
  refine Tr.move rfl rfl rfl ?_
  refine Tr.add_i64 rfl rfl rfl rfl oM ?_
  refine Tr.assign rfl rfl rfl ?_
  refine Tr.nil ?_
  refine at_n (SRounds.more ?_)
  refine Sat.seq ?_
  refine Sat.seq ?_
  refine Sat.region ?_
  refine Tr.move rfl rfl rfl ?_
  refine Tr.lss rfl rfl rfl rfl rfl ?_
  refine Tr.nil ?_
  refine at_n ?_
  refine Sat.cond_t rfl (rfl) ?_
  refine Sat.skip ?_
  refine at_n ?_
  refine Sat.seq ?_
  refine Sat.block ?_
  refine Sat.draw [(0, 0), (0, 1), (1, 2), (0, 3), (0, 4), (1, 5), (0, 6), (0, 7), (0, 8), (4, 9)] Mixed (by kernel_rfl) ?_
  refine Tr.move rfl rfl rfl ?_
  first
    | refine Tr.idxArr1 rfl rfl rfl rfl Try.underlying103 Sz65 3 rfl oM ?_
    | refine Tr.idxArrO rfl rfl rfl rfl Try.underlying103 Sz65 3 rfl oM ?_
  refine Tr.load1 rfl rfl rfl Try.underlying65 rfl mM (by first | rfl | exact get_words (by first | omega | (simp [W5.l_length, fb_length, qtA_length, set8_length, ha, hb]; done) | (simp [W5.l_length, fb_length, qtA_length, set8_length, ha, hb]; omega)) | exact get_bytes (by first | omega | (simp [W5.l_length, fb_length, qtA_length, set8_length, ha, hb]; done) | (simp [W5.l_length, fb_length, qtA_length, set8_length, ha, hb]; omega)) | exact get_ints (by first | omega | (simp [W5.l_length, fb_length, qtA_length, set8_length, ha, hb]; done) | (simp [W5.l_length, fb_length, qtA_length, set8_length, ha, hb]; omega))) ?_
  refine Tr.move rfl rfl rfl ?_
  first
    | refine Tr.idxArr1 rfl rfl rfl rfl Try.underlying103 Sz65 3 rfl oM ?_
    | refine Tr.idxArrO rfl rfl rfl rfl Try.underlying103 Sz65 3 rfl oM ?_
  refine Tr.load1 rfl rfl rfl Try.underlying65 rfl mM (by first | rfl | exact get_words (by first | omega | (simp [W5.l_length, fb_length, qtA_length, set8_length, ha, hb]; done) | (simp [W5.l_length, fb_length, qtA_length, set8_length, ha, hb]; omega)) | exact get_bytes (by first | omega | (simp [W5.l_length, fb_length, qtA_length, set8_length, ha, hb]; done) | (simp [W5.l_length, fb_length, qtA_length, set8_length, ha, hb]; omega)) | exact get_ints (by first | omega | (simp [W5.l_length, fb_length, qtA_length, set8_length, ha, hb]; done) | (simp [W5.l_length, fb_length, qtA_length, set8_length, ha, hb]; omega))) ?_
  refine Tr.sub_u64 rfl rfl (show evIn _ _ = some (u64 9007199254740988) from rfl) rfl ?_
  refine Tr.add_u64 rfl rfl rfl rfl ?_
  first
    | refine Tr.idxArr1 rfl rfl rfl rfl Try.underlying103 Sz65 3 rfl oM ?_
    | refine Tr.idxArrO rfl rfl rfl rfl Try.underlying103 Sz65 3 rfl oM ?_
  refine Tr.store1 rfl rfl rfl rfl rfl Sz65 mM (by first | (simp [W5.l_length, fb_length, qtA_length, set8_length, ha, hb]; done) | (simp [W5.l_length, fb_length, qtA_length, set8_length, ha, hb]; omega)) sT uU ?_
  refine Tr.nil ?_
  refine bl_n ?_
  refine at_n ?_
  refine Sat.region ?_
  refine Tr.move rfl rfl rfl ?_
  refine Tr.add_i64 rfl rfl rfl rfl oM ?_
  refine Tr.assign rfl rfl rfl ?_
  refine Tr.nil ?_
  refine at_n (SRounds.more ?_)
  refine Sat.seq ?_
  refine Sat.seq ?_
  refine Sat.region ?_
  refine Tr.move rfl rfl rfl ?_
  refine Tr.lss rfl rfl rfl rfl rfl ?_
  refine Tr.nil ?_
  refine at_n ?_
  refine Sat.cond_t rfl (rfl) ?_
  refine Sat.skip ?_
  refine at_n ?_
  refine Sat.seq ?_
  refine Sat.block ?_
  refine Sat.draw [(0, 0), (0, 1), (1, 2), (0, 3), (0, 4), (1, 5), (0, 6), (0, 7), (0, 8), (4, 9)] Mixed (by kernel_rfl) ?_
  refine Tr.move rfl rfl rfl ?_
  first
    | refine Tr.idxArr1 rfl rfl rfl rfl Try.underlying103 Sz65 4 rfl oM ?_
    | refine Tr.idxArrO rfl rfl rfl rfl Try.underlying103 Sz65 4 rfl oM ?_
  refine Tr.load1 rfl rfl rfl Try.underlying65 rfl mM (by first | rfl | exact get_words (by first | omega | (simp [W5.l_length, fb_length, qtA_length, set8_length, ha, hb]; done) | (simp [W5.l_length, fb_length, qtA_length, set8_length, ha, hb]; omega)) | exact get_bytes (by first | omega | (simp [W5.l_length, fb_length, qtA_length, set8_length, ha, hb]; done) | (simp [W5.l_length, fb_length, qtA_length, set8_length, ha, hb]; omega)) | exact get_ints (by first | omega | (simp [W5.l_length, fb_length, qtA_length, set8_length, ha, hb]; done) | (simp [W5.l_length, fb_length, qtA_length, set8_length, ha, hb]; omega))) ?_
  refine Tr.move rfl rfl rfl ?_
  first
    | refine Tr.idxArr1 rfl rfl rfl rfl Try.underlying103 Sz65 4 rfl oM ?_
    | refine Tr.idxArrO rfl rfl rfl rfl Try.underlying103 Sz65 4 rfl oM ?_
  refine Tr.load1 rfl rfl rfl Try.underlying65 rfl mM (by first | rfl | exact get_words (by first | omega | (simp [W5.l_length, fb_length, qtA_length, set8_length, ha, hb]; done) | (simp [W5.l_length, fb_length, qtA_length, set8_length, ha, hb]; omega)) | exact get_bytes (by first | omega | (simp [W5.l_length, fb_length, qtA_length, set8_length, ha, hb]; done) | (simp [W5.l_length, fb_length, qtA_length, set8_length, ha, hb]; omega)) | exact get_ints (by first | omega | (simp [W5.l_length, fb_length, qtA_length, set8_length, ha, hb]; done) | (simp [W5.l_length, fb_length, qtA_length, set8_length, ha, hb]; omega))) ?_
  refine Tr.sub_u64 rfl rfl (show evIn _ _ = some (u64 9007199254740988) from rfl) rfl ?_
  refine Tr.add_u64 rfl rfl rfl rfl ?_
  first
    | refine Tr.idxArr1 rfl rfl rfl rfl Try.underlying103 Sz65 4 rfl oM ?_
    | refine Tr.idxArrO rfl rfl rfl rfl Try.underlying103 Sz65 4 rfl oM ?_
  refine Tr.store1 rfl rfl rfl rfl rfl Sz65 mM (by first | (simp [W5.l_length, fb_length, qtA_length, set8_length, ha, hb]; done) | (simp [W5.l_length, fb_length, qtA_length, set8_length, ha, hb]; omega)) sT uU ?_
  refine Tr.nil ?_
  refine bl_n ?_
  refine at_n ?_
  refine Sat.region ?_
  refine Tr.move rfl rfl rfl ?_
  refine Tr.add_i64 rfl rfl rfl rfl oM ?_
  refine Tr.assign rfl rfl rfl ?_
  refine Tr.nil ?_
  refine at_n (SRounds.more ?_)
  refine Sat.seq ?_
  refine Sat.seq ?_
  refine Sat.region ?_
  refine Tr.move rfl rfl rfl ?_
  refine Tr.lss rfl rfl rfl rfl rfl ?_
  refine Tr.nil ?_
  refine at_n ?_
  refine Sat.cond_f rfl (rfl) ?_
  refine Sat.exit ?_
  refine at_x ?_
  refine at_x ?_
  refine bl_h ?_
  refine at_n ?_
  refine Sat.seq ?_
  refine Sat.region ?_
  first
    | refine Tr.loadAll rfl rfl rfl Try.underlying103 rfl Sz103 mM (by first | (simp [W5.l_length, fb_length, qtA_length, set8_length, ha, hb]; done) | assumption | (rw [bytesV, List.length_map]; assumption)) ?_
    | refine Tr.loadN _ rfl rfl rfl Try.underlying103 rfl Sz103 mM (by exact rfl) (by first | (simp [W5.l_length, fb_length, qtA_length, set8_length, ha, hb]; done) | assumption | (rw [bytesV, List.length_map]; assumption)) ?_
  refine Tr.callV rfl rfl rfl rfl Body82 (field_store (subF (ldN a) (ldN b))) (fun _ _ => trivial) ?_
  first
    | refine Tr.storeAll rfl rfl rfl rfl cB Sz30 (by first | (simp [W5.l_length, fb_length, qtA_length, set8_length, ha, hb]; done) | assumption | (rw [bytesV, List.length_map]; assumption)) mM (by first | (simp [W5.l_length, fb_length, qtA_length, set8_length, ha, hb]; done) | assumption | (rw [bytesV, List.length_map]; assumption)) uU ?_
    | refine Tr.storeN _ rfl rfl rfl rfl rfl cB Sz30 (by first | (simp [W5.l_length, fb_length, qtA_length, set8_length, ha, hb]; done) | assumption | (rw [bytesV, List.length_map]; assumption)) mM (by first | (simp [W5.l_length, fb_length, qtA_length, set8_length, ha, hb]; done) | assumption | (rw [bytesV, List.length_map]; assumption)) (by exact rfl) uU ?_
  refine Tr.nil ?_
  refine at_n ?_
  refine Sat.ret ?_
  refine en_r ?_
  refine ⟨_, [], res_cell rfl rfl Try.underlying30 rfl Sz30 mM (by simp [W5.l_length, fb_length, qtA_length, set8_length, ha, hb]), sP, sP, ?_, rfl⟩
  rw [subL_fe ha hb]

set_option maxRecDepth 100000 in
set_option maxHeartbeats 1000000 in
theorem field_Neg (a : List UInt8) (ha : a.length = 32) : Meets Try.prog 54 [agg (bytesV a)] [] (fun _ => True) (fun v out => v = agg (bytesV (fb (- fe (le a)))) ∧ out = []) := by
  intro W hW
  refine calls_of (hp0 := []) Try.func54 rfl 6 Try.ntmps54 rfl (HRep.nil _) ?_
  refine Sat.seq ?_
  refine Sat.region ?_
  refine Tr.boxA rfl rfl ?_
  intro n1 hn1 hf1
  refine Tr.alloc (cs := (bytesV (List.replicate 32 0))) rfl Zr30 rfl ?_
  intro n2 hn2 hf2
  refine Tr.nil ?_
  refine at_n ?_
  refine Sat.seq ?_
  refine Sat.region ?_
  refine Tr.build (cs := bytesV (List.replicate 32 0)) rfl rfl rfl (fun w => by kernel_rfl) ?_
  first
    | refine Tr.loadAll rfl rfl rfl Try.underlying30 rfl Sz30 mM (by first | (simp [W5.l_length, fb_length, qtA_length, set8_length, ha]; done) | assumption | (rw [bytesV, List.length_map]; assumption)) ?_
    | refine Tr.loadN _ rfl rfl rfl Try.underlying30 rfl Sz30 mM (by exact rfl) (by first | (simp [W5.l_length, fb_length, qtA_length, set8_length, ha]; done) | assumption | (rw [bytesV, List.length_map]; assumption)) ?_
  refine Tr.callV rfl rfl rfl rfl Body48 (field_Sub (List.replicate 32 0) a rfl ha) (fun _ _ => trivial) ?_
  first
    | refine Tr.storeAll rfl rfl rfl rfl cB Sz30 (by first | (simp [W5.l_length, fb_length, qtA_length, set8_length, ha]; done) | assumption | (rw [bytesV, List.length_map]; assumption)) mM (by first | (simp [W5.l_length, fb_length, qtA_length, set8_length, ha]; done) | assumption | (rw [bytesV, List.length_map]; assumption)) uU ?_
    | refine Tr.storeN _ rfl rfl rfl rfl rfl cB Sz30 (by first | (simp [W5.l_length, fb_length, qtA_length, set8_length, ha]; done) | assumption | (rw [bytesV, List.length_map]; assumption)) mM (by first | (simp [W5.l_length, fb_length, qtA_length, set8_length, ha]; done) | assumption | (rw [bytesV, List.length_map]; assumption)) (by exact rfl) uU ?_
  refine Tr.nil ?_
  refine at_n ?_
  refine Sat.ret ?_
  refine en_r ?_
  refine ⟨_, [], res_cell rfl rfl Try.underlying30 rfl Sz30 mM (by simp [W5.l_length, fb_length, qtA_length, set8_length, ha]), sP, sP, ?_, rfl⟩
  rw [show fe (le (List.replicate 32 0)) - fe (le a) = - fe (le a) from by rw [show fe (le (List.replicate 32 0)) = 0 by kernel_rfl]; grind]

set_option maxRecDepth 100000 in
set_option maxHeartbeats 1000000 in
theorem field_Mul (a b : List UInt8) (ha : a.length = 32) (hb : b.length = 32) : Meets Try.prog 47 [agg (bytesV a), agg (bytesV b)] [] (fun _ => True) (fun v out => v = agg (bytesV (fb (fe (le a) * fe (le b)))) ∧ out = []) := by
  intro W hW
  refine calls_of (hp0 := []) Try.func47 rfl 13 Try.ntmps47 rfl (HRep.nil _) ?_
  refine Sat.seq ?_
  refine Sat.region ?_
  refine Tr.boxA rfl rfl ?_
  intro n2 hn2 hf2
  refine Tr.boxA rfl rfl ?_
  intro n3 hn3 hf3
  refine Tr.alloc (cs := (bytesV (List.replicate 32 0))) rfl Zr30 rfl ?_
  intro n4 hn4 hf4
  refine Tr.nil ?_
  refine at_n ?_
  refine Sat.seq ?_
  refine Sat.draw [(1, 0), (1, 2), (3, 1), (3, 3), (2, 4), (2, 5), (4, 6), (4, 7)] Mixed (by kernel_rfl) ?_
  first
    | refine Tr.loadAll rfl rfl rfl Try.underlying30 rfl Sz30 mM (by first | (simp [W5.l_length, fb_length, qtA_length, set8_length, ha, hb]; done) | assumption | (rw [bytesV, List.length_map]; assumption)) ?_
    | refine Tr.loadN _ rfl rfl rfl Try.underlying30 rfl Sz30 mM (by exact rfl) (by first | (simp [W5.l_length, fb_length, qtA_length, set8_length, ha, hb]; done) | assumption | (rw [bytesV, List.length_map]; assumption)) ?_
  first
    | refine Tr.loadAll rfl rfl rfl Try.underlying30 rfl Sz30 mM (by first | (simp [W5.l_length, fb_length, qtA_length, set8_length, ha, hb]; done) | assumption | (rw [bytesV, List.length_map]; assumption)) ?_
    | refine Tr.loadN _ rfl rfl rfl Try.underlying30 rfl Sz30 mM (by exact rfl) (by first | (simp [W5.l_length, fb_length, qtA_length, set8_length, ha, hb]; done) | assumption | (rw [bytesV, List.length_map]; assumption)) ?_
  refine Tr.callV rfl rfl rfl rfl Body80 (field_load a ha) (fun _ _ => trivial) ?_
  refine Tr.callV rfl rfl rfl rfl Body80 (field_load b hb) (fun _ _ => trivial) ?_
  refine Tr.alloc (cs := (wordsV (List.replicate 5 0))) rfl Zr103 rfl ?_
  intro n5 hn5 hf5
  refine Tr.alloc (cs := (wordsV (List.replicate 5 0))) rfl Zr103 rfl ?_
  intro n6 hn6 hf6
  first
    | refine Tr.storeAll rfl rfl rfl rfl cB Sz103 (by first | (simp [W5.l_length, fb_length, qtA_length, set8_length, ha, hb]; done) | assumption | (rw [bytesV, List.length_map]; assumption)) mM (by first | (simp [W5.l_length, fb_length, qtA_length, set8_length, ha, hb]; done) | assumption | (rw [bytesV, List.length_map]; assumption)) uU ?_
    | refine Tr.storeN _ rfl rfl rfl rfl rfl cB Sz103 (by first | (simp [W5.l_length, fb_length, qtA_length, set8_length, ha, hb]; done) | assumption | (rw [bytesV, List.length_map]; assumption)) mM (by first | (simp [W5.l_length, fb_length, qtA_length, set8_length, ha, hb]; done) | assumption | (rw [bytesV, List.length_map]; assumption)) (by exact rfl) uU ?_
  first
    | refine Tr.storeAll rfl rfl rfl rfl cB Sz103 (by first | (simp [W5.l_length, fb_length, qtA_length, set8_length, ha, hb]; done) | assumption | (rw [bytesV, List.length_map]; assumption)) mM (by first | (simp [W5.l_length, fb_length, qtA_length, set8_length, ha, hb]; done) | assumption | (rw [bytesV, List.length_map]; assumption)) uU ?_
    | refine Tr.storeN _ rfl rfl rfl rfl rfl cB Sz103 (by first | (simp [W5.l_length, fb_length, qtA_length, set8_length, ha, hb]; done) | assumption | (rw [bytesV, List.length_map]; assumption)) mM (by first | (simp [W5.l_length, fb_length, qtA_length, set8_length, ha, hb]; done) | assumption | (rw [bytesV, List.length_map]; assumption)) (by exact rfl) uU ?_
  refine Tr.nil ?_
  refine at_n ?_
  refine Sat.seq ?_
  refine Sat.region ?_
  refine Tr.callV rfl rfl rfl rfl Body81 (field_product n5 n6 (ldN a) (ldN b)) (fun w h => ⟨sees_own h mM, sees_own h mM⟩) ?_
  refine Tr.callV rfl rfl rfl rfl Body82 (field_store (mulF (ldN a) (ldN b))) (fun _ _ => trivial) ?_
  first
    | refine Tr.storeAll rfl rfl rfl rfl cB Sz30 (by first | (simp [W5.l_length, fb_length, qtA_length, set8_length, ha, hb]; done) | assumption | (rw [bytesV, List.length_map]; assumption)) mM (by first | (simp [W5.l_length, fb_length, qtA_length, set8_length, ha, hb]; done) | assumption | (rw [bytesV, List.length_map]; assumption)) uU ?_
    | refine Tr.storeN _ rfl rfl rfl rfl rfl cB Sz30 (by first | (simp [W5.l_length, fb_length, qtA_length, set8_length, ha, hb]; done) | assumption | (rw [bytesV, List.length_map]; assumption)) mM (by first | (simp [W5.l_length, fb_length, qtA_length, set8_length, ha, hb]; done) | assumption | (rw [bytesV, List.length_map]; assumption)) (by exact rfl) uU ?_
  refine Tr.nil ?_
  refine at_n ?_
  refine Sat.ret ?_
  refine en_r ?_
  refine ⟨_, [], res_cell rfl rfl Try.underlying30 rfl Sz30 mM (by simp [W5.l_length, fb_length, qtA_length, set8_length, ha, hb]), sP, sP, ?_, rfl⟩
  rw [mulL_fe ha hb]

set_option maxRecDepth 100000 in
set_option maxHeartbeats 1000000 in
theorem field_shifted (a b c d : UInt64) : Meets Try.prog 100 [agg (wordsV [a, b, c, d])] [] (fun _ => True) (fun v out => v = agg (wordsV [shl64 a 1, shl64 b 1 ||| shr64 a 63, shl64 c 1 ||| shr64 b 63, shl64 d 1 ||| shr64 c 63]) ∧ out = []) := by
  intro W hW
  refine calls_of (hp0 := []) Try.func100 rfl 25 Try.ntmps100 rfl (HRep.nil _) ?_
  refine Sat.seq ?_
  refine Sat.region ?_
  refine Tr.boxA rfl rfl ?_
  intro n1 hn1 hf1
  refine Tr.alloc (cs := (wordsV (List.replicate 4 0))) rfl Zr66 rfl ?_
  intro n2 hn2 hf2
  refine Tr.nil ?_
  refine at_n ?_
  refine Sat.seq ?_
  refine Sat.seq ?_
  refine Sat.region ?_
  refine Tr.assign rfl rfl rfl ?_
  refine Tr.nil ?_
  refine at_n ?_
  refine Sat.block ?_
  refine Sat.rounds 4 (SRounds.more ?_)
  refine Sat.seq ?_
  refine Sat.seq ?_
  refine Sat.region ?_
  refine Tr.move rfl rfl rfl ?_
  refine Tr.gtr rfl rfl rfl rfl rfl ?_
  refine Tr.nil ?_
  refine at_n ?_
  refine Sat.cond_t rfl (rfl) ?_
  refine Sat.skip ?_
  refine at_n ?_
  refine Sat.seq ?_
  refine Sat.block ?_
  refine Sat.draw [(0, 0), (0, 1), (0, 2), (1, 3), (0, 4), (0, 5), (0, 6), (0, 7), (1, 8), (0, 9), (0, 10), (0, 11), (4, 12)] Mixed (by kernel_rfl) ?_
  refine Tr.move rfl rfl rfl ?_
  refine Tr.move rfl rfl rfl ?_
  first
    | refine Tr.idxArr1 rfl rfl rfl rfl Try.underlying66 Sz65 3 rfl oM ?_
    | refine Tr.idxArrO rfl rfl rfl rfl Try.underlying66 Sz65 3 rfl oM ?_
  refine Tr.load1 rfl rfl rfl Try.underlying65 rfl mM (by first | rfl | exact get_words (by first | omega | (simp [W5.l_length, fb_length, qtA_length, set8_length]; done) | (simp [W5.l_length, fb_length, qtA_length, set8_length]; omega)) | exact get_bytes (by first | omega | (simp [W5.l_length, fb_length, qtA_length, set8_length]; done) | (simp [W5.l_length, fb_length, qtA_length, set8_length]; omega)) | exact get_ints (by first | omega | (simp [W5.l_length, fb_length, qtA_length, set8_length]; done) | (simp [W5.l_length, fb_length, qtA_length, set8_length]; omega))) ?_
  refine Tr.shl_u64 rfl rfl rfl rfl 1 rfl dE ?_
  refine Tr.move rfl rfl rfl ?_
  refine Tr.sub_i64 rfl rfl rfl rfl oM ?_
  first
    | refine Tr.idxArr1 rfl rfl rfl rfl Try.underlying66 Sz65 2 rfl oM ?_
    | refine Tr.idxArrO rfl rfl rfl rfl Try.underlying66 Sz65 2 rfl oM ?_
  refine Tr.load1 rfl rfl rfl Try.underlying65 rfl mM (by first | rfl | exact get_words (by first | omega | (simp [W5.l_length, fb_length, qtA_length, set8_length]; done) | (simp [W5.l_length, fb_length, qtA_length, set8_length]; omega)) | exact get_bytes (by first | omega | (simp [W5.l_length, fb_length, qtA_length, set8_length]; done) | (simp [W5.l_length, fb_length, qtA_length, set8_length]; omega)) | exact get_ints (by first | omega | (simp [W5.l_length, fb_length, qtA_length, set8_length]; done) | (simp [W5.l_length, fb_length, qtA_length, set8_length]; omega))) ?_
  refine Tr.shr_u64 rfl rfl rfl rfl 63 rfl dE ?_
  refine Tr.or_u64 rfl rfl rfl rfl ?_
  first
    | refine Tr.idxArr1 rfl rfl rfl rfl Try.underlying66 Sz65 3 rfl oM ?_
    | refine Tr.idxArrO rfl rfl rfl rfl Try.underlying66 Sz65 3 rfl oM ?_
  refine Tr.store1 rfl rfl rfl rfl rfl Sz65 mM (by first | (simp [W5.l_length, fb_length, qtA_length, set8_length]; done) | (simp [W5.l_length, fb_length, qtA_length, set8_length]; omega)) sT uU ?_
  refine Tr.nil ?_
  refine bl_n ?_
  refine at_n ?_
  refine Sat.region ?_
  refine Tr.move rfl rfl rfl ?_
  refine Tr.sub_i64 rfl rfl rfl rfl oM ?_
  refine Tr.assign rfl rfl rfl ?_
  refine Tr.nil ?_
  refine at_n (SRounds.more ?_)
  refine Sat.seq ?_
  refine Sat.seq ?_
  refine Sat.region ?_
  refine Tr.move rfl rfl rfl ?_
  refine Tr.gtr rfl rfl rfl rfl rfl ?_
  refine Tr.nil ?_
  refine at_n ?_
  refine Sat.cond_t rfl (rfl) ?_
  refine Sat.skip ?_
  refine at_n ?_
  refine Sat.seq ?_
  refine Sat.block ?_
  refine Sat.draw [(0, 0), (0, 1), (0, 2), (1, 3), (0, 4), (0, 5), (0, 6), (0, 7), (1, 8), (0, 9), (0, 10), (0, 11), (4, 12)] Mixed (by kernel_rfl) ?_
  refine Tr.move rfl rfl rfl ?_
  refine Tr.move rfl rfl rfl ?_
  first
    | refine Tr.idxArr1 rfl rfl rfl rfl Try.underlying66 Sz65 2 rfl oM ?_
    | refine Tr.idxArrO rfl rfl rfl rfl Try.underlying66 Sz65 2 rfl oM ?_
  refine Tr.load1 rfl rfl rfl Try.underlying65 rfl mM (by first | rfl | exact get_words (by first | omega | (simp [W5.l_length, fb_length, qtA_length, set8_length]; done) | (simp [W5.l_length, fb_length, qtA_length, set8_length]; omega)) | exact get_bytes (by first | omega | (simp [W5.l_length, fb_length, qtA_length, set8_length]; done) | (simp [W5.l_length, fb_length, qtA_length, set8_length]; omega)) | exact get_ints (by first | omega | (simp [W5.l_length, fb_length, qtA_length, set8_length]; done) | (simp [W5.l_length, fb_length, qtA_length, set8_length]; omega))) ?_
  refine Tr.shl_u64 rfl rfl rfl rfl 1 rfl dE ?_
  refine Tr.move rfl rfl rfl ?_
  refine Tr.sub_i64 rfl rfl rfl rfl oM ?_
  first
    | refine Tr.idxArr1 rfl rfl rfl rfl Try.underlying66 Sz65 1 rfl oM ?_
    | refine Tr.idxArrO rfl rfl rfl rfl Try.underlying66 Sz65 1 rfl oM ?_
  refine Tr.load1 rfl rfl rfl Try.underlying65 rfl mM (by first | rfl | exact get_words (by first | omega | (simp [W5.l_length, fb_length, qtA_length, set8_length]; done) | (simp [W5.l_length, fb_length, qtA_length, set8_length]; omega)) | exact get_bytes (by first | omega | (simp [W5.l_length, fb_length, qtA_length, set8_length]; done) | (simp [W5.l_length, fb_length, qtA_length, set8_length]; omega)) | exact get_ints (by first | omega | (simp [W5.l_length, fb_length, qtA_length, set8_length]; done) | (simp [W5.l_length, fb_length, qtA_length, set8_length]; omega))) ?_
  refine Tr.shr_u64 rfl rfl rfl rfl 63 rfl dE ?_
  refine Tr.or_u64 rfl rfl rfl rfl ?_
  first
    | refine Tr.idxArr1 rfl rfl rfl rfl Try.underlying66 Sz65 2 rfl oM ?_
    | refine Tr.idxArrO rfl rfl rfl rfl Try.underlying66 Sz65 2 rfl oM ?_
  refine Tr.store1 rfl rfl rfl rfl rfl Sz65 mM (by first | (simp [W5.l_length, fb_length, qtA_length, set8_length]; done) | (simp [W5.l_length, fb_length, qtA_length, set8_length]; omega)) sT uU ?_
  refine Tr.nil ?_
  refine bl_n ?_
  refine at_n ?_
  refine Sat.region ?_
  refine Tr.move rfl rfl rfl ?_
  refine Tr.sub_i64 rfl rfl rfl rfl oM ?_
  refine Tr.assign rfl rfl rfl ?_
  refine Tr.nil ?_
  refine at_n (SRounds.more ?_)
  refine Sat.seq ?_
  refine Sat.seq ?_
  refine Sat.region ?_
  refine Tr.move rfl rfl rfl ?_
  refine Tr.gtr rfl rfl rfl rfl rfl ?_
  refine Tr.nil ?_
  refine at_n ?_
  refine Sat.cond_t rfl (rfl) ?_
  refine Sat.skip ?_
  refine at_n ?_
  refine Sat.seq ?_
  refine Sat.block ?_
  refine Sat.draw [(0, 0), (0, 1), (0, 2), (1, 3), (0, 4), (0, 5), (0, 6), (0, 7), (1, 8), (0, 9), (0, 10), (0, 11), (4, 12)] Mixed (by kernel_rfl) ?_
  refine Tr.move rfl rfl rfl ?_
  refine Tr.move rfl rfl rfl ?_
  first
    | refine Tr.idxArr1 rfl rfl rfl rfl Try.underlying66 Sz65 1 rfl oM ?_
    | refine Tr.idxArrO rfl rfl rfl rfl Try.underlying66 Sz65 1 rfl oM ?_
  refine Tr.load1 rfl rfl rfl Try.underlying65 rfl mM (by first | rfl | exact get_words (by first | omega | (simp [W5.l_length, fb_length, qtA_length, set8_length]; done) | (simp [W5.l_length, fb_length, qtA_length, set8_length]; omega)) | exact get_bytes (by first | omega | (simp [W5.l_length, fb_length, qtA_length, set8_length]; done) | (simp [W5.l_length, fb_length, qtA_length, set8_length]; omega)) | exact get_ints (by first | omega | (simp [W5.l_length, fb_length, qtA_length, set8_length]; done) | (simp [W5.l_length, fb_length, qtA_length, set8_length]; omega))) ?_
  refine Tr.shl_u64 rfl rfl rfl rfl 1 rfl dE ?_
  refine Tr.move rfl rfl rfl ?_
  refine Tr.sub_i64 rfl rfl rfl rfl oM ?_
  first
    | refine Tr.idxArr1 rfl rfl rfl rfl Try.underlying66 Sz65 0 rfl oM ?_
    | refine Tr.idxArrO rfl rfl rfl rfl Try.underlying66 Sz65 0 rfl oM ?_
  refine Tr.load1 rfl rfl rfl Try.underlying65 rfl mM (by first | rfl | exact get_words (by first | omega | (simp [W5.l_length, fb_length, qtA_length, set8_length]; done) | (simp [W5.l_length, fb_length, qtA_length, set8_length]; omega)) | exact get_bytes (by first | omega | (simp [W5.l_length, fb_length, qtA_length, set8_length]; done) | (simp [W5.l_length, fb_length, qtA_length, set8_length]; omega)) | exact get_ints (by first | omega | (simp [W5.l_length, fb_length, qtA_length, set8_length]; done) | (simp [W5.l_length, fb_length, qtA_length, set8_length]; omega))) ?_
  refine Tr.shr_u64 rfl rfl rfl rfl 63 rfl dE ?_
  refine Tr.or_u64 rfl rfl rfl rfl ?_
  first
    | refine Tr.idxArr1 rfl rfl rfl rfl Try.underlying66 Sz65 1 rfl oM ?_
    | refine Tr.idxArrO rfl rfl rfl rfl Try.underlying66 Sz65 1 rfl oM ?_
  refine Tr.store1 rfl rfl rfl rfl rfl Sz65 mM (by first | (simp [W5.l_length, fb_length, qtA_length, set8_length]; done) | (simp [W5.l_length, fb_length, qtA_length, set8_length]; omega)) sT uU ?_
  refine Tr.nil ?_
  refine bl_n ?_
  refine at_n ?_
  refine Sat.region ?_
  refine Tr.move rfl rfl rfl ?_
  refine Tr.sub_i64 rfl rfl rfl rfl oM ?_
  refine Tr.assign rfl rfl rfl ?_
  refine Tr.nil ?_
  refine at_n (SRounds.more ?_)
  refine Sat.seq ?_
  refine Sat.seq ?_
  refine Sat.region ?_
  refine Tr.move rfl rfl rfl ?_
  refine Tr.gtr rfl rfl rfl rfl rfl ?_
  refine Tr.nil ?_
  refine at_n ?_
  refine Sat.cond_f rfl (rfl) ?_
  refine Sat.exit ?_
  refine at_x ?_
  refine at_x ?_
  refine bl_h ?_
  refine at_n ?_
  refine Sat.seq ?_
  refine Sat.region ?_
  first
    | refine Tr.idxArr1 rfl rfl rfl rfl Try.underlying66 Sz65 0 rfl dE ?_
    | refine Tr.idxArrO rfl rfl rfl rfl Try.underlying66 Sz65 0 rfl dE ?_
  refine Tr.load1 rfl rfl rfl Try.underlying65 rfl mM (by first | rfl | exact get_words (by first | omega | (simp [W5.l_length, fb_length, qtA_length, set8_length]; done) | (simp [W5.l_length, fb_length, qtA_length, set8_length]; omega)) | exact get_bytes (by first | omega | (simp [W5.l_length, fb_length, qtA_length, set8_length]; done) | (simp [W5.l_length, fb_length, qtA_length, set8_length]; omega)) | exact get_ints (by first | omega | (simp [W5.l_length, fb_length, qtA_length, set8_length]; done) | (simp [W5.l_length, fb_length, qtA_length, set8_length]; omega))) ?_
  refine Tr.shl_u64 rfl rfl rfl rfl 1 rfl dE ?_
  first
    | refine Tr.idxArr1 rfl rfl rfl rfl Try.underlying66 Sz65 0 rfl dE ?_
    | refine Tr.idxArrO rfl rfl rfl rfl Try.underlying66 Sz65 0 rfl dE ?_
  refine Tr.store1 rfl rfl rfl rfl rfl Sz65 mM (by first | (simp [W5.l_length, fb_length, qtA_length, set8_length]; done) | (simp [W5.l_length, fb_length, qtA_length, set8_length]; omega)) sT uU ?_
  refine Tr.nil ?_
  refine at_n ?_
  refine Sat.seq ?_
  refine Sat.region ?_
  first
    | refine Tr.loadAll rfl rfl rfl Try.underlying66 rfl Sz66 mM (by first | (simp [W5.l_length, fb_length, qtA_length, set8_length]; done) | assumption | (rw [bytesV, List.length_map]; assumption)) ?_
    | refine Tr.loadN _ rfl rfl rfl Try.underlying66 rfl Sz66 mM (by exact rfl) (by first | (simp [W5.l_length, fb_length, qtA_length, set8_length]; done) | assumption | (rw [bytesV, List.length_map]; assumption)) ?_
  first
    | refine Tr.storeAll rfl rfl rfl rfl cB Sz66 (by first | (simp [W5.l_length, fb_length, qtA_length, set8_length]; done) | assumption | (rw [bytesV, List.length_map]; assumption)) mM (by first | (simp [W5.l_length, fb_length, qtA_length, set8_length]; done) | assumption | (rw [bytesV, List.length_map]; assumption)) uU ?_
    | refine Tr.storeN _ rfl rfl rfl rfl rfl cB Sz66 (by first | (simp [W5.l_length, fb_length, qtA_length, set8_length]; done) | assumption | (rw [bytesV, List.length_map]; assumption)) mM (by first | (simp [W5.l_length, fb_length, qtA_length, set8_length]; done) | assumption | (rw [bytesV, List.length_map]; assumption)) (by exact rfl) uU ?_
  refine Tr.nil ?_
  refine at_n ?_
  refine Sat.ret ?_
  refine en_r ?_
  refine ⟨_, [], res_cell rfl rfl Try.underlying66 rfl Sz66 mM (by simp [W5.l_length, fb_length, qtA_length, set8_length]), sP, sP, ?_, rfl⟩
  rfl

set_option maxRecDepth 100000 in
set_option maxHeartbeats 2000000 in
theorem field_ones (f l : UInt8) : Meets Try.prog 85 [u8 f, u8 l] [] (fun _ => True) (fun v out => v = agg (bytesV (onesB f l)) ∧ out = []) := by
  intro W hW
  refine calls_of (hp0 := []) Try.func85 rfl 18 Try.ntmps85 rfl (HRep.nil _) ?_
  refine Sat.seq ?_
  refine Sat.region ?_
  refine Tr.alloc (cs := (bytesV (List.replicate 32 0))) rfl Zr30 rfl ?_
  intro n4 hn4 hf4
  refine Tr.nil ?_
  refine at_n ?_
  refine Sat.seq ?_
  refine Sat.region ?_
  refine Tr.alloc (cs := (bytesV (List.replicate 32 0))) rfl Zr30 rfl ?_
  intro n5 hn5 hf5
  refine Tr.nil ?_
  refine at_n ?_
  refine Sat.seq ?_
  refine Sat.seq ?_
  refine Sat.region ?_
  refine Tr.move rfl rfl rfl ?_
  refine Tr.nil ?_
  refine at_n ?_
  refine Sat.block ?_
  refine Sat.loop (ι := Nat) (fun k => ⟨[(0, u8 f), (1, u8 l), (4, ptr n4 0), (5, ptr n5 0), (7, i64 (k : Int))], [⟨n5, bytesV (List.replicate k 255 ++ List.replicate (32 - k) 0), 30, 32⟩, ⟨n4, bytesV (List.replicate 32 0), 30, 32⟩]⟩) (fun k => k ≤ 32) (fun k => 32 - k) (0) ?_ ?_ ?_
  · omega
  · exact weak_of (wk1 rfl (wk1 rfl (wk1 rfl (wk1 rfl (wk1 rfl wk0))))) (wh1 mM (wh1 mM wh0)) nD
  ·
    rintro k hi
    refine Sat.seq ?_
    refine Sat.region ?_
    refine Tr.lss rfl rfl rfl rfl rfl ?_
    refine Tr.nil ?_
    refine at_n ?_
    refine Sat.seq ?_
    first
      | refine Sat.condP rfl (fun hc0 => ?_) (fun hc0 => ?_)
      | refine Sat.condNP rfl (fun hc0 => ?_) (fun hc0 => ?_)
      | refine Sat.cond rfl (fun hc0 => ?_) (fun hc0 => ?_)
    ·
      have hk2 : k < 32 := by omega
      refine Sat.skip ?_
      refine at_n ?_
      refine Sat.seq ?_
      refine Sat.block ?_
      refine Sat.seq ?_
      refine Sat.region ?_
      refine Tr.move rfl rfl rfl ?_
      refine Tr.assign rfl rfl rfl ?_
      refine Tr.nil ?_
      refine at_n ?_
      refine Sat.region ?_
      refine Tr.move rfl rfl rfl ?_
      first
        | refine Tr.idxArr1 rfl rfl rfl rfl Try.underlying30 Sz5 _ rfl oM ?_
        | refine Tr.idxArrO rfl rfl rfl rfl Try.underlying30 Sz5 _ rfl oM ?_
        | refine Tr.idxArr1 rfl rfl rfl rfl Try.underlying30 Sz5 _ (toNat_back oM) oM ?_
        | refine Tr.idxArrO rfl rfl rfl rfl Try.underlying30 Sz5 _ (toNat_back oM) oM ?_
      refine Tr.store1 rfl rfl rfl (show evIn _ _ = some (u8 255) from rfl) rfl Sz5 mM (by first | (simp [W5.l_length, fb_length, qtA_length, set8_length]; done) | (simp [W5.l_length, fb_length, qtA_length, set8_length]; omega)) sT uU ?_
      refine Tr.nil ?_
      refine bl_n ?_
      refine at_n ?_
      refine Sat.region ?_
      refine Tr.add_i64 rfl rfl rfl rfl oM ?_
      refine Tr.move rfl rfl rfl ?_
      refine Tr.nil ?_
      refine at_n ?_
      exact ⟨k + 1, by omega, by omega, weak_of (wk1 rfl (wk1 rfl (wk1 rfl (wk1 rfl (wk1 rfl wk0))))) (wh1 (by rw [← ones_step hk2]; exact mem0) (wh1 mM wh0)) nD⟩
    ·
      obtain rfl : k = 32 := by omega
      rw [show ((List.replicate 32 255 ++ List.replicate (32 - 32) 0) : List UInt8) = List.replicate 32 255 from rfl]
      refine Sat.exit ?_
      refine at_x ?_
      refine at_x ?_
      refine bl_h ?_
      refine at_n ?_
      refine Sat.seq ?_
      refine Sat.region ?_
      refine Tr.move rfl rfl rfl ?_
      refine Tr.move rfl rfl rfl ?_
      first
        | refine Tr.idxArr1 rfl rfl rfl rfl Try.underlying30 Sz5 0 rfl dE ?_
        | refine Tr.idxArrO rfl rfl rfl rfl Try.underlying30 Sz5 0 rfl dE ?_
      refine Tr.store1 rfl rfl rfl rfl rfl Sz5 mM (by first | (simp [W5.l_length, fb_length, qtA_length, set8_length]; done) | (simp [W5.l_length, fb_length, qtA_length, set8_length]; omega)) sT uU ?_
      first
        | refine Tr.idxArr1 rfl rfl rfl rfl Try.underlying30 Sz5 31 rfl dE ?_
        | refine Tr.idxArrO rfl rfl rfl rfl Try.underlying30 Sz5 31 rfl dE ?_
      refine Tr.store1 rfl rfl rfl rfl rfl Sz5 mM (by first | (simp [W5.l_length, fb_length, qtA_length, set8_length]; done) | (simp [W5.l_length, fb_length, qtA_length, set8_length]; omega)) sT uU ?_
      refine Tr.nil ?_
      refine at_n ?_
      refine Sat.seq ?_
      refine Sat.region ?_
      first
        | refine Tr.loadAll rfl rfl rfl Try.underlying30 rfl Sz30 mM (by first | (simp [W5.l_length, fb_length, qtA_length, set8_length]; done) | assumption | (rw [bytesV, List.length_map]; assumption)) ?_
        | refine Tr.loadN _ rfl rfl rfl Try.underlying30 rfl Sz30 mM (by exact rfl) (by first | (simp [W5.l_length, fb_length, qtA_length, set8_length]; done) | assumption | (rw [bytesV, List.length_map]; assumption)) ?_
      first
        | refine Tr.storeAll rfl rfl rfl rfl cB Sz30 (by first | (simp [W5.l_length, fb_length, qtA_length, set8_length]; done) | assumption | (rw [bytesV, List.length_map]; assumption)) mM (by first | (simp [W5.l_length, fb_length, qtA_length, set8_length]; done) | assumption | (rw [bytesV, List.length_map]; assumption)) uU ?_
        | refine Tr.storeN _ rfl rfl rfl rfl rfl cB Sz30 (by first | (simp [W5.l_length, fb_length, qtA_length, set8_length]; done) | assumption | (rw [bytesV, List.length_map]; assumption)) mM (by first | (simp [W5.l_length, fb_length, qtA_length, set8_length]; done) | assumption | (rw [bytesV, List.length_map]; assumption)) (by exact rfl) uU ?_
      refine Tr.nil ?_
      refine at_n ?_
      refine Sat.ret ?_
      refine en_r ?_
      refine ⟨_, [], res_cell rfl rfl Try.underlying30 rfl Sz30 mM (by simp [W5.l_length, fb_length, qtA_length, set8_length]), sP, sP, ?_, rfl⟩
      rfl

set_option maxRecDepth 100000 in
set_option maxHeartbeats 4000000 in
theorem field_Pow (a e : List UInt8) (ha : a.length = 32) (he : e.length = 32) : Meets Try.prog 84 [agg (bytesV a), agg (bytesV e)] [] (fun _ => True) (fun v out => v = agg (bytesV (fb (fpow (fe (le a)) (le e)))) ∧ out = []) := by
  intro W hW
  have hE : le e < 2 ^ 256 := le32 he
  have hXf : (ldN a).fit := (ldN_lt a).fit
  have hXv : fe (ldN a).v = fe (le a) := by rw [ldN_v ha]
  refine calls_of (hp0 := []) Try.func84 rfl 26 Try.ntmps84 rfl (HRep.nil _) ?_
  refine Sat.seq ?_
  refine Sat.region ?_
  refine Tr.boxA rfl rfl ?_
  intro n2 hn2 hf2
  refine Tr.boxA rfl rfl ?_
  intro n3 hn3 hf3
  refine Tr.alloc (cs := (bytesV (List.replicate 32 0))) rfl Zr30 rfl ?_
  intro n4 hn4 hf4
  refine Tr.nil ?_
  refine at_n ?_
  refine Sat.seq ?_
  refine Sat.draw [(1, 0), (1, 2), (0, 4), (3, 1), (3, 3), (2, 5), (2, 6), (2, 7), (4, 8), (4, 9), (4, 10)] Mixed (by kernel_rfl) ?_
  first
    | refine Tr.loadAll rfl rfl rfl Try.underlying30 rfl Sz30 mM (by first | (simp [W5.l_length, fb_length, qtA_length, set8_length, ha, he]; done) | assumption | (rw [bytesV, List.length_map]; assumption)) ?_
    | refine Tr.loadN _ rfl rfl rfl Try.underlying30 rfl Sz30 mM (by exact rfl) (by first | (simp [W5.l_length, fb_length, qtA_length, set8_length, ha, he]; done) | assumption | (rw [bytesV, List.length_map]; assumption)) ?_
  first
    | refine Tr.loadAll rfl rfl rfl Try.underlying30 rfl Sz30 mM (by first | (simp [W5.l_length, fb_length, qtA_length, set8_length, ha, he]; done) | assumption | (rw [bytesV, List.length_map]; assumption)) ?_
    | refine Tr.loadN _ rfl rfl rfl Try.underlying30 rfl Sz30 mM (by exact rfl) (by first | (simp [W5.l_length, fb_length, qtA_length, set8_length, ha, he]; done) | assumption | (rw [bytesV, List.length_map]; assumption)) ?_
  refine Tr.build (cs := wordsV (⟨1, 0, 0, 0, 0⟩ : W5).l) rfl rfl rfl (fun w => by kernel_rfl) ?_
  refine Tr.callV rfl rfl rfl rfl Body80 (field_load a ha) (fun _ _ => trivial) ?_
  refine Tr.callV rfl rfl rfl rfl Body96 (field_quarters e he) (fun _ _ => trivial) ?_
  refine Tr.alloc (cs := (wordsV (List.replicate 5 0))) rfl Zr103 rfl ?_
  intro n5 hn5 hf5
  refine Tr.alloc (cs := (wordsV (List.replicate 4 0))) rfl Zr66 rfl ?_
  intro n6 hn6 hf6
  refine Tr.alloc (cs := (wordsV (List.replicate 5 0))) rfl Zr103 rfl ?_
  intro n7 hn7 hf7
  first
    | refine Tr.storeAll rfl rfl rfl rfl cB Sz103 (by first | (simp [W5.l_length, fb_length, qtA_length, set8_length, ha, he]; done) | assumption | (rw [bytesV, List.length_map]; assumption)) mM (by first | (simp [W5.l_length, fb_length, qtA_length, set8_length, ha, he]; done) | assumption | (rw [bytesV, List.length_map]; assumption)) uU ?_
    | refine Tr.storeN _ rfl rfl rfl rfl rfl cB Sz103 (by first | (simp [W5.l_length, fb_length, qtA_length, set8_length, ha, he]; done) | assumption | (rw [bytesV, List.length_map]; assumption)) mM (by first | (simp [W5.l_length, fb_length, qtA_length, set8_length, ha, he]; done) | assumption | (rw [bytesV, List.length_map]; assumption)) (by exact rfl) uU ?_
  first
    | refine Tr.storeAll rfl rfl rfl rfl cB Sz66 (by first | (simp [W5.l_length, fb_length, qtA_length, set8_length, ha, he]; done) | assumption | (rw [bytesV, List.length_map]; assumption)) mM (by first | (simp [W5.l_length, fb_length, qtA_length, set8_length, ha, he]; done) | assumption | (rw [bytesV, List.length_map]; assumption)) uU ?_
    | refine Tr.storeN _ rfl rfl rfl rfl rfl cB Sz66 (by first | (simp [W5.l_length, fb_length, qtA_length, set8_length, ha, he]; done) | assumption | (rw [bytesV, List.length_map]; assumption)) mM (by first | (simp [W5.l_length, fb_length, qtA_length, set8_length, ha, he]; done) | assumption | (rw [bytesV, List.length_map]; assumption)) (by exact rfl) uU ?_
  first
    | refine Tr.storeAll rfl rfl rfl rfl cB Sz103 (by first | (simp [W5.l_length, fb_length, qtA_length, set8_length, ha, he]; done) | assumption | (rw [bytesV, List.length_map]; assumption)) mM (by first | (simp [W5.l_length, fb_length, qtA_length, set8_length, ha, he]; done) | assumption | (rw [bytesV, List.length_map]; assumption)) uU ?_
    | refine Tr.storeN _ rfl rfl rfl rfl rfl cB Sz103 (by first | (simp [W5.l_length, fb_length, qtA_length, set8_length, ha, he]; done) | assumption | (rw [bytesV, List.length_map]; assumption)) mM (by first | (simp [W5.l_length, fb_length, qtA_length, set8_length, ha, he]; done) | assumption | (rw [bytesV, List.length_map]; assumption)) (by exact rfl) uU ?_
  refine Tr.nil ?_
  refine at_n ?_
  refine Sat.seq ?_
  refine Sat.seq ?_
  refine Sat.region ?_
  refine Tr.move rfl rfl rfl ?_
  refine Tr.nil ?_
  refine at_n ?_
  refine Sat.block ?_
  refine Sat.loop (ι := PowS) (fun s => ⟨[(4, ptr n4 0), (5, ptr n5 0), (6, ptr n6 0), (7, ptr n7 0), (13, i64 (s.k : Int))], [⟨n7, wordsV s.p.l, 103, 5⟩, ⟨n6, wordsV [s.a, s.b, s.c, s.d], 66, 4⟩, ⟨n5, wordsV (ldN a).l, 103, 5⟩, ⟨n4, bytesV (List.replicate 32 0), 30, 32⟩]⟩) (fun s => PowI (le e) (fe (le a)) s.k s.p s.a s.b s.c s.d) (fun s => 256 - s.k) (⟨0, ⟨1, 0, 0, 0, 0⟩, qw e 0, qw e 1, qw e 2, qw e 3⟩) ?_ ?_ ?_
  · exact PowI.first he _
  · exact weak_of (wk1 rfl (wk1 rfl (wk1 rfl (wk1 rfl (wk1 rfl wk0))))) (wh1 mM (wh1 mM (wh1 mM (wh1 mM wh0)))) nD
  ·
    rintro s hs
    have hsl := hs.le
    refine Sat.seq ?_
    refine Sat.region ?_
    refine Tr.lss rfl rfl rfl rfl rfl ?_
    refine Tr.nil ?_
    refine at_n ?_
    refine Sat.seq ?_
    first
      | refine Sat.condP rfl (fun hc0 => ?_) (fun hc0 => ?_)
      | refine Sat.condNP rfl (fun hc0 => ?_) (fun hc0 => ?_)
      | refine Sat.cond rfl (fun hc0 => ?_) (fun hc0 => ?_)
    ·
      have hk2 : s.k < 256 := by omega
      refine Sat.skip ?_
      refine at_n ?_
      refine Sat.seq ?_
      refine Sat.block ?_
      refine Sat.seq ?_
      refine Sat.region ?_
      refine Tr.callV rfl rfl rfl rfl Body81 (field_product n7 n7 s.p s.p) (fun w h => ⟨sees_own h mM, sees_own h mM⟩) ?_
      first
        | refine Tr.storeAll rfl rfl rfl rfl cB Sz103 (by first | (simp [W5.l_length, fb_length, qtA_length, set8_length, ha, he]; done) | assumption | (rw [bytesV, List.length_map]; assumption)) mM (by first | (simp [W5.l_length, fb_length, qtA_length, set8_length, ha, he]; done) | assumption | (rw [bytesV, List.length_map]; assumption)) uU ?_
        | refine Tr.storeN _ rfl rfl rfl rfl rfl cB Sz103 (by first | (simp [W5.l_length, fb_length, qtA_length, set8_length, ha, he]; done) | assumption | (rw [bytesV, List.length_map]; assumption)) mM (by first | (simp [W5.l_length, fb_length, qtA_length, set8_length, ha, he]; done) | assumption | (rw [bytesV, List.length_map]; assumption)) (by exact rfl) uU ?_
      refine Tr.nil ?_
      refine at_n ?_
      refine Sat.join (ι := W5) (fun u => ⟨[(4, ptr n4 0), (5, ptr n5 0), (6, ptr n6 0), (7, ptr n7 0), (13, i64 (s.k : Int))], [⟨n7, wordsV u.l, 103, 5⟩, ⟨n6, wordsV [s.a, s.b, s.c, s.d], 66, 4⟩, ⟨n5, wordsV (ldN a).l, 103, 5⟩, ⟨n4, bytesV (List.replicate 32 0), 30, 32⟩]⟩) (fun u => PowI (le e) (fe (le a)) (s.k + 1) u (shl64 s.a 1) (shl64 s.b 1 ||| shr64 s.a 63) (shl64 s.c 1 ||| shr64 s.b 63) (shl64 s.d 1 ||| shr64 s.c 63)) ?_ ?_
      ·
        refine Sat.seq ?_
        refine Sat.region ?_
        first
          | refine Tr.idxArr1 rfl rfl rfl rfl Try.underlying66 Sz65 3 rfl dE ?_
          | refine Tr.idxArrO rfl rfl rfl rfl Try.underlying66 Sz65 3 rfl dE ?_
        refine Tr.load1 rfl rfl rfl Try.underlying65 rfl mM (by first | rfl | exact get_words (by first | omega | (simp [W5.l_length, fb_length, qtA_length, set8_length, ha, he]; done) | (simp [W5.l_length, fb_length, qtA_length, set8_length, ha, he]; omega)) | exact get_bytes (by first | omega | (simp [W5.l_length, fb_length, qtA_length, set8_length, ha, he]; done) | (simp [W5.l_length, fb_length, qtA_length, set8_length, ha, he]; omega)) | exact get_ints (by first | omega | (simp [W5.l_length, fb_length, qtA_length, set8_length, ha, he]; done) | (simp [W5.l_length, fb_length, qtA_length, set8_length, ha, he]; omega))) ?_
        refine Tr.shr_u64 rfl rfl rfl rfl 63 rfl dE ?_
        refine Tr.eqi rfl rfl rfl rfl rfl ?_
        refine Tr.nil ?_
        refine at_n ?_
        first
          | refine Sat.condP rfl (fun hc1 => ?_) (fun hc1 => ?_)
          | refine Sat.condNP rfl (fun hc1 => ?_) (fun hc1 => ?_)
          | refine Sat.cond rfl (fun hc1 => ?_) (fun hc1 => ?_)
        ·
          have hb1 : (shr64 s.d 63).toNat = 1 := by omega
          refine Sat.region ?_
          refine Tr.callV rfl rfl rfl rfl Body81 (field_product n7 n5 (mulF s.p s.p) (ldN a)) (fun w h => ⟨sees_own h mM, sees_own h mM⟩) ?_
          first
            | refine Tr.storeAll rfl rfl rfl rfl cB Sz103 (by first | (simp [W5.l_length, fb_length, qtA_length, set8_length, ha, he]; done) | assumption | (rw [bytesV, List.length_map]; assumption)) mM (by first | (simp [W5.l_length, fb_length, qtA_length, set8_length, ha, he]; done) | assumption | (rw [bytesV, List.length_map]; assumption)) uU ?_
            | refine Tr.storeN _ rfl rfl rfl rfl rfl cB Sz103 (by first | (simp [W5.l_length, fb_length, qtA_length, set8_length, ha, he]; done) | assumption | (rw [bytesV, List.length_map]; assumption)) mM (by first | (simp [W5.l_length, fb_length, qtA_length, set8_length, ha, he]; done) | assumption | (rw [bytesV, List.length_map]; assumption)) (by exact rfl) uU ?_
          refine Tr.nil ?_
          refine at_n ?_
          first
            | exact ⟨mulF (mulF s.p s.p) (ldN a), hs.odd hE hk2 hXf hXv hb1, weak_of (wk1 rfl (wk1 rfl (wk1 rfl (wk1 rfl (wk1 rfl wk0))))) (wh1 mM (wh1 mM (wh1 mM (wh1 mM wh0)))) nD⟩
            | exact ⟨mulF s.p s.p, hs.even hE hk2 hb1, weak_of (wk1 rfl (wk1 rfl (wk1 rfl (wk1 rfl (wk1 rfl wk0))))) (wh1 mM (wh1 mM (wh1 mM (wh1 mM wh0)))) nD⟩
        ·
          have hb1 : ¬ (shr64 s.d 63).toNat = 1 := by omega
          refine Sat.skip ?_
          refine at_n ?_
          first
            | exact ⟨mulF (mulF s.p s.p) (ldN a), hs.odd hE hk2 hXf hXv hb1, weak_of (wk1 rfl (wk1 rfl (wk1 rfl (wk1 rfl (wk1 rfl wk0))))) (wh1 mM (wh1 mM (wh1 mM (wh1 mM wh0)))) nD⟩
            | exact ⟨mulF s.p s.p, hs.even hE hk2 hb1, weak_of (wk1 rfl (wk1 rfl (wk1 rfl (wk1 rfl (wk1 rfl wk0))))) (wh1 mM (wh1 mM (wh1 mM (wh1 mM wh0)))) nD⟩
      ·
        intro u hj
        have hu := hj
        refine Sat.region ?_
        first
          | refine Tr.loadAll rfl rfl rfl Try.underlying66 rfl Sz66 mM (by first | (simp [W5.l_length, fb_length, qtA_length, set8_length, ha, he]; done) | assumption | (rw [bytesV, List.length_map]; assumption)) ?_
          | refine Tr.loadN _ rfl rfl rfl Try.underlying66 rfl Sz66 mM (by exact rfl) (by first | (simp [W5.l_length, fb_length, qtA_length, set8_length, ha, he]; done) | assumption | (rw [bytesV, List.length_map]; assumption)) ?_
        refine Tr.callV rfl rfl rfl rfl Body100 (field_shifted s.a s.b s.c s.d) (fun _ _ => trivial) ?_
        first
          | refine Tr.storeAll rfl rfl rfl rfl cB Sz66 (by first | (simp [W5.l_length, fb_length, qtA_length, set8_length, ha, he]; done) | assumption | (rw [bytesV, List.length_map]; assumption)) mM (by first | (simp [W5.l_length, fb_length, qtA_length, set8_length, ha, he]; done) | assumption | (rw [bytesV, List.length_map]; assumption)) uU ?_
          | refine Tr.storeN _ rfl rfl rfl rfl rfl cB Sz66 (by first | (simp [W5.l_length, fb_length, qtA_length, set8_length, ha, he]; done) | assumption | (rw [bytesV, List.length_map]; assumption)) mM (by first | (simp [W5.l_length, fb_length, qtA_length, set8_length, ha, he]; done) | assumption | (rw [bytesV, List.length_map]; assumption)) (by exact rfl) uU ?_
        refine Tr.nil ?_
        refine bl_n ?_
        refine at_n ?_
        refine Sat.region ?_
        refine Tr.add_i64 rfl rfl rfl rfl oM ?_
        refine Tr.move rfl rfl rfl ?_
        refine Tr.nil ?_
        refine at_n ?_
        exact ⟨⟨s.k + 1, u, _, _, _, _⟩, hu, by simp only []; omega, weak_of (wk1 rfl (wk1 rfl (wk1 rfl (wk1 rfl (wk1 rfl wk0))))) (wh1 mM (wh1 mM (wh1 mM (wh1 mM wh0)))) nD⟩
    ·
      have hke : s.k = 256 := by omega
      have hfin : fe s.p.v = fpow (fe (le a)) (le e) := by rw [hke] at hs; exact hs.last
      refine Sat.exit ?_
      refine at_x ?_
      refine at_x ?_
      refine bl_h ?_
      refine at_n ?_
      refine Sat.seq ?_
      refine Sat.region ?_
      first
        | refine Tr.loadAll rfl rfl rfl Try.underlying103 rfl Sz103 mM (by first | (simp [W5.l_length, fb_length, qtA_length, set8_length, ha, he]; done) | assumption | (rw [bytesV, List.length_map]; assumption)) ?_
        | refine Tr.loadN _ rfl rfl rfl Try.underlying103 rfl Sz103 mM (by exact rfl) (by first | (simp [W5.l_length, fb_length, qtA_length, set8_length, ha, he]; done) | assumption | (rw [bytesV, List.length_map]; assumption)) ?_
      refine Tr.callV rfl rfl rfl rfl Body82 (field_store s.p) (fun _ _ => trivial) ?_
      first
        | refine Tr.storeAll rfl rfl rfl rfl cB Sz30 (by first | (simp [W5.l_length, fb_length, qtA_length, set8_length, ha, he]; done) | assumption | (rw [bytesV, List.length_map]; assumption)) mM (by first | (simp [W5.l_length, fb_length, qtA_length, set8_length, ha, he]; done) | assumption | (rw [bytesV, List.length_map]; assumption)) uU ?_
        | refine Tr.storeN _ rfl rfl rfl rfl rfl cB Sz30 (by first | (simp [W5.l_length, fb_length, qtA_length, set8_length, ha, he]; done) | assumption | (rw [bytesV, List.length_map]; assumption)) mM (by first | (simp [W5.l_length, fb_length, qtA_length, set8_length, ha, he]; done) | assumption | (rw [bytesV, List.length_map]; assumption)) (by exact rfl) uU ?_
      refine Tr.nil ?_
      refine at_n ?_
      refine Sat.ret ?_
      refine en_r ?_
      refine ⟨_, [], res_cell rfl rfl Try.underlying30 rfl Sz30 mM (by simp [W5.l_length, fb_length, qtA_length, set8_length, ha, he]), sP, sP, ?_, rfl⟩
      rw [hfin]

set_option maxRecDepth 100000 in
set_option maxHeartbeats 1000000 in
theorem field_Inv (a : List UInt8) (ha : a.length = 32) : Meets Try.prog 53 [agg (bytesV a)] [] (fun _ => True) (fun v out => v = agg (bytesV (fb (finv (fe (le a))))) ∧ out = []) := by
  intro W hW
  refine calls_of (hp0 := []) Try.func53 rfl 6 Try.ntmps53 rfl (HRep.nil _) ?_
  refine Sat.seq ?_
  refine Sat.region ?_
  refine Tr.boxA rfl rfl ?_
  intro n1 hn1 hf1
  refine Tr.alloc (cs := (bytesV (List.replicate 32 0))) rfl Zr30 rfl ?_
  intro n2 hn2 hf2
  refine Tr.nil ?_
  refine at_n ?_
  refine Sat.seq ?_
  refine Sat.draw [(1, 0), (3, 1), (3, 2), (4, 3)] Mixed (by kernel_rfl) ?_
  first
    | refine Tr.loadAll rfl rfl rfl Try.underlying30 rfl Sz30 mM (by first | (simp [W5.l_length, fb_length, qtA_length, set8_length, ha]; done) | assumption | (rw [bytesV, List.length_map]; assumption)) ?_
    | refine Tr.loadN _ rfl rfl rfl Try.underlying30 rfl Sz30 mM (by exact rfl) (by first | (simp [W5.l_length, fb_length, qtA_length, set8_length, ha]; done) | assumption | (rw [bytesV, List.length_map]; assumption)) ?_
  refine Tr.callV rfl rfl rfl rfl Body85 (field_ones 235 127) (fun _ _ => trivial) ?_
  refine Tr.callV rfl rfl rfl rfl Body84 (field_Pow a (onesB 235 127) ha (onesB_length _ _)) (fun _ _ => trivial) ?_
  first
    | refine Tr.storeAll rfl rfl rfl rfl cB Sz30 (by first | (simp [W5.l_length, fb_length, qtA_length, set8_length, ha]; done) | assumption | (rw [bytesV, List.length_map]; assumption)) mM (by first | (simp [W5.l_length, fb_length, qtA_length, set8_length, ha]; done) | assumption | (rw [bytesV, List.length_map]; assumption)) uU ?_
    | refine Tr.storeN _ rfl rfl rfl rfl rfl cB Sz30 (by first | (simp [W5.l_length, fb_length, qtA_length, set8_length, ha]; done) | assumption | (rw [bytesV, List.length_map]; assumption)) mM (by first | (simp [W5.l_length, fb_length, qtA_length, set8_length, ha]; done) | assumption | (rw [bytesV, List.length_map]; assumption)) (by exact rfl) uU ?_
  refine Tr.nil ?_
  refine at_n ?_
  refine Sat.ret ?_
  refine en_r ?_
  refine ⟨_, [], res_cell rfl rfl Try.underlying30 rfl Sz30 mM (by simp [W5.l_length, fb_length, qtA_length, set8_length, ha]), sP, sP, ?_, rfl⟩
  rw [ones_inv]; rfl

end Go.Proofs.Ytmddgelpllffoaa
end

section
namespace Go.Proofs.Ytmddgelpllffoaa
open Go Hw
set_option linter.unusedVariables false
set_option linter.unusedSimpArgs false

open Ed

theorem f_mul (x y : Fp) : Meets Try.prog 47 [agg (bytesV (fb x)), agg (bytesV (fb y))] [] (fun _ => True) (fun v out => v = agg (bytesV (fb (x * y))) ∧ out = []) := by
  have h := field_Mul (fb x) (fb y) (fb_length x) (fb_length y)
  rwa [fe_fb x, fe_fb y] at h

theorem f_add (x y : Fp) : Meets Try.prog 50 [agg (bytesV (fb x)), agg (bytesV (fb y))] [] (fun _ => True) (fun v out => v = agg (bytesV (fb (x + y))) ∧ out = []) := by
  have h := field_Add (fb x) (fb y) (fb_length x) (fb_length y)
  rwa [fe_fb x, fe_fb y] at h

theorem f_sub (x y : Fp) : Meets Try.prog 48 [agg (bytesV (fb x)), agg (bytesV (fb y))] [] (fun _ => True) (fun v out => v = agg (bytesV (fb (x - y))) ∧ out = []) := by
  have h := field_Sub (fb x) (fb y) (fb_length x) (fb_length y)
  rwa [fe_fb x, fe_fb y] at h

theorem f_neg (x : Fp) : Meets Try.prog 54 [agg (bytesV (fb x))] [] (fun _ => True) (fun v out => v = agg (bytesV (fb (-x))) ∧ out = []) := by
  have h := field_Neg (fb x) (fb_length x)
  rwa [fe_fb x] at h

theorem f_inv (x : Fp) : Meets Try.prog 53 [agg (bytesV (fb x))] [] (fun _ => True) (fun v out => v = agg (bytesV (fb (finv x))) ∧ out = []) := by
  have h := field_Inv (fb x) (fb_length x)
  rwa [fe_fb x] at h

theorem f_odd (x : Fp) : Meets Try.prog 62 [agg (bytesV (fb x))] [] (fun _ => True) (fun v out => v = .bool (decide (x.val % 2 = 1)) ∧ out = []) := by
  have h := field_Odd (fb x) (fb_length x)
  rwa [fe_fb x] at h

theorem f_same_raw (x : Fp) (a : List UInt8) (ha : a.length = 32) : Meets Try.prog 86 [agg (bytesV (fb x)), agg (bytesV a)] [] (fun _ => True) (fun v out => v = .bool (decide (x = fe (le a))) ∧ out = []) := by
  have h := field_Same (fb x) a (fb_length x) ha
  rwa [fe_fb x] at h
theorem f_pow_root (a : List UInt8) (ha : a.length = 32) : Meets Try.prog 84 [agg (bytesV a), agg (bytesV (onesB 254 15))] [] (fun _ => True) (fun v out => v = agg (bytesV (fb (fpow (fe (le a)) ((PF + 3) / 8)))) ∧ out = []) := by
  have h := field_Pow a (onesB 254 15) ha (onesB_length _ _)
  rwa [ones_root] at h
theorem f_pow_unit : Meets Try.prog 84 [agg (bytesV (fb (fe (2 : UInt64).toNat))), agg (bytesV (onesB 251 31))] [] (fun _ => True) (fun v out => v = agg (bytesV (fb (fpow (fe 2) ((PF - 1) / 4)))) ∧ out = []) := by
  have h := field_Pow (fb (fe (2 : UInt64).toNat)) (onesB 251 31) (fb_length _) (onesB_length _ _)
  rwa [ones_unit, fe_fb] at h
theorem f_one : Meets Try.prog 49 [u64 1] [] (fun _ => True) (fun v out => v = agg (bytesV (fb 1)) ∧ out = []) := by
  have h := field_Of 1
  rwa [show fe (1 : UInt64).toNat = 1 from rfl] at h

set_option maxRecDepth 100000 in
set_option maxHeartbeats 2000000 in
theorem field_Root (a : List UInt8) (X : Fp) (ha : a.length = 32) (hX : fe (le a) = X) : Meets Try.prog 52 [agg (bytesV a)] [] (fun _ => True) (fun v out => v = .tuple #[agg (bytesV (fb (fRoot X).1)), .bool (fRoot X).2] ∧ out = []) := by
  intro W hW
  obtain ⟨r0, hr0⟩ : ∃ r, fpow X ((PF + 3) / 8) = r := ⟨_, rfl⟩
  obtain ⟨un, hun⟩ : ∃ r, fpow (fe 2) ((PF - 1) / 4) = r := ⟨_, rfl⟩
  obtain ⟨r1, hr1⟩ : ∃ r, fRoot1 X = r := ⟨_, rfl⟩
  have hp0 := f_pow_root a ha
  have hpu := f_pow_unit
  rw [hX, hr0] at hp0
  rw [hun] at hpu
  have hm := fun y => f_same_raw y a ha
  rw [hX] at hm
  have hr1' : r1 = if r0 * r0 = X then r0 else r0 * un := by rw [← hr1, fRoot1, hr0, hun]
  have hR : fRoot X = if r1 * r1 = X then ((if r1.val % 2 = 1 then -r1 else r1), true) else (0, false) := by rw [fRoot, hr1]
  clear hr1
  refine calls_of (hp0 := []) Try.func52 rfl 31 Try.ntmps52 rfl (HRep.nil _) ?_
  refine Sat.seq ?_
  refine Sat.region ?_
  refine Tr.boxA rfl rfl ?_
  intro n1 hn1 hf1
  refine Tr.alloc (cs := (bytesV (List.replicate 32 0))) rfl Zr30 rfl ?_
  intro n2 hn2 hf2
  refine Tr.assign rfl rfl rfl ?_
  refine Tr.nil ?_
  refine at_n ?_
  refine Sat.seq ?_
  refine Sat.draw [(1, 0), (3, 1), (3, 2), (2, 3), (4, 4)] Mixed (by kernel_rfl) ?_
  first
    | refine Tr.loadAll rfl rfl rfl Try.underlying30 rfl Sz30 mM (by first | (simp [W5.l_length, fb_length, qtA_length, set8_length, ha]; done) | assumption | (rw [bytesV, List.length_map]; assumption)) ?_
    | refine Tr.loadN _ rfl rfl rfl Try.underlying30 rfl Sz30 mM (by exact rfl) (by first | (simp [W5.l_length, fb_length, qtA_length, set8_length, ha]; done) | assumption | (rw [bytesV, List.length_map]; assumption)) ?_
  refine Tr.callV rfl rfl rfl rfl Body85 (field_ones 254 15) (fun _ _ => trivial) ?_
  refine Tr.callV rfl rfl rfl rfl Body84 (hp0) (fun _ _ => trivial) ?_
  refine Tr.alloc (cs := (bytesV (List.replicate 32 0))) rfl Zr30 rfl ?_
  intro n4 hn4 hf4
  first
    | refine Tr.storeAll rfl rfl rfl rfl cB Sz30 (by first | (simp [W5.l_length, fb_length, qtA_length, set8_length, ha]; done) | assumption | (rw [bytesV, List.length_map]; assumption)) mM (by first | (simp [W5.l_length, fb_length, qtA_length, set8_length, ha]; done) | assumption | (rw [bytesV, List.length_map]; assumption)) uU ?_
    | refine Tr.storeN _ rfl rfl rfl rfl rfl cB Sz30 (by first | (simp [W5.l_length, fb_length, qtA_length, set8_length, ha]; done) | assumption | (rw [bytesV, List.length_map]; assumption)) mM (by first | (simp [W5.l_length, fb_length, qtA_length, set8_length, ha]; done) | assumption | (rw [bytesV, List.length_map]; assumption)) (by exact rfl) uU ?_
  refine Tr.nil ?_
  refine at_n ?_
  refine Sat.join (ι := Unit) (fun _u => ⟨[(1, ptr n1 0), (2, ptr n2 0), (4, ptr n4 0)], [⟨n4, bytesV (fb r1), 30, 32⟩, ⟨n2, bytesV (List.replicate 32 0), 30, 32⟩, ⟨n1, bytesV a, 30, (bytesV a).length⟩]⟩) (fun _u => True) ?_ ?_
  ·
    refine Sat.seq ?_
    refine Sat.draw [(1, 0), (1, 1), (1, 3), (3, 2), (3, 4), (0, 5)] Mixed (by kernel_rfl) ?_
    first
      | refine Tr.loadAll rfl rfl rfl Try.underlying30 rfl Sz30 mM (by first | (simp [W5.l_length, fb_length, qtA_length, set8_length, ha]; done) | assumption | (rw [bytesV, List.length_map]; assumption)) ?_
      | refine Tr.loadN _ rfl rfl rfl Try.underlying30 rfl Sz30 mM (by exact rfl) (by first | (simp [W5.l_length, fb_length, qtA_length, set8_length, ha]; done) | assumption | (rw [bytesV, List.length_map]; assumption)) ?_
    first
      | refine Tr.loadAll rfl rfl rfl Try.underlying30 rfl Sz30 mM (by first | (simp [W5.l_length, fb_length, qtA_length, set8_length, ha]; done) | assumption | (rw [bytesV, List.length_map]; assumption)) ?_
      | refine Tr.loadN _ rfl rfl rfl Try.underlying30 rfl Sz30 mM (by exact rfl) (by first | (simp [W5.l_length, fb_length, qtA_length, set8_length, ha]; done) | assumption | (rw [bytesV, List.length_map]; assumption)) ?_
    first
      | refine Tr.loadAll rfl rfl rfl Try.underlying30 rfl Sz30 mM (by first | (simp [W5.l_length, fb_length, qtA_length, set8_length, ha]; done) | assumption | (rw [bytesV, List.length_map]; assumption)) ?_
      | refine Tr.loadN _ rfl rfl rfl Try.underlying30 rfl Sz30 mM (by exact rfl) (by first | (simp [W5.l_length, fb_length, qtA_length, set8_length, ha]; done) | assumption | (rw [bytesV, List.length_map]; assumption)) ?_
    refine Tr.callV rfl rfl rfl rfl Body47 (f_mul r0 r0) (fun _ _ => trivial) ?_
    refine Tr.callV rfl rfl rfl rfl Body86 (hm (r0 * r0)) (fun _ _ => trivial) ?_
    refine Tr.not rfl rfl rfl ?_
    refine Tr.nil ?_
    refine at_n ?_
    first
      | refine Sat.condP rfl (fun hc0 => ?_) (fun hc0 => ?_)
      | refine Sat.condNP rfl (fun hc0 => ?_) (fun hc0 => ?_)
      | refine Sat.cond rfl (fun hc0 => ?_) (fun hc0 => ?_)
    ·
      refine Sat.draw [(1, 0), (3, 1), (3, 2), (3, 3), (3, 4), (4, 5)] Mixed (by kernel_rfl) ?_
      first
        | refine Tr.loadAll rfl rfl rfl Try.underlying30 rfl Sz30 mM (by first | (simp [W5.l_length, fb_length, qtA_length, set8_length, ha]; done) | assumption | (rw [bytesV, List.length_map]; assumption)) ?_
        | refine Tr.loadN _ rfl rfl rfl Try.underlying30 rfl Sz30 mM (by exact rfl) (by first | (simp [W5.l_length, fb_length, qtA_length, set8_length, ha]; done) | assumption | (rw [bytesV, List.length_map]; assumption)) ?_
      refine Tr.callV rfl rfl rfl rfl Body49 (field_Of 2) (fun _ _ => trivial) ?_
      refine Tr.callV rfl rfl rfl rfl Body85 (field_ones 251 31) (fun _ _ => trivial) ?_
      refine Tr.callV rfl rfl rfl rfl Body84 (hpu) (fun _ _ => trivial) ?_
      refine Tr.callV rfl rfl rfl rfl Body47 (f_mul r0 un) (fun _ _ => trivial) ?_
      first
        | refine Tr.storeAll rfl rfl rfl rfl cB Sz30 (by first | (simp [W5.l_length, fb_length, qtA_length, set8_length, ha]; done) | assumption | (rw [bytesV, List.length_map]; assumption)) mM (by first | (simp [W5.l_length, fb_length, qtA_length, set8_length, ha]; done) | assumption | (rw [bytesV, List.length_map]; assumption)) uU ?_
        | refine Tr.storeN _ rfl rfl rfl rfl rfl cB Sz30 (by first | (simp [W5.l_length, fb_length, qtA_length, set8_length, ha]; done) | assumption | (rw [bytesV, List.length_map]; assumption)) mM (by first | (simp [W5.l_length, fb_length, qtA_length, set8_length, ha]; done) | assumption | (rw [bytesV, List.length_map]; assumption)) (by exact rfl) uU ?_
      refine Tr.nil ?_
      refine at_n ?_
      first
        | (rw [hr1', if_neg hc0]; exact ⟨(), trivial, weak_of (wk1 rfl (wk1 rfl (wk1 rfl wk0))) (wh1 mM (wh1 mM (wh1 mM wh0))) nD⟩)
        | (rw [hr1', if_pos hc0]; exact ⟨(), trivial, weak_of (wk1 rfl (wk1 rfl (wk1 rfl wk0))) (wh1 mM (wh1 mM (wh1 mM wh0))) nD⟩)
    ·
      refine Sat.skip ?_
      refine at_n ?_
      first
        | (rw [hr1', if_neg hc0]; exact ⟨(), trivial, weak_of (wk1 rfl (wk1 rfl (wk1 rfl wk0))) (wh1 mM (wh1 mM (wh1 mM wh0))) nD⟩)
        | (rw [hr1', if_pos hc0]; exact ⟨(), trivial, weak_of (wk1 rfl (wk1 rfl (wk1 rfl wk0))) (wh1 mM (wh1 mM (wh1 mM wh0))) nD⟩)
  ·
    intro _u hj
    skip
    refine Sat.seq ?_
    refine Sat.seq ?_
    refine Sat.draw [(1, 0), (1, 1), (1, 3), (3, 2), (3, 4), (0, 5)] Mixed (by kernel_rfl) ?_
    first
      | refine Tr.loadAll rfl rfl rfl Try.underlying30 rfl Sz30 mM (by first | (simp [W5.l_length, fb_length, qtA_length, set8_length, ha]; done) | assumption | (rw [bytesV, List.length_map]; assumption)) ?_
      | refine Tr.loadN _ rfl rfl rfl Try.underlying30 rfl Sz30 mM (by exact rfl) (by first | (simp [W5.l_length, fb_length, qtA_length, set8_length, ha]; done) | assumption | (rw [bytesV, List.length_map]; assumption)) ?_
    first
      | refine Tr.loadAll rfl rfl rfl Try.underlying30 rfl Sz30 mM (by first | (simp [W5.l_length, fb_length, qtA_length, set8_length, ha]; done) | assumption | (rw [bytesV, List.length_map]; assumption)) ?_
      | refine Tr.loadN _ rfl rfl rfl Try.underlying30 rfl Sz30 mM (by exact rfl) (by first | (simp [W5.l_length, fb_length, qtA_length, set8_length, ha]; done) | assumption | (rw [bytesV, List.length_map]; assumption)) ?_
    first
      | refine Tr.loadAll rfl rfl rfl Try.underlying30 rfl Sz30 mM (by first | (simp [W5.l_length, fb_length, qtA_length, set8_length, ha]; done) | assumption | (rw [bytesV, List.length_map]; assumption)) ?_
      | refine Tr.loadN _ rfl rfl rfl Try.underlying30 rfl Sz30 mM (by exact rfl) (by first | (simp [W5.l_length, fb_length, qtA_length, set8_length, ha]; done) | assumption | (rw [bytesV, List.length_map]; assumption)) ?_
    refine Tr.callV rfl rfl rfl rfl Body47 (f_mul r1 r1) (fun _ _ => trivial) ?_
    refine Tr.callV rfl rfl rfl rfl Body86 (hm (r1 * r1)) (fun _ _ => trivial) ?_
    refine Tr.not rfl rfl rfl ?_
    refine Tr.nil ?_
    refine at_n ?_
    first
      | refine Sat.condP rfl (fun hc1 => ?_) (fun hc1 => ?_)
      | refine Sat.condNP rfl (fun hc1 => ?_) (fun hc1 => ?_)
      | refine Sat.cond rfl (fun hc1 => ?_) (fun hc1 => ?_)
    ·
      refine Sat.seq ?_
      refine Sat.region ?_
      refine Tr.build (cs := bytesV (List.replicate 32 0)) rfl rfl rfl (fun w => by kernel_rfl) ?_
      first
        | refine Tr.storeAll rfl rfl rfl rfl cB Sz30 (by first | (simp [W5.l_length, fb_length, qtA_length, set8_length, ha]; done) | assumption | (rw [bytesV, List.length_map]; assumption)) mM (by first | (simp [W5.l_length, fb_length, qtA_length, set8_length, ha]; done) | assumption | (rw [bytesV, List.length_map]; assumption)) uU ?_
        | refine Tr.storeN _ rfl rfl rfl rfl rfl cB Sz30 (by first | (simp [W5.l_length, fb_length, qtA_length, set8_length, ha]; done) | assumption | (rw [bytesV, List.length_map]; assumption)) mM (by first | (simp [W5.l_length, fb_length, qtA_length, set8_length, ha]; done) | assumption | (rw [bytesV, List.length_map]; assumption)) (by exact rfl) uU ?_
      refine Tr.assign rfl rfl rfl ?_
      refine Tr.nil ?_
      refine at_n ?_
      refine Sat.ret ?_
      refine at_r ?_
      refine en_r ?_
      refine ⟨_, [], res_cell_tmp rfl rfl rfl Try.underlying30 rfl Sz30 mM (by simp [W5.l_length, fb_length, qtA_length, set8_length, ha]), sP, sP, ?_, rfl⟩
      first
        | (rw [hR, if_neg hc1, fb_zero]; done)
        | (rw [hR, if_pos hc1]; done)
    ·
      refine Sat.skip ?_
      refine at_n ?_
      refine Sat.join (ι := Unit) (fun _u => ⟨[(2, ptr n2 0), (4, ptr n4 0)], [⟨n4, bytesV (fb (if r1.val % 2 = 1 then -r1 else r1)), 30, 32⟩, ⟨n2, bytesV (List.replicate 32 0), 30, 32⟩]⟩) (fun _u => True) ?_ ?_
      ·
        refine Sat.seq ?_
        refine Sat.region ?_
        first
          | refine Tr.loadAll rfl rfl rfl Try.underlying30 rfl Sz30 mM (by first | (simp [W5.l_length, fb_length, qtA_length, set8_length, ha]; done) | assumption | (rw [bytesV, List.length_map]; assumption)) ?_
          | refine Tr.loadN _ rfl rfl rfl Try.underlying30 rfl Sz30 mM (by exact rfl) (by first | (simp [W5.l_length, fb_length, qtA_length, set8_length, ha]; done) | assumption | (rw [bytesV, List.length_map]; assumption)) ?_
        refine Tr.callV rfl rfl rfl rfl Body62 (f_odd r1) (fun _ _ => trivial) ?_
        refine Tr.nil ?_
        refine at_n ?_
        first
          | refine Sat.condP rfl (fun hc2 => ?_) (fun hc2 => ?_)
          | refine Sat.condNP rfl (fun hc2 => ?_) (fun hc2 => ?_)
          | refine Sat.cond rfl (fun hc2 => ?_) (fun hc2 => ?_)
        ·
          refine Sat.region ?_
          first
            | refine Tr.loadAll rfl rfl rfl Try.underlying30 rfl Sz30 mM (by first | (simp [W5.l_length, fb_length, qtA_length, set8_length, ha]; done) | assumption | (rw [bytesV, List.length_map]; assumption)) ?_
            | refine Tr.loadN _ rfl rfl rfl Try.underlying30 rfl Sz30 mM (by exact rfl) (by first | (simp [W5.l_length, fb_length, qtA_length, set8_length, ha]; done) | assumption | (rw [bytesV, List.length_map]; assumption)) ?_
          refine Tr.callV rfl rfl rfl rfl Body54 (f_neg r1) (fun _ _ => trivial) ?_
          first
            | refine Tr.storeAll rfl rfl rfl rfl cB Sz30 (by first | (simp [W5.l_length, fb_length, qtA_length, set8_length, ha]; done) | assumption | (rw [bytesV, List.length_map]; assumption)) mM (by first | (simp [W5.l_length, fb_length, qtA_length, set8_length, ha]; done) | assumption | (rw [bytesV, List.length_map]; assumption)) uU ?_
            | refine Tr.storeN _ rfl rfl rfl rfl rfl cB Sz30 (by first | (simp [W5.l_length, fb_length, qtA_length, set8_length, ha]; done) | assumption | (rw [bytesV, List.length_map]; assumption)) mM (by first | (simp [W5.l_length, fb_length, qtA_length, set8_length, ha]; done) | assumption | (rw [bytesV, List.length_map]; assumption)) (by exact rfl) uU ?_
          refine Tr.nil ?_
          refine at_n ?_
          first
            | (rw [if_pos hc2]; exact ⟨(), trivial, weak_of (wk1 rfl (wk1 rfl wk0)) (wh1 mM (wh1 mM wh0)) nD⟩)
            | (rw [if_neg hc2]; exact ⟨(), trivial, weak_of (wk1 rfl (wk1 rfl wk0)) (wh1 mM (wh1 mM wh0)) nD⟩)
        ·
          refine Sat.skip ?_
          refine at_n ?_
          first
            | (rw [if_pos hc2]; exact ⟨(), trivial, weak_of (wk1 rfl (wk1 rfl wk0)) (wh1 mM (wh1 mM wh0)) nD⟩)
            | (rw [if_neg hc2]; exact ⟨(), trivial, weak_of (wk1 rfl (wk1 rfl wk0)) (wh1 mM (wh1 mM wh0)) nD⟩)
      ·
        intro _u hj
        skip
        refine Sat.seq ?_
        refine Sat.region ?_
        first
          | refine Tr.loadAll rfl rfl rfl Try.underlying30 rfl Sz30 mM (by first | (simp [W5.l_length, fb_length, qtA_length, set8_length, ha]; done) | assumption | (rw [bytesV, List.length_map]; assumption)) ?_
          | refine Tr.loadN _ rfl rfl rfl Try.underlying30 rfl Sz30 mM (by exact rfl) (by first | (simp [W5.l_length, fb_length, qtA_length, set8_length, ha]; done) | assumption | (rw [bytesV, List.length_map]; assumption)) ?_
        first
          | refine Tr.storeAll rfl rfl rfl rfl cB Sz30 (by first | (simp [W5.l_length, fb_length, qtA_length, set8_length, ha]; done) | assumption | (rw [bytesV, List.length_map]; assumption)) mM (by first | (simp [W5.l_length, fb_length, qtA_length, set8_length, ha]; done) | assumption | (rw [bytesV, List.length_map]; assumption)) uU ?_
          | refine Tr.storeN _ rfl rfl rfl rfl rfl cB Sz30 (by first | (simp [W5.l_length, fb_length, qtA_length, set8_length, ha]; done) | assumption | (rw [bytesV, List.length_map]; assumption)) mM (by first | (simp [W5.l_length, fb_length, qtA_length, set8_length, ha]; done) | assumption | (rw [bytesV, List.length_map]; assumption)) (by exact rfl) uU ?_
        refine Tr.assign rfl rfl rfl ?_
        refine Tr.nil ?_
        refine at_n ?_
        refine Sat.ret ?_
        refine en_r ?_
        refine ⟨_, [], res_cell_tmp rfl rfl rfl Try.underlying30 rfl Sz30 mM (by simp [W5.l_length, fb_length, qtA_length, set8_length, ha]), sP, sP, ?_, rfl⟩
        first
          | (rw [hR, if_neg hc1, fb_zero]; done)
          | (rw [hR, if_pos hc1]; done)

end Go.Proofs.Ytmddgelpllffoaa
end

section
namespace Ed
open Hw Go
set_option linter.unusedVariables false

theorem fb32 (x : Fp) : (fb x).length = 32 := fb_length x
/-- the bytes of a point -/
def pb (P : Pt Fp) : List UInt8 := if P.x.val % 2 = 1 then (fb P.y).set 31 ((fb P.y).getD 31 0 ||| 128) else fb P.y
theorem pb_length (P : Pt Fp) : (pb P).length = 32 := by
  unfold pb
  split
  · rw [List.length_set, fb_length]
  · exact fb_length _
def topB (b : List UInt8) : Bool := !decide (((b.getD 31 0 &&& 128).toNat : Int) = 0)
def lowB (b : List UInt8) : List UInt8 := b.set 31 (b.getD 31 0 &&& 127)
theorem lowB_length {b : List UInt8} (h : b.length = 32) : (lowB b).length = 32 := by rw [lowB, List.length_set, h]
/-- the X of a Y, and whether there is one -/
def xOf (Y : Fp) : Fp × Bool := fRoot ((Y * Y - 1) * finv (fD * (Y * Y) + 1))
def rdP (b : List UInt8) : Option (Pt Fp) :=
  if fb (fe (le (lowB b))) = lowB b then
    (if (xOf (fe (le (lowB b)))).2 = true ∧ ¬ (topB b = true ∧ (xOf (fe (le (lowB b)))).1 = 0) then
      some ⟨if topB b = true then - (xOf (fe (le (lowB b)))).1 else (xOf (fe (le (lowB b)))).1, fe (le (lowB b))⟩
    else none)
  else none
theorem fRoot_sq {X : Fp} (h : (fRoot X).2 = true) : (fRoot X).1 * (fRoot X).1 = X := by
  unfold fRoot at h ⊢
  by_cases h1 : fRoot1 X * fRoot1 X = X
  · rw [if_pos h1]
    simp only
    split
    · rw [sq_neg, h1]
    · exact h1
  · rw [if_neg h1] at h; cases h
theorem xOf_on {Y : Fp} (h : (xOf Y).2 = true) : cv.on ⟨(xOf Y).1, Y⟩ :=
  cv.on_read (finv_mul (cv.below_ne Y)) (fRoot_sq h)
theorem neg_mk (x y : Fp) : neg ⟨x, y⟩ = ⟨-x, y⟩ := rfl
theorem rdP_on {b : List UInt8} {P : Pt Fp} (h : rdP b = some P) : cv.on P := by
  unfold rdP at h
  split at h
  · split at h
    · rename_i h1 h2
      simp only [Option.some.injEq] at h
      subst h
      have := xOf_on h2.1
      split
      · have h3 := cv.on_neg this
        rw [neg_mk] at h3
        exact h3
      · exact this
    · cases h
  · cases h
/-- what Check says of a point's numbers -/
def pchk (x y : List UInt8) : Int := if fb (fe (le x)) = x ∧ fb (fe (le y)) = y ∧ fe (le y) * fe (le y) - fe (le x) * fe (le x) = 1 + fD * (fe (le x) * fe (le x) * (fe (le y) * fe (le y))) then 0 else 2
theorem pchk_on {P : Pt Fp} (h : cv.on P) : pchk (fb P.x) (fb P.y) = 0 := by
  have h1 := (cv.on_iff P).1 h
  unfold pchk
  rw [fe_fb, fe_fb]
  exact if_pos (And.intro (Eq.refl (fb P.x)) (And.intro (Eq.refl (fb P.y)) h1))
/-- the base point -/
def bX : List UInt8 := [26, 213, 37, 143, 96, 45, 86, 201, 178, 167, 37, 149, 96, 199, 44, 105, 92, 220, 214, 253, 49, 226, 164, 192, 254, 83, 110, 205, 211, 54, 105, 33]
def bY : List UInt8 := (List.replicate 32 102).set 0 88
def bP : Pt Fp := ⟨fe (le bX), fe (le bY)⟩
theorem bP_x : fb bP.x = bX := by kernel_rfl
theorem bP_y : fb bP.y = bY := by kernel_rfl
theorem bP_on : cv.on bP := by
  show bP.y * bP.y - bP.x * bP.x = 1 + fD * bP.x * bP.x * bP.y * bP.y
  kernel_rfl
theorem lin_step (a b j : Nat) (hj : j < 256) {P Q : Pt Fp} (hP : cv.on P) (hQ : cv.on Q) : cv.lin (a / 2 ^ (256 - (j + 1))) (b / 2 ^ (256 - (j + 1))) P Q =
    (if a.testBit (255 - j) then (if b.testBit (255 - j) then cv.add (cv.add (cv.lin (a / 2 ^ (256 - j)) (b / 2 ^ (256 - j)) P Q) (cv.lin (a / 2 ^ (256 - j)) (b / 2 ^ (256 - j)) P Q)) (cv.add P Q) else cv.add (cv.add (cv.lin (a / 2 ^ (256 - j)) (b / 2 ^ (256 - j)) P Q) (cv.lin (a / 2 ^ (256 - j)) (b / 2 ^ (256 - j)) P Q)) P)
     else (if b.testBit (255 - j) then cv.add (cv.add (cv.lin (a / 2 ^ (256 - j)) (b / 2 ^ (256 - j)) P Q) (cv.lin (a / 2 ^ (256 - j)) (b / 2 ^ (256 - j)) P Q)) Q else cv.add (cv.lin (a / 2 ^ (256 - j)) (b / 2 ^ (256 - j)) P Q) (cv.lin (a / 2 ^ (256 - j)) (b / 2 ^ (256 - j)) P Q))) := by
  have ha := next_div a j hj
  have hb := next_div b j hj
  rw [ha, hb]
  have e : ∀ n : Nat, n.testBit (255 - j) = decide (n / 2 ^ (255 - j) % 2 = 1) := fun n => Nat.testBit_eq_decide_div_mod_eq
  rw [e a, e b]
  rw [← cv.lin_two hP hQ]
  generalize a / 2 ^ (256 - j) = A
  generalize b / 2 ^ (256 - j) = B
  have h1 : a / 2 ^ (255 - j) % 2 = 0 ∨ a / 2 ^ (255 - j) % 2 = 1 := by omega
  have h2 : b / 2 ^ (255 - j) % 2 = 0 ∨ b / 2 ^ (255 - j) % 2 = 1 := by omega
  rcases h1 with h1 | h1 <;> rcases h2 with h2 | h2 <;> rw [h1, h2]
  · rfl
  · exact cv.lin_right hP hQ _ _
  · exact cv.lin_left hP hQ _ _
  · exact cv.lin_both hP hQ _ _
theorem lin_tt {a b j : Nat} (hj : j < 256) {P Q : Pt Fp} (hP : cv.on P) (hQ : cv.on Q) (h1 : a.testBit (255 - j) = true) (h2 : b.testBit (255 - j) = true) : cv.lin (a / 2 ^ (256 - (j + 1))) (b / 2 ^ (256 - (j + 1))) P Q = cv.add (cv.add (cv.lin (a / 2 ^ (256 - j)) (b / 2 ^ (256 - j)) P Q) (cv.lin (a / 2 ^ (256 - j)) (b / 2 ^ (256 - j)) P Q)) (cv.add P Q) := by
  rw [lin_step a b j hj hP hQ, h1, h2]; rfl
theorem lin_tf {a b j : Nat} (hj : j < 256) {P Q : Pt Fp} (hP : cv.on P) (hQ : cv.on Q) (h1 : a.testBit (255 - j) = true) (h2 : b.testBit (255 - j) = false) : cv.lin (a / 2 ^ (256 - (j + 1))) (b / 2 ^ (256 - (j + 1))) P Q = cv.add (cv.add (cv.lin (a / 2 ^ (256 - j)) (b / 2 ^ (256 - j)) P Q) (cv.lin (a / 2 ^ (256 - j)) (b / 2 ^ (256 - j)) P Q)) P := by
  rw [lin_step a b j hj hP hQ, h1, h2]; rfl
theorem lin_ft {a b j : Nat} (hj : j < 256) {P Q : Pt Fp} (hP : cv.on P) (hQ : cv.on Q) (h1 : a.testBit (255 - j) = false) (h2 : b.testBit (255 - j) = true) : cv.lin (a / 2 ^ (256 - (j + 1))) (b / 2 ^ (256 - (j + 1))) P Q = cv.add (cv.add (cv.lin (a / 2 ^ (256 - j)) (b / 2 ^ (256 - j)) P Q) (cv.lin (a / 2 ^ (256 - j)) (b / 2 ^ (256 - j)) P Q)) Q := by
  rw [lin_step a b j hj hP hQ, h1, h2]; rfl
theorem lin_ff {a b j : Nat} (hj : j < 256) {P Q : Pt Fp} (hP : cv.on P) (hQ : cv.on Q) (h1 : a.testBit (255 - j) = false) (h2 : b.testBit (255 - j) = false) : cv.lin (a / 2 ^ (256 - (j + 1))) (b / 2 ^ (256 - (j + 1))) P Q = cv.add (cv.lin (a / 2 ^ (256 - j)) (b / 2 ^ (256 - j)) P Q) (cv.lin (a / 2 ^ (256 - j)) (b / 2 ^ (256 - j)) P Q) := by
  rw [lin_step a b j hj hP hQ, h1, h2]; rfl
theorem lin_first (a b : List UInt8) (ha : a.length = 32) (hb : b.length = 32) (P Q : Pt Fp) : (Wd.of (zero : Pt Fp)).rep (cv.lin (le a / 2 ^ (256 - 0)) (le b / 2 ^ (256 - 0)) P Q) := by
  have h1 := le32 ha
  have h2 := le32 hb
  rw [show 256 - 0 = 256 from rfl, Nat.div_eq_of_lt h1, Nat.div_eq_of_lt h2, cv.lin_zero]
  exact cv.rep_of zero
theorem lin_last (a b : Nat) (P Q : Pt Fp) : cv.lin (a / 2 ^ (256 - 256)) (b / 2 ^ (256 - 256)) P Q = cv.lin a b P Q := by rw [Nat.sub_self, Nat.pow_zero, Nat.div_one, Nat.div_one]
theorem lin_one (a : Nat) (P : Pt Fp) : cv.lin a 0 P zero = cv.mul a P := cv.add_zero _
/-- 8 times a point -/
def eight (P : Pt Fp) : Pt Fp := cv.add (cv.add (cv.add P P) (cv.add P P)) (cv.add (cv.add P P) (cv.add P P))
theorem eight_mul {P : Pt Fp} (h : cv.on P) : eight P = cv.mul 8 P := by
  rw [show (8 : Nat) = 2 * (2 * (2 * 1)) from rfl, cv.mul_two h, cv.mul_two h, cv.mul_two h, cv.mul_one]
  rfl
end Ed
end

section
namespace Go.Proofs.Ytmddgelpllffoaa
open Go Hw
set_option linter.unusedSimpArgs false
set_option linter.unusedVariables false
set_option maxRecDepth 100000
structure Point where
  fX : List UInt8
  fY : List UInt8
def Point.cells (x : Point) : List Value := bytesV x.fX ++ (bytesV x.fY)
structure Point.ok (x : Point) : Prop where
  l_fX : x.fX.length = 32
  l_fY : x.fY.length = 32
theorem Point.length {x : Point} (h : x.ok) : x.cells.length = 64 := by simp [Point.cells, bytesV, h.l_fX, h.l_fY]
theorem Point.isCell {x : Point} (h : x.ok) : ∀ u ∈ x.cells, isCell u = true := by
  intro u hu
  simp only [Point.cells, List.mem_append, List.mem_singleton, bytesV, List.mem_map] at hu
  rcases hu with ⟨_, _, rfl⟩ | ⟨_, _, rfl⟩ <;> first | rfl
theorem Point.row_fX {x : Point} (h : x.ok) : (x.cells.drop 0).take 32 = bytesV x.fX := by simp [Point.cells, bytesV, h.l_fX, h.l_fY, List.drop_append, List.take_append, List.drop_of_length_le, List.take_of_length_le]
theorem Point.rl_fX {x : Point} (h : x.ok) : (bytesV x.fX).length = 32 := by simp [bytesV, h.l_fX]
theorem Point.upd_fX {x : Point} (h : x.ok) (l : List UInt8) (hl : l.length = 32) : upd x.cells 0 (bytesV l) = ({ x with fX := l }).cells := by
  simp [upd, Point.cells, bytesV, h.l_fX, h.l_fY, hl, List.drop_append, List.take_append, List.drop_of_length_le, List.take_of_length_le]
theorem Point.see_fX {x : Point} (h : x.ok) : ∀ (j : Nat) (v : Value), (bytesV x.fX)[j]? = some v → x.cells[0 + j]? = some v := fun j v hj => by
  rw [← Point.row_fX h, List.getElem?_take] at hj
  split at hj
  · rwa [List.getElem?_drop] at hj
  · cases hj
theorem Point.row_fY {x : Point} (h : x.ok) : (x.cells.drop 32).take 32 = bytesV x.fY := by simp [Point.cells, bytesV, h.l_fX, h.l_fY, List.drop_append, List.take_append, List.drop_of_length_le, List.take_of_length_le]
theorem Point.rl_fY {x : Point} (h : x.ok) : (bytesV x.fY).length = 32 := by simp [bytesV, h.l_fY]
theorem Point.upd_fY {x : Point} (h : x.ok) (l : List UInt8) (hl : l.length = 32) : upd x.cells 32 (bytesV l) = ({ x with fY := l }).cells := by
  simp [upd, Point.cells, bytesV, h.l_fX, h.l_fY, hl, List.drop_append, List.take_append, List.drop_of_length_le, List.take_of_length_le]
theorem Point.see_fY {x : Point} (h : x.ok) : ∀ (j : Nat) (v : Value), (bytesV x.fY)[j]? = some v → x.cells[32 + j]? = some v := fun j v hj => by
  rw [← Point.row_fY h, List.getElem?_take] at hj
  split at hj
  · rwa [List.getElem?_drop] at hj
  · cases hj
def Point.zero : Point := ⟨List.replicate 32 0, List.replicate 32 0⟩
theorem Point.zero_ok : Point.zero.ok := by constructor <;> first | exact trivial | simp [Point.zero]
theorem Point.zr : Zr Try.prog 32 (agg Point.zero.cells) := by unfold Zr; kernel_rfl
theorem Point.eqq {x y : Point} (hx : x.ok) (hy : y.ok) (w : World) : (Op.equalIn 10000 32 (agg x.cells) (agg y.cells)).run Try.prog w = .ok (decide (x.fX = y.fX) && (decide (x.fY = y.fY) && (true))) w := by
  rw [show (10000 : Nat) = 9999 + 1 from rfl, run_equalIn_struct w 9999 32 x.cells.toArray y.cells.toArray (by kernel_rfl) (by kernel_rfl)]
  exact (eqFields_step dE (run_partN Try.underlying30 rfl Sz30 (Point.row_fX hx)) (run_partN Try.underlying30 rfl Sz30 (Point.row_fX hy)) (eq_bytesA Try.underlying30 Try.underlying5 Sz5 hx.l_fX hy.l_fX) (eqFields_step dE (run_partN Try.underlying30 rfl Sz30 (Point.row_fY hx)) (run_partN Try.underlying30 rfl Sz30 (Point.row_fY hy)) (eq_bytesA Try.underlying30 Try.underlying5 Sz5 hx.l_fY hy.l_fY) eqFields_nil))
theorem Point.eq_run {x y : Point} (hx : x.ok) (hy : y.ok) (w : World) [Decidable (x = y)] : (Op.equalIn 10000 32 (agg x.cells) (agg y.cells)).run Try.prog w = .ok (decide (x = y)) w := by
  rw [Point.eqq hx hy]
  congr 1
  obtain ⟨x0, x1⟩ := x
  obtain ⟨y0, y1⟩ := y
  rw [Bool.eq_iff_iff]
  simp only [Bool.and_eq_true, decide_eq_true_eq, Point.mk.injEq, and_true]
theorem Point.eq_runC {x y : Point} (hx : x.ok) (hy : y.ok) (w : World) : (Op.equalIn 10000 32 (agg x.cells) (agg y.cells)).run Try.prog w = .ok (@decide (x = y) (Classical.propDecidable (x = y))) w := @Point.eq_run x y hx hy w (Classical.propDecidable (x = y))
theorem Point.eg : Try.prog.eqGuardType Try.prog.depth 32 = false := by kernel_rfl
structure wide where
  fX : List UInt8
  fY : List UInt8
  fZ : List UInt8
  fT : List UInt8
def wide.cells (x : wide) : List Value := bytesV x.fX ++ (bytesV x.fY ++ (bytesV x.fZ ++ (bytesV x.fT)))
structure wide.ok (x : wide) : Prop where
  l_fX : x.fX.length = 32
  l_fY : x.fY.length = 32
  l_fZ : x.fZ.length = 32
  l_fT : x.fT.length = 32
theorem wide.length {x : wide} (h : x.ok) : x.cells.length = 128 := by simp [wide.cells, bytesV, h.l_fX, h.l_fY, h.l_fZ, h.l_fT]
theorem wide.isCell {x : wide} (h : x.ok) : ∀ u ∈ x.cells, isCell u = true := by
  intro u hu
  simp only [wide.cells, List.mem_append, List.mem_singleton, bytesV, List.mem_map] at hu
  rcases hu with ⟨_, _, rfl⟩ | ⟨_, _, rfl⟩ | ⟨_, _, rfl⟩ | ⟨_, _, rfl⟩ <;> first | rfl
theorem wide.row_fX {x : wide} (h : x.ok) : (x.cells.drop 0).take 32 = bytesV x.fX := by simp [wide.cells, bytesV, h.l_fX, h.l_fY, h.l_fZ, h.l_fT, List.drop_append, List.take_append, List.drop_of_length_le, List.take_of_length_le]
theorem wide.rl_fX {x : wide} (h : x.ok) : (bytesV x.fX).length = 32 := by simp [bytesV, h.l_fX]
theorem wide.upd_fX {x : wide} (h : x.ok) (l : List UInt8) (hl : l.length = 32) : upd x.cells 0 (bytesV l) = ({ x with fX := l }).cells := by
  simp [upd, wide.cells, bytesV, h.l_fX, h.l_fY, h.l_fZ, h.l_fT, hl, List.drop_append, List.take_append, List.drop_of_length_le, List.take_of_length_le]
theorem wide.see_fX {x : wide} (h : x.ok) : ∀ (j : Nat) (v : Value), (bytesV x.fX)[j]? = some v → x.cells[0 + j]? = some v := fun j v hj => by
  rw [← wide.row_fX h, List.getElem?_take] at hj
  split at hj
  · rwa [List.getElem?_drop] at hj
  · cases hj
theorem wide.row_fY {x : wide} (h : x.ok) : (x.cells.drop 32).take 32 = bytesV x.fY := by simp [wide.cells, bytesV, h.l_fX, h.l_fY, h.l_fZ, h.l_fT, List.drop_append, List.take_append, List.drop_of_length_le, List.take_of_length_le]
theorem wide.rl_fY {x : wide} (h : x.ok) : (bytesV x.fY).length = 32 := by simp [bytesV, h.l_fY]
theorem wide.upd_fY {x : wide} (h : x.ok) (l : List UInt8) (hl : l.length = 32) : upd x.cells 32 (bytesV l) = ({ x with fY := l }).cells := by
  simp [upd, wide.cells, bytesV, h.l_fX, h.l_fY, h.l_fZ, h.l_fT, hl, List.drop_append, List.take_append, List.drop_of_length_le, List.take_of_length_le]
theorem wide.see_fY {x : wide} (h : x.ok) : ∀ (j : Nat) (v : Value), (bytesV x.fY)[j]? = some v → x.cells[32 + j]? = some v := fun j v hj => by
  rw [← wide.row_fY h, List.getElem?_take] at hj
  split at hj
  · rwa [List.getElem?_drop] at hj
  · cases hj
theorem wide.row_fZ {x : wide} (h : x.ok) : (x.cells.drop 64).take 32 = bytesV x.fZ := by simp [wide.cells, bytesV, h.l_fX, h.l_fY, h.l_fZ, h.l_fT, List.drop_append, List.take_append, List.drop_of_length_le, List.take_of_length_le]
theorem wide.rl_fZ {x : wide} (h : x.ok) : (bytesV x.fZ).length = 32 := by simp [bytesV, h.l_fZ]
theorem wide.upd_fZ {x : wide} (h : x.ok) (l : List UInt8) (hl : l.length = 32) : upd x.cells 64 (bytesV l) = ({ x with fZ := l }).cells := by
  simp [upd, wide.cells, bytesV, h.l_fX, h.l_fY, h.l_fZ, h.l_fT, hl, List.drop_append, List.take_append, List.drop_of_length_le, List.take_of_length_le]
theorem wide.see_fZ {x : wide} (h : x.ok) : ∀ (j : Nat) (v : Value), (bytesV x.fZ)[j]? = some v → x.cells[64 + j]? = some v := fun j v hj => by
  rw [← wide.row_fZ h, List.getElem?_take] at hj
  split at hj
  · rwa [List.getElem?_drop] at hj
  · cases hj
theorem wide.row_fT {x : wide} (h : x.ok) : (x.cells.drop 96).take 32 = bytesV x.fT := by simp [wide.cells, bytesV, h.l_fX, h.l_fY, h.l_fZ, h.l_fT, List.drop_append, List.take_append, List.drop_of_length_le, List.take_of_length_le]
theorem wide.rl_fT {x : wide} (h : x.ok) : (bytesV x.fT).length = 32 := by simp [bytesV, h.l_fT]
theorem wide.upd_fT {x : wide} (h : x.ok) (l : List UInt8) (hl : l.length = 32) : upd x.cells 96 (bytesV l) = ({ x with fT := l }).cells := by
  simp [upd, wide.cells, bytesV, h.l_fX, h.l_fY, h.l_fZ, h.l_fT, hl, List.drop_append, List.take_append, List.drop_of_length_le, List.take_of_length_le]
theorem wide.see_fT {x : wide} (h : x.ok) : ∀ (j : Nat) (v : Value), (bytesV x.fT)[j]? = some v → x.cells[96 + j]? = some v := fun j v hj => by
  rw [← wide.row_fT h, List.getElem?_take] at hj
  split at hj
  · rwa [List.getElem?_drop] at hj
  · cases hj
def wide.zero : wide := ⟨List.replicate 32 0, List.replicate 32 0, List.replicate 32 0, List.replicate 32 0⟩
theorem wide.zero_ok : wide.zero.ok := by constructor <;> first | exact trivial | simp [wide.zero]
theorem wide.zr : Zr Try.prog 81 (agg wide.zero.cells) := by unfold Zr; kernel_rfl
theorem wide.eqq {x y : wide} (hx : x.ok) (hy : y.ok) (w : World) : (Op.equalIn 10000 81 (agg x.cells) (agg y.cells)).run Try.prog w = .ok (decide (x.fX = y.fX) && (decide (x.fY = y.fY) && (decide (x.fZ = y.fZ) && (decide (x.fT = y.fT) && (true))))) w := by
  rw [show (10000 : Nat) = 9999 + 1 from rfl, run_equalIn_struct w 9999 81 x.cells.toArray y.cells.toArray (by kernel_rfl) (by kernel_rfl)]
  exact (eqFields_step dE (run_partN Try.underlying30 rfl Sz30 (wide.row_fX hx)) (run_partN Try.underlying30 rfl Sz30 (wide.row_fX hy)) (eq_bytesA Try.underlying30 Try.underlying5 Sz5 hx.l_fX hy.l_fX) (eqFields_step dE (run_partN Try.underlying30 rfl Sz30 (wide.row_fY hx)) (run_partN Try.underlying30 rfl Sz30 (wide.row_fY hy)) (eq_bytesA Try.underlying30 Try.underlying5 Sz5 hx.l_fY hy.l_fY) (eqFields_step dE (run_partN Try.underlying30 rfl Sz30 (wide.row_fZ hx)) (run_partN Try.underlying30 rfl Sz30 (wide.row_fZ hy)) (eq_bytesA Try.underlying30 Try.underlying5 Sz5 hx.l_fZ hy.l_fZ) (eqFields_step dE (run_partN Try.underlying30 rfl Sz30 (wide.row_fT hx)) (run_partN Try.underlying30 rfl Sz30 (wide.row_fT hy)) (eq_bytesA Try.underlying30 Try.underlying5 Sz5 hx.l_fT hy.l_fT) eqFields_nil))))
theorem wide.eq_run {x y : wide} (hx : x.ok) (hy : y.ok) (w : World) [Decidable (x = y)] : (Op.equalIn 10000 81 (agg x.cells) (agg y.cells)).run Try.prog w = .ok (decide (x = y)) w := by
  rw [wide.eqq hx hy]
  congr 1
  obtain ⟨x0, x1, x2, x3⟩ := x
  obtain ⟨y0, y1, y2, y3⟩ := y
  rw [Bool.eq_iff_iff]
  simp only [Bool.and_eq_true, decide_eq_true_eq, wide.mk.injEq, and_true]
theorem wide.eq_runC {x y : wide} (hx : x.ok) (hy : y.ok) (w : World) : (Op.equalIn 10000 81 (agg x.cells) (agg y.cells)).run Try.prog w = .ok (@decide (x = y) (Classical.propDecidable (x = y))) w := @wide.eq_run x y hx hy w (Classical.propDecidable (x = y))
theorem wide.eg : Try.prog.eqGuardType Try.prog.depth 81 = false := by kernel_rfl
structure secrets where
  fNumber : List UInt8
  fRest : List UInt8
def secrets.cells (x : secrets) : List Value := bytesV x.fNumber ++ (bytesV x.fRest)
structure secrets.ok (x : secrets) : Prop where
  l_fNumber : x.fNumber.length = 32
  l_fRest : x.fRest.length = 32
theorem secrets.length {x : secrets} (h : x.ok) : x.cells.length = 64 := by simp [secrets.cells, bytesV, h.l_fNumber, h.l_fRest]
theorem secrets.isCell {x : secrets} (h : x.ok) : ∀ u ∈ x.cells, isCell u = true := by
  intro u hu
  simp only [secrets.cells, List.mem_append, List.mem_singleton, bytesV, List.mem_map] at hu
  rcases hu with ⟨_, _, rfl⟩ | ⟨_, _, rfl⟩ <;> first | rfl
theorem secrets.row_fNumber {x : secrets} (h : x.ok) : (x.cells.drop 0).take 32 = bytesV x.fNumber := by simp [secrets.cells, bytesV, h.l_fNumber, h.l_fRest, List.drop_append, List.take_append, List.drop_of_length_le, List.take_of_length_le]
theorem secrets.rl_fNumber {x : secrets} (h : x.ok) : (bytesV x.fNumber).length = 32 := by simp [bytesV, h.l_fNumber]
theorem secrets.upd_fNumber {x : secrets} (h : x.ok) (l : List UInt8) (hl : l.length = 32) : upd x.cells 0 (bytesV l) = ({ x with fNumber := l }).cells := by
  simp [upd, secrets.cells, bytesV, h.l_fNumber, h.l_fRest, hl, List.drop_append, List.take_append, List.drop_of_length_le, List.take_of_length_le]
theorem secrets.row_fRest {x : secrets} (h : x.ok) : (x.cells.drop 32).take 32 = bytesV x.fRest := by simp [secrets.cells, bytesV, h.l_fNumber, h.l_fRest, List.drop_append, List.take_append, List.drop_of_length_le, List.take_of_length_le]
theorem secrets.upd_fRest {x : secrets} (h : x.ok) (l : List UInt8) (hl : l.length = 32) : upd x.cells 32 (bytesV l) = ({ x with fRest := l }).cells := by
  simp [upd, secrets.cells, bytesV, h.l_fNumber, h.l_fRest, hl, List.drop_append, List.take_append, List.drop_of_length_le, List.take_of_length_le]
theorem secrets.see_fRest {x : secrets} (h : x.ok) : ∀ (j : Nat) (v : Value), (bytesV x.fRest)[j]? = some v → x.cells[32 + j]? = some v := fun j v hj => by
  rw [← secrets.row_fRest h, List.getElem?_take] at hj
  split at hj
  · rwa [List.getElem?_drop] at hj
  · cases hj
def secrets.zero : secrets := ⟨List.replicate 32 0, List.replicate 32 0⟩
theorem secrets.zero_ok : secrets.zero.ok := by constructor <;> first | exact trivial | simp [secrets.zero]
theorem secrets.zr : Zr Try.prog 45 (agg secrets.zero.cells) := by unfold Zr; kernel_rfl
theorem secrets.eqq {x y : secrets} (hx : x.ok) (hy : y.ok) (w : World) : (Op.equalIn 10000 45 (agg x.cells) (agg y.cells)).run Try.prog w = .ok (decide (x.fNumber = y.fNumber) && (decide (x.fRest = y.fRest) && (true))) w := by
  rw [show (10000 : Nat) = 9999 + 1 from rfl, run_equalIn_struct w 9999 45 x.cells.toArray y.cells.toArray (by kernel_rfl) (by kernel_rfl)]
  exact (eqFields_step dE (run_partN Try.underlying30 rfl Sz30 (secrets.row_fNumber hx)) (run_partN Try.underlying30 rfl Sz30 (secrets.row_fNumber hy)) (eq_bytesA Try.underlying30 Try.underlying5 Sz5 hx.l_fNumber hy.l_fNumber) (eqFields_step dE (run_partN Try.underlying22 rfl Sz22 (secrets.row_fRest hx)) (run_partN Try.underlying22 rfl Sz22 (secrets.row_fRest hy)) (eq_bytesA Try.underlying22 Try.underlying5 Sz5 hx.l_fRest hy.l_fRest) eqFields_nil))
theorem secrets.eq_run {x y : secrets} (hx : x.ok) (hy : y.ok) (w : World) [Decidable (x = y)] : (Op.equalIn 10000 45 (agg x.cells) (agg y.cells)).run Try.prog w = .ok (decide (x = y)) w := by
  rw [secrets.eqq hx hy]
  congr 1
  obtain ⟨x0, x1⟩ := x
  obtain ⟨y0, y1⟩ := y
  rw [Bool.eq_iff_iff]
  simp only [Bool.and_eq_true, decide_eq_true_eq, secrets.mk.injEq, and_true]
theorem secrets.eq_runC {x y : secrets} (hx : x.ok) (hy : y.ok) (w : World) : (Op.equalIn 10000 45 (agg x.cells) (agg y.cells)).run Try.prog w = .ok (@decide (x = y) (Classical.propDecidable (x = y))) w := @secrets.eq_run x y hx hy w (Classical.propDecidable (x = y))
theorem secrets.eg : Try.prog.eqGuardType Try.prog.depth 45 = false := by kernel_rfl
end Go.Proofs.Ytmddgelpllffoaa
end

section
namespace Hw
open Go
set_option linter.unusedSimpArgs false
set_option linter.unusedVariables false
set_option maxRecDepth 100000

/-- eight words, highest first -/
theorem lt_sp {n a b c : Nat} (h : n < 2 ^ c) (hc : a + b = c) : n < 2 ^ a * 2 ^ b := by subst hc; rw [← Nat.pow_add]; exact h
theorem top_sp {n a b c : Nat} (h : n < 2 ^ c) (hc : a + b = c) : n / 2 ^ a % 2 ^ b = n / 2 ^ a := Nat.mod_eq_of_lt (Nat.div_lt_of_lt_mul (lt_sp h hc))
theorem le_2p {a c : Nat} (h : a ≤ c) : 2 ^ a ≤ 2 ^ c := Nat.pow_le_pow_right (by decide) h
theorem pos_2p (c : Nat) : 0 < 2 ^ c := Nat.pow_pos (by decide)
def words8 (n : Nat) : List UInt64 := [448, 384, 320, 256, 192, 128, 64, 0].map fun e => w64 (n / 2 ^ e)
theorem words8_length (n : Nat) : (words8 n).length = 8 := rfl
theorem words8_zero : words8 0 = List.replicate 8 0 := by
  simp only [words8, List.map_cons, List.map_nil, Nat.zero_div]; rfl
theorem wvo8 (a b c d e f g h : UInt64) : wv [a, b, c, d, e, f, g, h] = ((((((a.toNat * 2 ^ 64 + b.toNat) * 2 ^ 64 + c.toNat) * 2 ^ 64 + d.toNat) * 2 ^ 64 + e.toNat) * 2 ^ 64 + f.toNat) * 2 ^ 64 + g.toNat) * 2 ^ 64 + h.toNat := by
  simp [wv]
theorem horner (n k : Nat) : n / 2 ^ (k + 64) * 2 ^ 64 + n / 2 ^ k % 2 ^ 64 = n / 2 ^ k := by
  rw [Nat.pow_add, ← Nat.div_div_eq_div_mul, Nat.mul_comm]
  exact Nat.div_add_mod _ _
theorem horn2 {n k m : Nat} (h : k + 64 = m) : n / 2 ^ m * 2 ^ 64 + n / 2 ^ k % 2 ^ 64 = n / 2 ^ k := by subst h; exact horner n k
theorem wv_words8 {n : Nat} (h : n < 2 ^ 512) : wv (words8 n) = n := by
  simp only [words8, List.map_cons, List.map_nil]
  rw [wvo8]
  simp only [w64_toNat]
  have h0 := top_sp (a := 448) (b := 64) h rfl
  rw [h0, horn2 (k := 384) (m := 448) rfl, horn2 (k := 320) (m := 384) rfl, horn2 (k := 256) (m := 320) rfl, horn2 (k := 192) (m := 256) rfl, horn2 (k := 128) (m := 192) rfl, horn2 (k := 64) (m := 128) rfl, horn2 (k := 0) (m := 64) rfl, Nat.pow_zero, Nat.div_one]
theorem words8_get (n : Nat) : ∀ j, j < 8 → (words8 n)[7 - j]? = some (w64 (n / 2 ^ (64 * j))) := fun j hj => by
  have e : ∀ j, j < 8 → ([448, 384, 320, 256, 192, 128, 64, 0] : List Nat)[7 - j]? = some (64 * j) := by decide
  rw [words8, List.getElem?_map, e j hj]; rfl
theorem pow256 (k : Nat) : 256 ^ k = 2 ^ (8 * k) := by rw [show (256 : Nat) = 2 ^ 8 by decide, ← Nat.pow_mul]
/-- one byte more -/
theorem words8_step (n k : Nat) (x : UInt8) (hn : n < 256 ^ k) (hk : k < 64) :
    words8 (n + 256 ^ k * x.toNat) = (words8 n).set (7 - k / 8) ((words8 n).getD (7 - k / 8) 0 ||| shl64 x.toUInt64 (8 * (k % 8))) := by
  have hx := x.toNat_lt
  apply List.ext_getElem?
  intro i
  rcases Nat.lt_or_ge i 8 with hi | hi
  · obtain ⟨j, hj, rfl⟩ : ∃ j, j < 8 ∧ i = 7 - j := ⟨7 - i, by omega, by omega⟩
    rw [words8_get _ j hj, List.getElem?_set, List.getD, words8_get _ (k / 8) oM, Option.getD_some]
    rw [pow256] at hn
    rcases Nat.lt_trichotomy j (k / 8) with h | h | h
    · rw [if_neg oM, words8_get _ j hj, pow256]
      congr 1
      apply UInt64.toNat_inj.1
      rw [w64_toNat, w64_toNat]
      have e : 2 ^ (8 * k) * x.toNat = 2 ^ (64 * j) * (2 ^ 64 * (2 ^ (8 * k - 64 * j - 64) * x.toNat)) := by
        rw [← Nat.mul_assoc, ← Nat.mul_assoc, ← Nat.pow_add, ← Nat.pow_add]
        congr 2; omega
      rw [e, Nat.add_mul_div_left _ _ (Nat.pow_pos dE), Nat.add_mul_mod_self_left]
    · subst h
      rw [if_pos rfl, if_pos (by rw [words8_length]; omega), pow256]
      congr 1
      apply UInt64.toNat_inj.1
      rw [UInt64.toNat_or, shl64_toNat, w64_toNat, w64_toNat, UInt8.toNat_toUInt64]
      have e : 2 ^ (8 * k) * x.toNat = 2 ^ (64 * (k / 8)) * (2 ^ (8 * (k % 8)) * x.toNat) := by
        rw [← Nat.mul_assoc, ← Nat.pow_add]
        congr 2; omega
      have hl : n / 2 ^ (64 * (k / 8)) < 2 ^ (8 * (k % 8)) := by
        apply Nat.div_lt_of_lt_mul
        rw [← Nat.pow_add]
        rw [show 64 * (k / 8) + 8 * (k % 8) = 8 * k by omega]; exact hn
      have hm : 8 * (k % 8) ≤ 56 := by omega
      have h8 : 2 ^ (8 * (k % 8)) ≤ 2 ^ 56 := Nat.pow_le_pow_right dE hm
      have hb : x.toNat * 2 ^ (8 * (k % 8)) < 2 ^ 64 := by
        calc x.toNat * 2 ^ (8 * (k % 8)) ≤ x.toNat * 2 ^ 56 := Nat.mul_le_mul_left _ h8
          _ < 2 ^ 64 := by omega
      rw [e, Nat.add_mul_div_left _ _ (Nat.pow_pos dE), Nat.mod_eq_of_lt hb, Nat.mod_eq_of_lt (Nat.lt_of_lt_of_le hl (Nat.le_trans h8 dE))]
      rw [Nat.mul_comm x.toNat, Nat.or_comm, ← Nat.two_pow_add_eq_or_of_lt hl, Nat.add_comm, Nat.mod_eq_of_lt]
      calc 2 ^ (8 * (k % 8)) * x.toNat + n / 2 ^ (64 * (k / 8)) < 2 ^ (8 * (k % 8)) * (x.toNat + 1) := by rw [Nat.mul_add]; omega
        _ ≤ 2 ^ (8 * (k % 8)) * 2 ^ 8 := Nat.mul_le_mul_left _ hx
        _ = 2 ^ (8 * (k % 8) + 8) := by rw [Nat.pow_add]
        _ ≤ 2 ^ 64 := Nat.pow_le_pow_right dE oM
    · rw [if_neg oM, words8_get _ j hj, pow256]
      congr 1
      have hp : 2 ^ (8 * (k + 1)) ≤ 2 ^ (64 * j) := Nat.pow_le_pow_right dE oM
      have h1 : n + 2 ^ (8 * k) * x.toNat < 2 ^ (8 * (k + 1)) := by
        rw [show 8 * (k + 1) = 8 * k + 8 by omega, Nat.pow_add]
        calc n + 2 ^ (8 * k) * x.toNat < 2 ^ (8 * k) * (x.toNat + 1) := by rw [Nat.mul_add]; omega
          _ ≤ 2 ^ (8 * k) * 2 ^ 8 := Nat.mul_le_mul_left _ hx
      rw [Nat.div_eq_of_lt (Nat.lt_of_lt_of_le h1 hp), Nat.div_eq_of_lt (Nat.lt_of_lt_of_le (Nat.lt_of_le_of_lt (Nat.le_add_right _ _) h1) hp)]
  · rw [List.getElem?_eq_none (by rw [words8_length]; exact hi), List.getElem?_eq_none (by rw [List.length_set, words8_length]; exact hi)]

theorem le_take_succ (l : List UInt8) (k : Nat) (h : k < l.length) : le (l.take (k + 1)) = le (l.take k) + 256 ^ k * (l.getD k 0).toNat := by
  rw [List.take_succ_eq_append_getElem h, le_append, List.length_take, Nat.min_eq_left oM]
  simp [le, List.getD, h]
theorem le_take_lt (l : List UInt8) (k : Nat) : le (l.take k) < 256 ^ k := by
  refine Nat.lt_of_lt_of_le (le_lt _) (Nat.pow_le_pow_right dE ?_)
  rw [List.length_take]; omega
theorem take_512 (l : List UInt8) (k : Nat) (h : k ≤ 64) : le (l.take k) < 2 ^ 512 := by
  refine Nat.lt_of_lt_of_le (le_take_lt l k) ?_
  rw [pow256]; exact le_2p (c := 512) (by omega)
theorem L_pos : 0 < L := by decide
theorem L_lt : L < 2 ^ 256 := by decide
theorem le_leb32 {n : Nat} (h : n < 2 ^ 256) : le (leb 32 n) = n := by
  rw [le_leb]; exact Nat.mod_eq_of_lt h
theorem le_byte (l : List UInt8) (k : Nat) : (l.getD k 0).toNat = le l / 256 ^ k % 256 := by
  rcases Nat.lt_or_ge k l.length with h | h
  · rw [le_drop l k (Nat.le_of_lt h)]
    have : l.drop k = l.getD k 0 :: l.drop (k + 1) := by
      rw [List.getD_eq_getElem?_getD, List.getElem?_eq_getElem h]
      exact List.drop_eq_getElem_cons h
    rw [this, le]
    have := (l.getD k 0).toNat_lt
    omega
  · rw [List.getD_eq_getElem?_getD, List.getElem?_eq_none h, Nat.div_eq_of_lt (Nat.lt_of_lt_of_le (le_lt l) (Nat.pow_le_pow_right dE h))]
    rfl
theorem le_bit (l : List UInt8) (k : Nat) : (l.getD (k / 8) 0).toNat / 2 ^ (k % 8) % 2 = le l / 2 ^ k % 2 := by
  rw [le_byte, pow256, show (256 : Nat) = 2 ^ (k % 8) * 2 ^ (8 - k % 8) by rw [← Nat.pow_add, show k % 8 + (8 - k % 8) = 8 by omega], Nat.mod_mul_right_div_self, Nat.div_div_eq_div_mul, ← Nat.pow_add, show 8 * (k / 8) + k % 8 = k by omega]
  exact Nat.mod_mod_of_dvd _ ⟨2 ^ (8 - k % 8 - 1), by rw [← Nat.pow_succ']; congr 1; omega⟩
theorem bit_and (l : List UInt8) (k : Nat) : (decide (((shr8 (l.getD (k / 8) 0) (k % 8) &&& 1).toNat : Int) = 1)) = (le l).testBit k := by
  rw [UInt8.toNat_and, shr8_toNat, show (1 : UInt8).toNat = 2 ^ 1 - 1 by decide, Nat.and_two_pow_sub_one_eq_mod, Nat.pow_one, le_bit, Nat.testBit_eq_decide_div_mod_eq]
  congr 1
  apply propext; omega
theorem bit_rem (l : List UInt8) (k : Nat) : (decide (((UInt8.ofNat ((shr8 (l.getD (k / 8) 0) (k % 8)).toNat % 2)).toNat : Int) = 1)) = (le l).testBit k := by
  rw [shr8_toNat, le_bit, UInt8.toNat_ofNat', Nat.testBit_eq_decide_div_mod_eq]
  congr 1
  apply propext; omega
end Hw
end

section
namespace Go.Proofs.Ytmddgelpllffoaa
open Go Hw
set_option linter.unusedVariables false
set_option linter.unusedSimpArgs false

set_option maxRecDepth 100000 in
set_option maxHeartbeats 1000000 in
theorem scalar_canon (a : List UInt8) (ha : a.length = 32) : Meets Try.prog 22 [agg (bytesV a)] [] (fun _ => True) (fun v out => v = .bool (decide (le a < L)) ∧ out = []) := by
  intro W hW
  refine calls_of (hp0 := []) Try.func22 rfl 7 Try.ntmps22 rfl (HRep.nil _) ?_
  refine Sat.seq ?_
  refine Sat.region ?_
  refine Tr.boxA rfl rfl ?_
  intro n1 hn1 hf1
  refine Tr.assign rfl rfl rfl ?_
  refine Tr.nil ?_
  refine at_n ?_
  refine Sat.seq ?_
  refine Sat.region ?_
  first
    | refine Tr.loadAll rfl rfl rfl Try.underlying30 rfl Sz30 mM (by first | (simp [leb_length, words4_length, words8_length, List.length_replicate, ha]; done) | assumption | (rw [bytesV, List.length_map]; assumption)) ?_
    | refine Tr.loadN _ rfl rfl rfl Try.underlying30 rfl Sz30 mM (by exact rfl) (by first | (simp [leb_length, words4_length, words8_length, List.length_replicate, ha]; done) | assumption | (rw [bytesV, List.length_map]; assumption)) ?_
  refine Tr.callV rfl rfl rfl rfl Body34 (scalar_load_n _ (by simp [leb_length, words4_length, words8_length, List.length_replicate, ha])) (fun _ _ => trivial) ?_
  refine Tr.callV rfl rfl rfl rfl Body45 (scalar_modulus_n) (fun _ _ => trivial) ?_
  refine Tr.callV rfl rfl rfl rfl Body44 (scalar_below_n _ _ (le32 ha) L_lt) (fun _ _ => trivial) ?_
  refine Tr.assign rfl rfl rfl ?_
  refine Tr.nil ?_
  refine at_n ?_
  refine Sat.ret ?_
  refine en_r ?_
  refine ⟨_, [], res_tmp rfl rfl, sP, sP, ?_, rfl⟩
  rfl

set_option maxRecDepth 100000 in
set_option maxHeartbeats 1000000 in
theorem scalar_rest (b o c n : Nat) (xs : List UInt8) (hx : xs.length = n) (hn : n ≤ 64) : Meets Try.prog 33 [.slice (some ⟨b, o, none⟩) n c] [] (fun W => Sees W b o (bytesV xs)) (fun v out => v = .tuple #[agg (bytesV (leb 32 (le xs % L))), i64 0] ∧ out = []) := by
  intro W hW
  refine calls_of (hp0 := []) Try.func33 rfl 34 Try.ntmps33 rfl (HRep.nil _) ?_
  refine Sat.seq ?_
  refine Sat.region ?_
  refine Tr.alloc (cs := (bytesV (List.replicate 32 0))) rfl Zr30 rfl ?_
  intro n2 hn2 hf2
  refine Tr.assign rfl rfl rfl ?_
  refine Tr.nil ?_
  refine at_n ?_
  refine Sat.seq ?_
  refine Sat.seq ?_
  refine Sat.region ?_
  refine Tr.move rfl rfl rfl ?_
  refine Tr.lenSl rfl rfl rfl Try.underlying23 ?_
  refine Tr.gtr rfl rfl rfl rfl (decide_eq_false oM) ?_
  refine Tr.nil ?_
  refine at_n ?_
  refine Sat.cond_f rfl (rfl) ?_
  refine Sat.skip ?_
  refine at_n ?_
  refine Sat.seq ?_
  refine Sat.region ?_
  refine Tr.alloc (cs := (wordsV (List.replicate 8 0))) rfl Zr69 rfl ?_
  intro n4 hn4 hf4
  refine Tr.nil ?_
  refine at_n ?_
  refine Sat.seq ?_
  refine Sat.seq ?_
  refine Sat.region ?_
  refine Tr.move rfl rfl rfl ?_
  refine Tr.lenSl rfl rfl rfl Try.underlying23 ?_
  refine Tr.move rfl rfl rfl ?_
  refine Tr.nil ?_
  refine at_n ?_
  refine Sat.block ?_
  refine Sat.loop (ι := Nat) (fun k => ⟨[(2, ptr n2 0), (4, ptr n4 0), (11, .slice (some ⟨b, o, none⟩) n c), (12, i64 (n : Int)), (13, i64 (k : Int))], [⟨n4, wordsV (words8 (le (xs.take k))), 69, 8⟩, ⟨n2, bytesV (List.replicate 32 0), 30, 32⟩]⟩) (fun k => k ≤ n) (fun k => n - k) (0) ?_ ?_ ?_
  · omega
  · exact weak_of (wk1 rfl (wk1 rfl (wk1 rfl (wk1 rfl (wk1 rfl wk0))))) (wh1 (by rw [List.take_zero, show le [] = 0 from rfl, words8_zero]; exact mem0) (wh1 mM wh0)) nD
  ·
    rintro k hi
    refine Sat.seq ?_
    refine Sat.region ?_
    refine Tr.lss rfl rfl rfl rfl rfl ?_
    refine Tr.nil ?_
    refine at_n ?_
    refine Sat.seq ?_
    first
      | refine Sat.condP rfl (fun hc1 => ?_) (fun hc1 => ?_)
      | refine Sat.condNP rfl (fun hc1 => ?_) (fun hc1 => ?_)
      | refine Sat.cond rfl (fun hc1 => ?_) (fun hc1 => ?_)
    ·
      refine Sat.skip ?_
      refine at_n ?_
      refine Sat.seq ?_
      refine Sat.block ?_
      refine Sat.seq ?_
      refine Sat.region ?_
      refine Tr.move rfl rfl rfl ?_
      first
        | refine Tr.idxSl1 rfl rfl rfl rfl Try.underlying23 Sz5 _ rfl oM ?_
        | refine Tr.idxSlO rfl rfl rfl rfl Try.underlying23 Sz5 _ rfl oM ?_
        | refine Tr.idxSl1 rfl rfl rfl rfl Try.underlying23 Sz5 _ (toNat_back oM) oM ?_
        | refine Tr.idxSlO rfl rfl rfl rfl Try.underlying23 Sz5 _ (toNat_back oM) oM ?_
      refine Tr.loadE rfl rfl rfl Try.underlying5 rfl (by first | (simp; done) | (simp; exact hW.2.2) | (simp [Cx.with]; done) | (simp [Cx.with]; omega)) (hW _ _ (get_bytes oM)) ?_
      refine Tr.assign rfl rfl rfl ?_
      refine Tr.assign rfl rfl rfl ?_
      refine Tr.nil ?_
      refine at_n ?_
      refine Sat.draw [(0, 0), (0, 1), (0, 2), (0, 3), (1, 4), (0, 5), (0, 6), (0, 7), (0, 8), (0, 9), (0, 10), (0, 11), (0, 12), (4, 13)] Mixed (by kernel_rfl) ?_
      refine Tr.move rfl rfl rfl ?_
      refine Tr.quo_i64 rfl rfl rfl rfl oM ?_
      refine Tr.sub_i64 rfl rfl rfl rfl oM ?_
      first
        | refine Tr.idxArr1 rfl rfl rfl rfl Try.underlying69 Sz65 (7 - k / 8) oM oM ?_
        | refine Tr.idxArrO rfl rfl rfl rfl Try.underlying69 Sz65 (7 - k / 8) oM oM ?_
      refine Tr.load1 rfl rfl rfl Try.underlying65 rfl mM (by first | rfl | exact get_words (by first | omega | (simp [leb_length, words4_length, words8_length, List.length_replicate, hx]; done) | (simp [leb_length, words4_length, words8_length, List.length_replicate, hx]; omega)) | exact get_bytes (by first | omega | (simp [leb_length, words4_length, words8_length, List.length_replicate, hx]; done) | (simp [leb_length, words4_length, words8_length, List.length_replicate, hx]; omega)) | exact get_ints (by first | omega | (simp [leb_length, words4_length, words8_length, List.length_replicate, hx]; done) | (simp [leb_length, words4_length, words8_length, List.length_replicate, hx]; omega))) ?_
      refine Tr.move rfl rfl rfl ?_
      refine Tr.conv rfl rfl rfl Try.underlying5 Try.underlying65 (cv_u8_u64 _) ?_
      refine Tr.move rfl rfl rfl ?_
      refine Tr.rem_i64 rfl rfl rfl rfl oM ?_
      refine Tr.mul_i64 rfl rfl rfl rfl oM ?_
      refine Tr.shl_u64 rfl rfl rfl rfl (8 * (k % 8)) oM oM ?_
      refine Tr.or_u64 rfl rfl rfl rfl ?_
      first
        | refine Tr.idxArr1 rfl rfl rfl rfl Try.underlying69 Sz65 (7 - k / 8) oM oM ?_
        | refine Tr.idxArrO rfl rfl rfl rfl Try.underlying69 Sz65 (7 - k / 8) oM oM ?_
      refine Tr.store1 rfl rfl rfl rfl rfl Sz65 mM (by first | (simp [leb_length, words4_length, words8_length, List.length_replicate, hx]; done) | (simp [leb_length, words4_length, words8_length, List.length_replicate, hx]; omega)) sT uU ?_
      refine Tr.nil ?_
      refine bl_n ?_
      refine at_n ?_
      refine Sat.region ?_
      refine Tr.add_i64 rfl rfl rfl rfl oM ?_
      refine Tr.move rfl rfl rfl ?_
      refine Tr.nil ?_
      refine at_n ?_
      exact ⟨k + 1, by omega, by omega, weak_of (wk1 rfl (wk1 rfl (wk1 rfl (wk1 rfl (wk1 rfl wk0))))) (wh1 (by rw [le_take_succ xs k oM, words8_step _ _ _ (le_take_lt xs k) oM]; exact mem0) (wh1 mM wh0)) nD⟩
    ·
      obtain rfl : k = n := by omega
      refine Sat.exit ?_
      refine at_x ?_
      refine at_x ?_
      refine bl_h ?_
      refine at_n ?_
      refine Sat.seq ?_
      refine Sat.region ?_
      refine Tr.sliceArr rfl rfl rfl Try.underlying69 Sz65 ?_
      refine Tr.callV rfl rfl rfl rfl Body37 (scalar_residue _ _ _ 8 (words8 (le (xs.take k))) rfl oM) (fun W h => sees_own h mM) ?_
      first
        | refine Tr.storeAll rfl rfl rfl rfl cB Sz30 (by first | (simp [leb_length, words4_length, words8_length, List.length_replicate, hx]; done) | assumption | (rw [bytesV, List.length_map]; assumption)) mM (by first | (simp [leb_length, words4_length, words8_length, List.length_replicate, hx]; done) | assumption | (rw [bytesV, List.length_map]; assumption)) uU ?_
        | refine Tr.storeN _ rfl rfl rfl rfl rfl cB Sz30 (by first | (simp [leb_length, words4_length, words8_length, List.length_replicate, hx]; done) | assumption | (rw [bytesV, List.length_map]; assumption)) mM (by first | (simp [leb_length, words4_length, words8_length, List.length_replicate, hx]; done) | assumption | (rw [bytesV, List.length_map]; assumption)) (by exact rfl) uU ?_
      refine Tr.assign rfl rfl rfl ?_
      refine Tr.nil ?_
      refine at_n ?_
      refine Sat.ret ?_
      refine en_r ?_
      refine ⟨_, [], res_cell_tmp rfl rfl rfl Try.underlying30 rfl Sz30 mM (by simp [leb_length, words4_length, words8_length, List.length_replicate, hx]), sP, sP, ?_, rfl⟩
      rw [wv_words8 (take_512 xs k oM), List.take_of_length_le oM]

set_option maxRecDepth 100000 in
set_option maxHeartbeats 1000000 in
theorem scalar_bit_at (a : List UInt8) (ha : a.length = 32) (k : Nat) (hk : k < 256) : Meets Try.prog 60 [agg (bytesV a), i64 (k : Int)] [] (fun _ => True) (fun v out => v = .bool ((le a).testBit k) ∧ out = []) := by
  intro W hW
  refine calls_of (hp0 := []) Try.func60 rfl 22 Try.ntmps60 rfl (HRep.nil _) ?_
  refine Sat.seq ?_
  refine Sat.region ?_
  refine Tr.boxA rfl rfl ?_
  intro n2 hn2 hf2
  refine Tr.assign rfl rfl rfl ?_
  refine Tr.nil ?_
  refine at_n ?_
  refine Sat.seq ?_
  refine Sat.region ?_
  refine Tr.move rfl rfl rfl ?_
  refine Tr.geq rfl rfl rfl rfl (decide_eq_true oM) ?_
  refine Tr.move rfl rfl rfl ?_
  refine Tr.move rfl rfl rfl ?_
  refine Tr.lss rfl rfl rfl rfl (decide_eq_true oM) ?_
  refine Tr.pick rfl rfl rfl rfl rfl rfl ?_
  refine Tr.move rfl rfl rfl ?_
  refine Tr.move rfl rfl rfl ?_
  refine Tr.quo_i64 rfl rfl rfl rfl oM ?_
  first
    | refine Tr.idxArr1 rfl rfl rfl rfl Try.underlying30 Sz5 (k / 8) oM oM ?_
    | refine Tr.idxArrO rfl rfl rfl rfl Try.underlying30 Sz5 (k / 8) oM oM ?_
  refine Tr.load1 rfl rfl rfl Try.underlying5 rfl mM (by first | rfl | exact get_words (by first | omega | (simp [leb_length, words4_length, words8_length, List.length_replicate, ha]; done) | (simp [leb_length, words4_length, words8_length, List.length_replicate, ha]; omega)) | exact get_bytes (by first | omega | (simp [leb_length, words4_length, words8_length, List.length_replicate, ha]; done) | (simp [leb_length, words4_length, words8_length, List.length_replicate, ha]; omega)) | exact get_ints (by first | omega | (simp [leb_length, words4_length, words8_length, List.length_replicate, ha]; done) | (simp [leb_length, words4_length, words8_length, List.length_replicate, ha]; omega))) ?_
  refine Tr.move rfl rfl rfl ?_
  refine Tr.rem_i64 rfl rfl rfl rfl oM ?_
  refine Tr.shr_u8 rfl rfl rfl rfl (k % 8) oM oM ?_
  refine Tr.and_u8 rfl rfl rfl (show evIn _ _ = some (u8 1) from rfl) ?_
  refine Tr.eqi rfl rfl rfl rfl rfl ?_
  refine Tr.pick rfl rfl rfl rfl rfl rfl ?_
  refine Tr.assign rfl rfl rfl ?_
  refine Tr.nil ?_
  refine at_n ?_
  refine Sat.ret ?_
  refine en_r ?_
  refine ⟨_, [], res_tmp rfl rfl, sP, sP, ?_, rfl⟩
  rw [← bit_and a k]; rfl

end Go.Proofs.Ytmddgelpllffoaa
end
