/- Contracts of functions of the loaded program, and the lemmas that they need (part 4). It proves no statement by itself; it has no conditions. -/
import Derived.WalkKit
import Derived.Orders
import Derived.Deep.LoopGhost
import Derived.IntWalk
import Derived.Laws.StructEq
import Derived.Test.YtpacobmjjjillaaGreatRows
import Derived.KernelRfl
import Derived.ArgAppend
import Derived.Deep.AppendSrc
import Derived.Lib.Bytealg
import Derived.Lib.BytesEntry
import Derived.Laws.IdiomStrings
import Derived.Laws.Externs
import Derived.WideKeyArr2
import Derived.ProofKit
import Derived.OpenShut
import Derived.Deep.Slices
import Derived.Laws.Pointers
import Derived.Laws.Cover3
import Derived.LaidEqlPtr
import Derived.LoopN
import Derived.RangeFuncLeaves
import Derived.RangeFuncSeq
import Derived.OrdersIn
import Derived.Defers
import Derived.Laws.MathBits
import Derived.ChangeOld
import Derived.Below
import Derived.Test.YtpacobmjjjillaaGreatBNmC3
set_option maxRecDepth 100000
set_option maxHeartbeats 8000000
section
namespace Go.Proofs.YtpacobmjjjillaaGreat
open Go Hw
set_option linter.unusedVariables false
set_option linter.unusedSimpArgs false

open Ed

theorem field_put (q o n c m : Nat) (l : List UInt8) (x : UInt64) (BT : TypeId) (hn : 8 ≤ n) (hl : o + 8 ≤ l.length) : Meets Tryz.prog 224 [.slice (some ⟨q, o, none⟩) n c, u64 x] [q] (fun W => BlkOk W ⟨q, bytesV l, BT, m⟩) (fun v out => out = [⟨q, bytesV (set8 l o x), BT, m⟩]) := by
 intro W hW
 refine calls_of (hp0 := [⟨q, bytesV l, BT, m⟩]) Tryz.func224 J 46 Tryz.ntmps224 J (HRep.one hW) (Sat.seq (Sat.region (Tr.move J J J (Tr.idxSlO J J J J Y39 Sz5 7 J oM (Tr.load1 J J J Y5 J Z0 (get_bytes oM) ?_)))))
 refine Tr.nil (at_n (Sat.seq (Sat.region (Tr.move J J J (Tr.move J J J (Tr.move J J J (Tr.move J J J (Tr.move J J J (Tr.conv J J J Y22 Y5 (cv_u64_u8 _) (Tr.move J J J (Tr.shr_u64 J J J J 8 J dE (Tr.conv J J J Y22 Y5 (cv_u64_u8 _) (Tr.move J J J (Tr.shr_u64 J J J J 16 J dE (Tr.conv J J J Y22 Y5 (cv_u64_u8 _) (Tr.move J J J (Tr.shr_u64 J J J J 24 J dE (Tr.conv J J J Y22 Y5 (cv_u64_u8 _) (Tr.idxSlO J J J J Y39 Sz5 0 J oM (Tr.store1 J J J J J Sz5 Z0 (by simp; omega) (set_bytes _ _ _) zU ?_))))))))))))))))))))
 refine Tr.idxSlO J J J J Y39 Sz5 1 J oM (Tr.store1 J J J J J Sz5 Z0 (by simp; omega) (set_bytes _ _ _) zU ?_)
 refine Tr.idxSlO J J J J Y39 Sz5 2 J oM (Tr.store1 J J J J J Sz5 Z0 (by simp; omega) (set_bytes _ _ _) zU ?_)
 refine Tr.idxSlO J J J J Y39 Sz5 3 J oM (Tr.store1 J J J J J Sz5 Z0 (by simp; omega) (set_bytes _ _ _) zU ?_)
 refine Tr.nil (at_n (Sat.region (Tr.move J J J (Tr.move J J J (Tr.move J J J (Tr.move J J J (Tr.move J J J (Tr.shr_u64 J J J J 32 J dE (Tr.conv J J J Y22 Y5 (cv_u64_u8 _) (Tr.move J J J (Tr.shr_u64 J J J J 40 J dE (Tr.conv J J J Y22 Y5 (cv_u64_u8 _) (Tr.move J J J (Tr.shr_u64 J J J J 48 J dE (Tr.conv J J J Y22 Y5 (cv_u64_u8 _) (Tr.move J J J (Tr.shr_u64 J J J J 56 J dE (Tr.conv J J J Y22 Y5 (cv_u64_u8 _) (Tr.idxSlO J J J J Y39 Sz5 4 J oM (Tr.store1 J J J J J Sz5 Z0 (by simp; omega) (set_bytes _ _ _) zU ?_))))))))))))))))))))
 refine Tr.idxSlO J J J J Y39 Sz5 5 J oM (Tr.store1 J J J J J Sz5 Z0 (by simp; omega) (set_bytes _ _ _) zU ?_)
 refine Tr.idxSlO J J J J Y39 Sz5 6 J oM (Tr.store1 J J J J J Sz5 Z0 (by simp; omega) (set_bytes _ _ _) zU ?_)
 refine Tr.idxSlO J J J J Y39 Sz5 7 J oM (Tr.store1 J J J J J Sz5 Z0 (by simp; omega) (set_bytes _ _ _) zU ?_)
 refine Tr.nil (en_n ?_)
 exact ⟨_, _, res_none rfl, (fun b hb => by rw [List.mem_singleton.1 hb]; exact mem0), nodup1, rfl⟩

theorem field_quarters (a : List UInt8) (ha : a.length = 32) : Meets Tryz.prog 242 [agg (bytesV a)] [] (fun _ => True) (fun v out => v = agg (wordsV [qw a 0, qw a 1, qw a 2, qw a 3]) ∧ out = []) := by
 intro W hW
 refine calls_of (hp0 := []) Tryz.func242 J 65 Tryz.ntmps242 J (HRep.nil _) (Sat.seq (Sat.region (Tr.boxA J J ?_)))
 intro n1 hn1 hf1
 refine Tr.alloc (cs := (wordsV (List.replicate 4 0))) J Zr156 J ?_
 intro n2 hn2 hf2
 refine Tr.nil (at_n (Sat.seq (Sat.region (Tr.alloc (cs := (wordsV (List.replicate 4 0))) J Zr156 J ?_))))
 intro n3 hn3 hf3
 refine Tr.nil (at_n (Sat.seq (Sat.seq (Sat.region (Tr.move J J J (Tr.nil (at_n (Sat.block (Sat.loop (ι := Nat) (fun k => ⟨[(1, ptr n1 0), (2, ptr n2 0), (3, ptr n3 0), (6, i64 (k : Int))], [⟨n3, wordsV (qtA a k), 156, 4⟩, ⟨n2, wordsV (List.replicate 4 0), 156, 4⟩, ⟨n1, bytesV a, 77, (bytesV a).length⟩]⟩) (fun k => k ≤ 4) (fun k => 4 - k) (0) ?_ ?_ ?_)))))))))
 · omega
 · exact weak_of (wk1 rfl (wk1 rfl (wk1 rfl (wk1 rfl wk0)))) (wh1 Z0 (wh1 Z1 (wh1 Z2 wh0))) nD
 ·
  rintro k hi
  have hlk := qtA_length a k
  refine Sat.seq (Sat.region (Tr.lss J J J J J (Tr.nil (at_n (Sat.seq (Sat.condP J (fun hc0 => ?_) (fun hc0 => ?_)))))))
  ·
   refine Sat.skip (at_n (Sat.seq (Sat.block (Sat.seq (Sat.region (Tr.move J J J (Tr.assign J J J (Tr.nil (at_n (Sat.seq (Sat.region (Tr.move J J J (Tr.mul_i64 J J J J oM (Tr.move J J J (Tr.mul_i64 J J J J oM (Tr.add_i64 J J J J oM (Tr.sliceArrLH (8 * k) (8 * k + 8) J J J J J oM oM oM oM oM Y77 Sz5 (Tr.assign J J J (Tr.nil (at_n (Sat.draw [(0, 0), (0, 1), (0, 2), (1, 3), (0, 4), (0, 5), (0, 6), (1, 7), (0, 8), (0, 9), (0, 10), (0, 11), (0, 12), (1, 13), (0, 14), (0, 15), (0, 16), (0, 17), (0, 18), (1, 19), (0, 20), (0, 21), (0, 22), (0, 23), (0, 24), (1, 25), (0, 26), (0, 27), (0, 28), (0, 29), (0, 30), (1, 31), (0, 32), (0, 33), (0, 34), (0, 35), (0, 36), (1, 37), (0, 38), (0, 39), (0, 40), (0, 41), (0, 42), (1, 43), (0, 44), (0, 45), (0, 46), (0, 47), (4, 48)] Mixed zK (Tr.move J J J (Tr.move J J J (Tr.idxSlO J J J J Y39 Sz5 0 J oM (Tr.load1 J J J Y5 J Z2 zG ?_)))))))))))))))))))))))))
   refine Tr.conv J J J Y5 Y22 (cv_u8_u64 _) (Tr.move J J J (Tr.idxSlO J J J J Y39 Sz5 1 J oM (Tr.load1 J J J Y5 J Z2 zG ?_)))
   refine Tr.conv J J J Y5 Y22 (cv_u8_u64 _) (Tr.shl_u64 J J J J 8 J dE (Tr.or_u64 J J J J (Tr.move J J J (Tr.idxSlO J J J J Y39 Sz5 2 J oM (Tr.load1 J J J Y5 J Z2 zG ?_)))))
   refine Tr.conv J J J Y5 Y22 (cv_u8_u64 _) (Tr.shl_u64 J J J J 16 J dE (Tr.or_u64 J J J J (Tr.move J J J (Tr.idxSlO J J J J Y39 Sz5 3 J oM (Tr.load1 J J J Y5 J Z2 zG ?_)))))
   refine Tr.conv J J J Y5 Y22 (cv_u8_u64 _) (Tr.shl_u64 J J J J 24 J dE (Tr.or_u64 J J J J (Tr.move J J J (Tr.idxSlO J J J J Y39 Sz5 4 J oM (Tr.load1 J J J Y5 J Z2 zG ?_)))))
   refine Tr.conv J J J Y5 Y22 (cv_u8_u64 _) (Tr.shl_u64 J J J J 32 J dE (Tr.or_u64 J J J J (Tr.move J J J (Tr.idxSlO J J J J Y39 Sz5 5 J oM (Tr.load1 J J J Y5 J Z2 zG ?_)))))
   refine Tr.conv J J J Y5 Y22 (cv_u8_u64 _) (Tr.shl_u64 J J J J 40 J dE (Tr.or_u64 J J J J (Tr.move J J J (Tr.idxSlO J J J J Y39 Sz5 6 J oM (Tr.load1 J J J Y5 J Z2 zG ?_)))))
   refine Tr.conv J J J Y5 Y22 (cv_u8_u64 _) (Tr.shl_u64 J J J J 48 J dE (Tr.or_u64 J J J J (Tr.move J J J (Tr.idxSlO J J J J Y39 Sz5 7 J oM (Tr.load1 J J J Y5 J Z2 zG ?_)))))
   refine Tr.conv J J J Y5 Y22 (cv_u8_u64 _) (Tr.shl_u64 J J J J 56 J dE (Tr.or_u64 J J J J (Tr.idxArr1 J J J J Y156 Sz22 _ J oM (Tr.store1 J J J J J Sz22 Z0 (by (simp [qtA_length]; omega)) (by exact set_words _ _ _) zU ?_))))
   refine Tr.nil (bl_n (at_n (Sat.region (Tr.add_i64 J J J J oM (Tr.move J J J (Tr.nil (at_n ?_)))))))
   exact ⟨k + 1, by omega, by omega, weak_of (wk1 rfl (wk1 rfl (wk1 rfl (wk1 rfl wk0)))) (wh1 Z0 (wh1 Z1 (wh1 Z2 wh0))) nD⟩
  ·
   obtain rfl : k = 4 := by omega
   refine Sat.exit (at_x (at_x (bl_h (at_n (Sat.seq (Sat.region (Tr.loadAll J J J Y156 J Sz156 Z0 (by (simp [qtA_length]; done)) ?_)))))))
   refine Tr.storeAll J J J J zB Sz156 (by (simp [qtA_length]; done)) Z1 sP zV ?_
   refine Tr.nil (at_n (Sat.ret (en_r ?_)))
   refine ⟨_, [], res_cell J J Y156 J Sz156 Z1 (by simp [qtA_length]), sP, sP, ?_, rfl⟩
   rfl

theorem field_load (a : List UInt8) (ha : a.length = 32) : Meets Tryz.prog 221 [agg (bytesV a)] [] (fun _ => True) (fun v out => v = agg (wordsV (ldN a).l) ∧ out = []) := by
 intro W hW
 refine calls_of (hp0 := []) Tryz.func221 J 37 Tryz.ntmps221 J (HRep.nil _) (Sat.seq (Sat.region (Tr.boxA J J ?_)))
 intro n1 hn1 hf1
 refine Tr.alloc (cs := (wordsV (List.replicate 5 0))) J Zr197 J ?_
 intro n2 hn2 hf2
 refine Tr.nil (at_n (Sat.seq (Sat.region (Tr.loadAll J J J Y77 J Sz77 Z1 (by (simp [ha]; done)) ?_))))
 refine Tr.callV J J J J Body242 (field_quarters a ha) (fun _ _ => trivial) (Tr.alloc (cs := (wordsV (List.replicate 4 0))) J Zr156 J ?_)
 intro n3 hn3 hf3
 refine Tr.storeAll J J J J zB Sz156 sP Z0 sP zU ?_
 refine Tr.nil (at_n (Sat.seq (Sat.region (Tr.idxArr1 J J J J Y156 Sz22 0 J dE (Tr.load1 J J J Y22 J Z0 (by rfl) ?_)))))
 refine Tr.and_u64 J J J (show evIn _ _ = some (u64 2251799813685247) from rfl) (Tr.idxArr1 J J J J Y156 Sz22 0 J dE (Tr.load1 J J J Y22 J Z0 (by rfl) ?_))
 refine Tr.shr_u64 J J J J 51 J dE (Tr.idxArr1 J J J J Y156 Sz22 1 J dE (Tr.load1 J J J Y22 J Z0 (by rfl) ?_))
 refine Tr.shl_u64 J J J J 13 J dE (Tr.or_u64 J J J J (Tr.and_u64 J J J (show evIn _ _ = some (u64 2251799813685247) from rfl) (Tr.idxArr1 J J J J Y156 Sz22 1 J dE (Tr.load1 J J J Y22 J Z0 (by rfl) ?_))))
 refine Tr.shr_u64 J J J J 38 J dE (Tr.idxArr1 J J J J Y156 Sz22 2 J dE (Tr.load1 J J J Y22 J Z0 (by rfl) ?_))
 refine Tr.shl_u64 J J J J 26 J dE (Tr.or_u64 J J J J (Tr.and_u64 J J J (show evIn _ _ = some (u64 2251799813685247) from rfl) (Tr.idxArr1 J J J J Y156 Sz22 2 J dE (Tr.load1 J J J Y22 J Z0 (by rfl) ?_))))
 refine Tr.shr_u64 J J J J 25 J dE (Tr.idxArr1 J J J J Y156 Sz22 3 J dE (Tr.load1 J J J Y22 J Z0 (by rfl) ?_))
 refine Tr.shl_u64 J J J J 39 J dE (Tr.or_u64 J J J J (Tr.and_u64 J J J (show evIn _ _ = some (u64 2251799813685247) from rfl) (Tr.idxArr1 J J J J Y156 Sz22 3 J dE (Tr.load1 J J J Y22 J Z0 (by rfl) ?_))))
 refine Tr.shr_u64 J J J J 12 J dE (Tr.build (cs := wordsV (ldN a).l) J J J (fun w => by kernel_rfl) ?_)
 refine Tr.storeAll J J J J zB Sz197 zW Z1 sP zV ?_
 refine Tr.nil (at_n (Sat.ret (en_r ?_)))
 refine ⟨_, [], res_cell J J Y197 J Sz197 Z1 (by simp [W5.l_length]), sP, sP, ?_, rfl⟩
 rfl

theorem field_carried (w : W5) : Meets Tryz.prog 245 [agg (wordsV w.l)] [] (fun _ => True) (fun v out => v = agg (wordsV (carF w).l) ∧ out = []) := by
 intro W hW
 refine calls_of (hp0 := []) Tryz.func245 J 40 Tryz.ntmps245 J (HRep.nil _) (Sat.seq (Sat.region (Tr.boxA J J ?_)))
 intro n1 hn1 hf1
 refine Tr.alloc (cs := (wordsV (List.replicate 5 0))) J Zr197 J ?_
 intro n2 hn2 hf2
 refine Tr.nil (at_n (Sat.seq (Sat.region (Tr.idxArr1 J J J J Y197 Sz22 0 J dE (Tr.load1 J J J Y22 J Z1 (by rfl) ?_)))))
 refine Tr.and_u64 J J J (show evIn _ _ = some (u64 2251799813685247) from rfl) (Tr.idxArr1 J J J J Y197 Sz22 4 J dE (Tr.load1 J J J Y22 J Z1 (by rfl) ?_))
 refine Tr.shr_u64 J J J J 51 J dE (Tr.mul_u64 J J (show evIn _ _ = some (u64 19) from rfl) J (Tr.add_u64 J J J J (Tr.idxArr1 J J J J Y197 Sz22 1 J dE (Tr.load1 J J J Y22 J Z1 (by rfl) ?_))))
 refine Tr.and_u64 J J J (show evIn _ _ = some (u64 2251799813685247) from rfl) (Tr.idxArr1 J J J J Y197 Sz22 0 J dE (Tr.load1 J J J Y22 J Z1 (by rfl) ?_))
 refine Tr.shr_u64 J J J J 51 J dE (Tr.add_u64 J J J J (Tr.idxArr1 J J J J Y197 Sz22 2 J dE (Tr.load1 J J J Y22 J Z1 (by rfl) ?_)))
 refine Tr.and_u64 J J J (show evIn _ _ = some (u64 2251799813685247) from rfl) (Tr.idxArr1 J J J J Y197 Sz22 1 J dE (Tr.load1 J J J Y22 J Z1 (by rfl) ?_))
 refine Tr.shr_u64 J J J J 51 J dE (Tr.add_u64 J J J J (Tr.idxArr1 J J J J Y197 Sz22 3 J dE (Tr.load1 J J J Y22 J Z1 (by rfl) ?_)))
 refine Tr.and_u64 J J J (show evIn _ _ = some (u64 2251799813685247) from rfl) (Tr.idxArr1 J J J J Y197 Sz22 2 J dE (Tr.load1 J J J Y22 J Z1 (by rfl) ?_))
 refine Tr.shr_u64 J J J J 51 J dE (Tr.add_u64 J J J J (Tr.idxArr1 J J J J Y197 Sz22 4 J dE (Tr.load1 J J J Y22 J Z1 (by rfl) ?_)))
 refine Tr.and_u64 J J J (show evIn _ _ = some (u64 2251799813685247) from rfl) (Tr.idxArr1 J J J J Y197 Sz22 3 J dE (Tr.load1 J J J Y22 J Z1 (by rfl) ?_))
 refine Tr.shr_u64 J J J J 51 J dE (Tr.add_u64 J J J J (Tr.build (cs := wordsV (carF w).l) J J J (fun w => by kernel_rfl) ?_))
 refine Tr.storeAll J J J J zB Sz197 zW Z0 sP zU ?_
 refine Tr.nil (at_n (Sat.ret (en_r ?_)))
 refine ⟨_, [], res_cell J J Y197 J Sz197 Z0 (by simp [W5.l_length]), sP, sP, ?_, rfl⟩
 rfl

theorem wide_plus (s : UInt64 × UInt64) (a b : UInt64) : Meets Tryz.prog 243 [agg [u64 s.1, u64 s.2], u64 a, u64 b] [] (fun _ => True) (fun v out => v = agg [u64 (plF s a b).1, u64 (plF s a b).2] ∧ out = []) := by
 intro W hW
 refine calls_of (hp0 := []) Tryz.func243 J 34 Tryz.ntmps243 J (HRep.nil _) (Sat.seq (Sat.region (Tr.boxA J J ?_)))
 intro n3 hn3 hf3
 refine Tr.alloc (cs := ([u64 0] ++ [u64 0])) J Zr216 J ?_
 intro n6 hn6 hf6
 refine Tr.nil (at_n (Sat.seq (Sat.region (Tr.move J J J (Tr.move J J J (Tr.callV J J J J Body163 (mul64_ok _ _) (fun _ _ => trivial) (Tr.move J J J (Tr.extract J J J J (Tr.extract J J J J (Tr.assign J J J (Tr.assign J J J (Tr.nil (at_n (Sat.seq (Sat.region (Tr.fld J J J Tryz.underlying216 J Sz22 dE _ J (Tr.load1 J J J Y22 J Z1 (by rfl) ?_)))))))))))))))))
 refine Tr.move J J J (Tr.ext J J J J (add64_run _ _ 0 dE) (Tr.move J J J (Tr.extract J J J J (Tr.extract J J J J (Tr.assign J J J (Tr.assign J J J (Tr.nil (at_n (Sat.seq (Sat.region (Tr.fld J J J Tryz.underlying216 J Sz22 dE _ J (Tr.load1 J J J Y22 J Z1 (by rfl) ?_))))))))))))
 refine Tr.move J J J (Tr.move J J J (Tr.ext J J J J (add64_run _ _ _ (by rw [w64_toNat]; have := s.2.toNat_lt; have := (a * b).toNat_lt; simp only [show (0 : UInt64).toNat = 0 from rfl]; omega)) ?_))
 refine Tr.move J J J (Tr.extract J J J J (Tr.extract J J J J (Tr.assign J J J (Tr.nil (at_n (Sat.seq (Sat.region (Tr.move J J J (Tr.move J J J (Tr.build (cs := [u64 (plF s a b).1, u64 (plF s a b).2]) J J J (fun w => by kernel_rfl) ?_))))))))))
 refine Tr.storeAll J J J J zB Sz216 sP Z0 sP zU ?_
 refine Tr.nil (at_n (Sat.ret (en_r ?_)))
 refine ⟨_, [], res_cell J J Tryz.underlying216 J Sz216 Z0 sP, sP, sP, ?_, rfl⟩
 rfl

theorem wide_upper (s : UInt64 × UInt64) : Meets Tryz.prog 244 [agg [u64 s.1, u64 s.2]] [] (fun _ => True) (fun v out => v = u64 (upF s) ∧ out = []) := by
 intro W hW
 refine calls_of (hp0 := []) Tryz.func244 J 10 Tryz.ntmps244 J (HRep.nil _) (Sat.seq (Sat.region (Tr.boxA J J ?_)))
 intro n1 hn1 hf1
 refine Tr.assign J J (show evIn _ _ = some (u64 0) from rfl) (Tr.nil (at_n (Sat.seq (Sat.region (Tr.fld J J J Tryz.underlying216 J Sz22 dE _ J (Tr.load1 J J J Y22 J Z0 (by rfl) ?_))))))
 refine Tr.shl_u64 J J J J 13 J dE (Tr.fld J J J Tryz.underlying216 J Sz22 dE _ J (Tr.load1 J J J Y22 J Z0 (by rfl) ?_))
 refine Tr.shr_u64 J J J J 51 J dE (Tr.or_u64 J J J J (Tr.assign J J J (Tr.nil (at_n (Sat.ret (en_r ?_))))))
 refine ⟨_, [], res_tmp J J, sP, sP, ?_, rfl⟩
 rfl

theorem field_product (na nb : Nat) (a b : W5) : Meets Tryz.prog 222 [ptr na 0, ptr nb 0] [] (fun W => Sees W na 0 (wordsV a.l) ∧ Sees W nb 0 (wordsV b.l)) (fun v out => v = agg (wordsV (mulF a b).l) ∧ out = []) := by
 intro W hW
 refine calls_of (hp0 := []) Tryz.func222 J 267 Tryz.ntmps222 J (HRep.nil _) (Sat.seq (Sat.region (Tr.alloc (cs := (wordsV (List.replicate 5 0))) J Zr197 J ?_)))
 intro n4 hn4 hf4
 refine Tr.nil (at_n (Sat.seq (Sat.draw [(0, 0), (0, 1), (0, 2), (1, 3), (0, 4), (0, 5), (0, 6), (0, 7), (1, 8), (0, 9), (0, 10), (0, 11), (0, 12), (1, 13), (0, 14), (0, 15), (0, 16), (0, 17), (1, 18), (0, 19), (0, 20), (0, 21), (0, 22), (0, 23)] Mixed zK (Tr.move J J J (Tr.nilChk J J J (Tr.idxArr1 J J J J Y197 Sz22 1 J dE (Tr.loadE J J J Y22 J sP (hW.1 1 _ J) (Tr.mul_u64 J J (show evIn _ _ = some (u64 19) from rfl) J (Tr.move J J J (Tr.nilChk J J J (Tr.idxArr1 J J J J Y197 Sz22 2 J dE (Tr.loadE J J J Y22 J sP (hW.1 2 _ J) (Tr.mul_u64 J J (show evIn _ _ = some (u64 19) from rfl) J (Tr.move J J J (Tr.nilChk J J J (Tr.idxArr1 J J J J Y197 Sz22 3 J dE (Tr.loadE J J J Y22 J sP (hW.1 3 _ J) (Tr.mul_u64 J J (show evIn _ _ = some (u64 19) from rfl) J (Tr.move J J J (Tr.nilChk J J J (Tr.idxArr1 J J J J Y197 Sz22 4 J dE (Tr.loadE J J J Y22 J sP (hW.1 4 _ J) (Tr.mul_u64 J J (show evIn _ _ = some (u64 19) from rfl) J (Tr.assign J J J (Tr.assign J J J (Tr.assign J J J (Tr.assign J J J (Tr.nil (at_n (Sat.seq (Sat.draw [(0, 0), (0, 1), (0, 2), (0, 3), (1, 4), (0, 5), (0, 6), (0, 7), (1, 8), (0, 10), (0, 11), (0, 12), (0, 13), (1, 14), (0, 16), (0, 17), (0, 18), (0, 19), (1, 20), (0, 22), (0, 23), (0, 24), (0, 25), (1, 26), (0, 28), (0, 29), (0, 30), (0, 31), (1, 32), (3, 9), (3, 15), (3, 21), (3, 27), (3, 33), (2, 34), (4, 35)] Mixed zK (Tr.build (cs := [u64 0, u64 0]) J J J (fun w => by kernel_rfl) ?_))))))))))))))))))))))))))))))))
 refine Tr.move J J J (Tr.nilChk J J J (Tr.idxArr1 J J J J Y197 Sz22 0 J dE (Tr.loadE J J J Y22 J sP (hW.1 0 _ J) (Tr.move J J J (Tr.nilChk J J J (Tr.idxArr1 J J J J Y197 Sz22 0 J dE (Tr.loadE J J J Y22 J sP (hW.2 0 _ J) (Tr.move J J J (Tr.move J J J (Tr.nilChk J J J (Tr.idxArr1 J J J J Y197 Sz22 4 J dE (Tr.loadE J J J Y22 J sP (hW.2 4 _ J) (Tr.move J J J (Tr.move J J J (Tr.nilChk J J J (Tr.idxArr1 J J J J Y197 Sz22 3 J dE (Tr.loadE J J J Y22 J sP (hW.2 3 _ J) (Tr.move J J J (Tr.move J J J (Tr.nilChk J J J (Tr.idxArr1 J J J J Y197 Sz22 2 J dE (Tr.loadE J J J Y22 J sP (hW.2 2 _ J) (Tr.move J J J (Tr.move J J J (Tr.nilChk J J J (Tr.idxArr1 J J J J Y197 Sz22 1 J dE (Tr.loadE J J J Y22 J sP (hW.2 1 _ J) (Tr.callV J J J J Body243 (wide_plus (0, 0) a.a b.a) (fun _ _ => trivial) (Tr.callV J J J J Body243 (wide_plus (plF (0, 0) a.a b.a) (19 * a.b) b.e) (fun _ _ => trivial) (Tr.callV J J J J Body243 (wide_plus (plF (plF (0, 0) a.a b.a) (19 * a.b) b.e) (19 * a.c) b.d) (fun _ _ => trivial) (Tr.callV J J J J Body243 (wide_plus (plF (plF (plF (0, 0) a.a b.a) (19 * a.b) b.e) (19 * a.c) b.d) (19 * a.d) b.c) (fun _ _ => trivial) (Tr.callV J J J J Body243 (wide_plus (plF (plF (plF (plF (0, 0) a.a b.a) (19 * a.b) b.e) (19 * a.c) b.d) (19 * a.d) b.c) (19 * a.e) b.b) (fun _ _ => trivial) (Tr.alloc (cs := ([u64 0] ++ [u64 0])) J Zr216 J ?_)))))))))))))))))))))))))))))))))
 intro n9 hn9 hf9
 refine Tr.storeAll J J J J zB Sz216 sP Z0 sP zU ?_
 refine Tr.nil (at_n (Sat.seq (Sat.draw [(0, 0), (0, 1), (0, 2), (0, 3), (1, 4), (0, 5), (0, 6), (0, 7), (1, 8), (0, 10), (0, 11), (0, 12), (1, 13), (0, 14), (0, 15), (0, 16), (1, 17), (0, 19), (0, 20), (0, 21), (0, 22), (1, 23), (0, 25), (0, 26), (0, 27), (0, 28), (1, 29), (0, 31), (0, 32), (0, 33), (0, 34), (1, 35), (3, 9), (3, 18), (3, 24), (3, 30), (3, 36), (2, 37), (4, 38)] Mixed zK (Tr.build (cs := [u64 0, u64 0]) J J J (fun w => by kernel_rfl) ?_))))
 refine Tr.move J J J (Tr.nilChk J J J (Tr.idxArr1 J J J J Y197 Sz22 0 J dE (Tr.loadE J J J Y22 J sP (hW.1 0 _ J) (Tr.move J J J (Tr.nilChk J J J (Tr.idxArr1 J J J J Y197 Sz22 1 J dE (Tr.loadE J J J Y22 J sP (hW.2 1 _ J) (Tr.move J J J (Tr.nilChk J J J (Tr.idxArr1 J J J J Y197 Sz22 1 J dE (Tr.loadE J J J Y22 J sP (hW.1 1 _ J) (Tr.move J J J (Tr.nilChk J J J (Tr.idxArr1 J J J J Y197 Sz22 0 J dE (Tr.loadE J J J Y22 J sP (hW.2 0 _ J) (Tr.move J J J (Tr.move J J J (Tr.nilChk J J J (Tr.idxArr1 J J J J Y197 Sz22 4 J dE (Tr.loadE J J J Y22 J sP (hW.2 4 _ J) (Tr.move J J J (Tr.move J J J (Tr.nilChk J J J (Tr.idxArr1 J J J J Y197 Sz22 3 J dE (Tr.loadE J J J Y22 J sP (hW.2 3 _ J) (Tr.move J J J (Tr.move J J J (Tr.nilChk J J J (Tr.idxArr1 J J J J Y197 Sz22 2 J dE (Tr.loadE J J J Y22 J sP (hW.2 2 _ J) (Tr.callV J J J J Body243 (wide_plus (0, 0) a.a b.b) (fun _ _ => trivial) (Tr.callV J J J J Body243 (wide_plus (plF (0, 0) a.a b.b) a.b b.a) (fun _ _ => trivial) (Tr.callV J J J J Body243 (wide_plus (plF (plF (0, 0) a.a b.b) a.b b.a) (19 * a.c) b.e) (fun _ _ => trivial) (Tr.callV J J J J Body243 (wide_plus (plF (plF (plF (0, 0) a.a b.b) a.b b.a) (19 * a.c) b.e) (19 * a.d) b.d) (fun _ _ => trivial) (Tr.callV J J J J Body243 (wide_plus (plF (plF (plF (plF (0, 0) a.a b.b) a.b b.a) (19 * a.c) b.e) (19 * a.d) b.d) (19 * a.e) b.c) (fun _ _ => trivial) (Tr.alloc (cs := ([u64 0] ++ [u64 0])) J Zr216 J ?_))))))))))))))))))))))))))))))))))))
 intro n10 hn10 hf10
 refine Tr.storeAll J J J J zB Sz216 sP Z0 sP zU ?_
 refine Tr.nil (at_n (Sat.seq (Sat.draw [(0, 0), (0, 1), (0, 2), (0, 3), (1, 4), (0, 5), (0, 6), (0, 7), (1, 8), (0, 10), (0, 11), (0, 12), (1, 13), (0, 14), (0, 15), (0, 16), (1, 17), (0, 19), (0, 20), (0, 21), (1, 22), (0, 23), (0, 24), (0, 25), (1, 26), (0, 28), (0, 29), (0, 30), (0, 31), (1, 32), (0, 34), (0, 35), (0, 36), (0, 37), (1, 38), (3, 9), (3, 18), (3, 27), (3, 33), (3, 39), (2, 40), (4, 41)] Mixed zK (Tr.build (cs := [u64 0, u64 0]) J J J (fun w => by kernel_rfl) ?_))))
 refine Tr.move J J J (Tr.nilChk J J J (Tr.idxArr1 J J J J Y197 Sz22 0 J dE (Tr.loadE J J J Y22 J sP (hW.1 0 _ J) (Tr.move J J J (Tr.nilChk J J J (Tr.idxArr1 J J J J Y197 Sz22 2 J dE (Tr.loadE J J J Y22 J sP (hW.2 2 _ J) (Tr.move J J J (Tr.nilChk J J J (Tr.idxArr1 J J J J Y197 Sz22 1 J dE (Tr.loadE J J J Y22 J sP (hW.1 1 _ J) (Tr.move J J J (Tr.nilChk J J J (Tr.idxArr1 J J J J Y197 Sz22 1 J dE (Tr.loadE J J J Y22 J sP (hW.2 1 _ J) (Tr.move J J J (Tr.nilChk J J J (Tr.idxArr1 J J J J Y197 Sz22 2 J dE (Tr.loadE J J J Y22 J sP (hW.1 2 _ J) (Tr.move J J J (Tr.nilChk J J J (Tr.idxArr1 J J J J Y197 Sz22 0 J dE (Tr.loadE J J J Y22 J sP (hW.2 0 _ J) (Tr.move J J J (Tr.move J J J (Tr.nilChk J J J (Tr.idxArr1 J J J J Y197 Sz22 4 J dE (Tr.loadE J J J Y22 J sP (hW.2 4 _ J) (Tr.move J J J (Tr.move J J J (Tr.nilChk J J J (Tr.idxArr1 J J J J Y197 Sz22 3 J dE (Tr.loadE J J J Y22 J sP (hW.2 3 _ J) (Tr.callV J J J J Body243 (wide_plus (0, 0) a.a b.c) (fun _ _ => trivial) (Tr.callV J J J J Body243 (wide_plus (plF (0, 0) a.a b.c) a.b b.b) (fun _ _ => trivial) (Tr.callV J J J J Body243 (wide_plus (plF (plF (0, 0) a.a b.c) a.b b.b) a.c b.a) (fun _ _ => trivial) (Tr.callV J J J J Body243 (wide_plus (plF (plF (plF (0, 0) a.a b.c) a.b b.b) a.c b.a) (19 * a.d) b.e) (fun _ _ => trivial) (Tr.callV J J J J Body243 (wide_plus (plF (plF (plF (plF (0, 0) a.a b.c) a.b b.b) a.c b.a) (19 * a.d) b.e) (19 * a.e) b.d) (fun _ _ => trivial) (Tr.alloc (cs := ([u64 0] ++ [u64 0])) J Zr216 J ?_)))))))))))))))))))))))))))))))))))))))
 intro n11 hn11 hf11
 refine Tr.storeAll J J J J zB Sz216 sP Z0 sP zU ?_
 refine Tr.nil (at_n (Sat.seq (Sat.draw [(0, 0), (0, 1), (0, 2), (0, 3), (1, 4), (0, 5), (0, 6), (0, 7), (1, 8), (0, 10), (0, 11), (0, 12), (1, 13), (0, 14), (0, 15), (0, 16), (1, 17), (0, 19), (0, 20), (0, 21), (1, 22), (0, 23), (0, 24), (0, 25), (1, 26), (0, 28), (0, 29), (0, 30), (1, 31), (0, 32), (0, 33), (0, 34), (1, 35), (0, 37), (0, 38), (0, 39), (0, 40), (1, 41), (3, 9), (3, 18), (3, 27), (3, 36), (3, 42), (2, 43), (4, 44)] Mixed zK (Tr.build (cs := [u64 0, u64 0]) J J J (fun w => by kernel_rfl) ?_))))
 refine Tr.move J J J (Tr.nilChk J J J (Tr.idxArr1 J J J J Y197 Sz22 0 J dE (Tr.loadE J J J Y22 J sP (hW.1 0 _ J) (Tr.move J J J (Tr.nilChk J J J (Tr.idxArr1 J J J J Y197 Sz22 3 J dE (Tr.loadE J J J Y22 J sP (hW.2 3 _ J) (Tr.move J J J (Tr.nilChk J J J (Tr.idxArr1 J J J J Y197 Sz22 1 J dE (Tr.loadE J J J Y22 J sP (hW.1 1 _ J) (Tr.move J J J (Tr.nilChk J J J (Tr.idxArr1 J J J J Y197 Sz22 2 J dE (Tr.loadE J J J Y22 J sP (hW.2 2 _ J) (Tr.move J J J (Tr.nilChk J J J (Tr.idxArr1 J J J J Y197 Sz22 2 J dE (Tr.loadE J J J Y22 J sP (hW.1 2 _ J) (Tr.move J J J (Tr.nilChk J J J (Tr.idxArr1 J J J J Y197 Sz22 1 J dE (Tr.loadE J J J Y22 J sP (hW.2 1 _ J) (Tr.move J J J (Tr.nilChk J J J (Tr.idxArr1 J J J J Y197 Sz22 3 J dE (Tr.loadE J J J Y22 J sP (hW.1 3 _ J) (Tr.move J J J (Tr.nilChk J J J (Tr.idxArr1 J J J J Y197 Sz22 0 J dE (Tr.loadE J J J Y22 J sP (hW.2 0 _ J) (Tr.move J J J (Tr.move J J J (Tr.nilChk J J J (Tr.idxArr1 J J J J Y197 Sz22 4 J dE (Tr.loadE J J J Y22 J sP (hW.2 4 _ J) (Tr.callV J J J J Body243 (wide_plus (0, 0) a.a b.d) (fun _ _ => trivial) (Tr.callV J J J J Body243 (wide_plus (plF (0, 0) a.a b.d) a.b b.c) (fun _ _ => trivial) (Tr.callV J J J J Body243 (wide_plus (plF (plF (0, 0) a.a b.d) a.b b.c) a.c b.b) (fun _ _ => trivial) (Tr.callV J J J J Body243 (wide_plus (plF (plF (plF (0, 0) a.a b.d) a.b b.c) a.c b.b) a.d b.a) (fun _ _ => trivial) (Tr.callV J J J J Body243 (wide_plus (plF (plF (plF (plF (0, 0) a.a b.d) a.b b.c) a.c b.b) a.d b.a) (19 * a.e) b.e) (fun _ _ => trivial) (Tr.alloc (cs := ([u64 0] ++ [u64 0])) J Zr216 J ?_))))))))))))))))))))))))))))))))))))))))))
 intro n12 hn12 hf12
 refine Tr.storeAll J J J J zB Sz216 sP Z0 sP zU ?_
 refine Tr.nil (at_n (Sat.seq (Sat.draw [(0, 0), (0, 1), (0, 2), (0, 3), (1, 4), (0, 5), (0, 6), (0, 7), (1, 8), (0, 10), (0, 11), (0, 12), (1, 13), (0, 14), (0, 15), (0, 16), (1, 17), (0, 19), (0, 20), (0, 21), (1, 22), (0, 23), (0, 24), (0, 25), (1, 26), (0, 28), (0, 29), (0, 30), (1, 31), (0, 32), (0, 33), (0, 34), (1, 35), (0, 37), (0, 38), (0, 39), (1, 40), (0, 41), (0, 42), (0, 43), (1, 44), (3, 9), (3, 18), (3, 27), (3, 36), (3, 45), (2, 46), (4, 47)] Mixed zK (Tr.build (cs := [u64 0, u64 0]) J J J (fun w => by kernel_rfl) ?_))))
 refine Tr.move J J J (Tr.nilChk J J J (Tr.idxArr1 J J J J Y197 Sz22 0 J dE (Tr.loadE J J J Y22 J sP (hW.1 0 _ J) (Tr.move J J J (Tr.nilChk J J J (Tr.idxArr1 J J J J Y197 Sz22 4 J dE (Tr.loadE J J J Y22 J sP (hW.2 4 _ J) (Tr.move J J J (Tr.nilChk J J J (Tr.idxArr1 J J J J Y197 Sz22 1 J dE (Tr.loadE J J J Y22 J sP (hW.1 1 _ J) (Tr.move J J J (Tr.nilChk J J J (Tr.idxArr1 J J J J Y197 Sz22 3 J dE (Tr.loadE J J J Y22 J sP (hW.2 3 _ J) (Tr.move J J J (Tr.nilChk J J J (Tr.idxArr1 J J J J Y197 Sz22 2 J dE (Tr.loadE J J J Y22 J sP (hW.1 2 _ J) (Tr.move J J J (Tr.nilChk J J J (Tr.idxArr1 J J J J Y197 Sz22 2 J dE (Tr.loadE J J J Y22 J sP (hW.2 2 _ J) (Tr.move J J J (Tr.nilChk J J J (Tr.idxArr1 J J J J Y197 Sz22 3 J dE (Tr.loadE J J J Y22 J sP (hW.1 3 _ J) (Tr.move J J J (Tr.nilChk J J J (Tr.idxArr1 J J J J Y197 Sz22 1 J dE (Tr.loadE J J J Y22 J sP (hW.2 1 _ J) (Tr.move J J J (Tr.nilChk J J J (Tr.idxArr1 J J J J Y197 Sz22 4 J dE (Tr.loadE J J J Y22 J sP (hW.1 4 _ J) (Tr.move J J J (Tr.nilChk J J J (Tr.idxArr1 J J J J Y197 Sz22 0 J dE (Tr.loadE J J J Y22 J sP (hW.2 0 _ J) (Tr.callV J J J J Body243 (wide_plus (0, 0) a.a b.e) (fun _ _ => trivial) (Tr.callV J J J J Body243 (wide_plus (plF (0, 0) a.a b.e) a.b b.d) (fun _ _ => trivial) (Tr.callV J J J J Body243 (wide_plus (plF (plF (0, 0) a.a b.e) a.b b.d) a.c b.c) (fun _ _ => trivial) (Tr.callV J J J J Body243 (wide_plus (plF (plF (plF (0, 0) a.a b.e) a.b b.d) a.c b.c) a.d b.b) (fun _ _ => trivial) (Tr.callV J J J J Body243 (wide_plus (plF (plF (plF (plF (0, 0) a.a b.e) a.b b.d) a.c b.c) a.d b.b) a.e b.a) (fun _ _ => trivial) (Tr.alloc (cs := ([u64 0] ++ [u64 0])) J Zr216 J ?_)))))))))))))))))))))))))))))))))))))))))))))
 intro n13 hn13 hf13
 refine Tr.storeAll J J J J zB Sz216 sP Z0 sP zU ?_
 refine Tr.nil (at_n (Sat.seq (Sat.draw [(0, 0), (1, 1), (0, 2), (1, 3), (0, 7), (1, 8), (0, 9), (1, 10), (0, 13), (1, 14), (0, 15), (1, 16), (0, 19), (1, 20), (0, 21), (1, 22), (0, 25), (1, 26), (0, 27), (1, 28), (3, 4), (0, 5), (0, 6), (3, 11), (0, 12), (3, 17), (0, 18), (3, 23), (0, 24), (3, 29), (0, 30), (0, 31), (3, 32), (4, 33)] Mixed zK (Tr.fld J J J Tryz.underlying216 J Sz22 dE _ J (Tr.load1 J J J Y22 J Z4 (by rfl) ?_)))))
 refine Tr.and_u64 J J J (show evIn _ _ = some (u64 2251799813685247) from rfl) (Tr.loadAll J J J Tryz.underlying216 J Sz216 Z0 sP ?_)
 refine Tr.fld J J J Tryz.underlying216 J Sz22 dE _ J (Tr.load1 J J J Y22 J Z3 (by rfl) ?_)
 refine Tr.and_u64 J J J (show evIn _ _ = some (u64 2251799813685247) from rfl) (Tr.loadAll J J J Tryz.underlying216 J Sz216 Z4 sP ?_)
 refine Tr.fld J J J Tryz.underlying216 J Sz22 dE _ J (Tr.load1 J J J Y22 J Z2 (by rfl) ?_)
 refine Tr.and_u64 J J J (show evIn _ _ = some (u64 2251799813685247) from rfl) (Tr.loadAll J J J Tryz.underlying216 J Sz216 Z3 sP ?_)
 refine Tr.fld J J J Tryz.underlying216 J Sz22 dE _ J (Tr.load1 J J J Y22 J Z1 (by rfl) ?_)
 refine Tr.and_u64 J J J (show evIn _ _ = some (u64 2251799813685247) from rfl) (Tr.loadAll J J J Tryz.underlying216 J Sz216 Z2 sP ?_)
 refine Tr.fld J J J Tryz.underlying216 J Sz22 dE _ J (Tr.load1 J J J Y22 J Z0 (by rfl) ?_)
 refine Tr.and_u64 J J J (show evIn _ _ = some (u64 2251799813685247) from rfl) (Tr.loadAll J J J Tryz.underlying216 J Sz216 Z1 sP ?_)
 refine Tr.callV J J J J Body244 (wide_upper (s4F a b)) (fun _ _ => trivial) (Tr.mul_u64 J J (show evIn _ _ = some (u64 19) from rfl) J (Tr.add_u64 J J J J (Tr.callV J J J J Body244 (wide_upper (s0F a b)) (fun _ _ => trivial) (Tr.add_u64 J J J J (Tr.callV J J J J Body244 (wide_upper (s1F a b)) (fun _ _ => trivial) (Tr.add_u64 J J J J (Tr.callV J J J J Body244 (wide_upper (s2F a b)) (fun _ _ => trivial) (Tr.add_u64 J J J J (Tr.callV J J J J Body244 (wide_upper (s3F a b)) (fun _ _ => trivial) (Tr.add_u64 J J J J (Tr.build (cs := wordsV (⟨((s0F a b).2 &&& LOW) + 19 * upF (s4F a b), ((s1F a b).2 &&& LOW) + upF (s0F a b), ((s2F a b).2 &&& LOW) + upF (s1F a b), ((s3F a b).2 &&& LOW) + upF (s2F a b), ((s4F a b).2 &&& LOW) + upF (s3F a b)⟩ : W5).l) J J J (fun w => by kernel_rfl) ?_)))))))))))
 refine Tr.callV J J J J Body245 (field_carried ⟨((s0F a b).2 &&& LOW) + 19 * upF (s4F a b), ((s1F a b).2 &&& LOW) + upF (s0F a b), ((s2F a b).2 &&& LOW) + upF (s1F a b), ((s3F a b).2 &&& LOW) + upF (s2F a b), ((s4F a b).2 &&& LOW) + upF (s3F a b)⟩) (fun _ _ => trivial) (Tr.storeAll J J J J zB Sz197 zW (by exact mem5) sP (by exact upd5) ?_)
 refine Tr.nil (at_n (Sat.ret (en_r ?_)))
 refine ⟨_, [], res_cell J J Y197 J Sz197 (by exact mem5) (by simp [W5.l_length]), sP, sP, ?_, rfl⟩
 rfl

theorem field_store (w : W5) : Meets Tryz.prog 223 [agg (wordsV w.l)] [] (fun _ => True) (fun v out => v = agg (bytesV (fb (fe w.v))) ∧ out = []) := by
 intro W hW
 refine calls_of (hp0 := []) Tryz.func223 J 88 Tryz.ntmps223 J (HRep.nil _) (Sat.seq (Sat.region (Tr.boxA J J ?_)))
 intro n1 hn1 hf1
 refine Tr.alloc (cs := (bytesV (List.replicate 32 0))) J Zr77 J ?_
 intro n2 hn2 hf2
 refine Tr.nil (at_n (Sat.seq (Sat.region (Tr.loadAll J J J Y197 J Sz197 Z1 zW ?_))))
 refine Tr.callV J J J J Body245 (field_carried w) (fun _ _ => trivial) (Tr.storeAll J J J J zB Sz197 zW Z1 zW zV ?_)
 refine Tr.nil (at_n (Sat.seq (Sat.region (Tr.idxArr1 J J J J Y197 Sz22 0 J dE (Tr.load1 J J J Y22 J Z1 (by rfl) ?_)))))
 refine Tr.add_u64 J J J (show evIn _ _ = some (u64 19) from rfl) (Tr.shr_u64 J J J J 51 J dE (Tr.assign J J J (Tr.nil (at_n (Sat.seq (Sat.seq (Sat.region (Tr.assign J J J (Tr.nil (at_n (Sat.block (Sat.rounds 5 (SRounds.more (Sat.seq (Sat.seq (Sat.region (Tr.move J J J (Tr.lss J J J J J (Tr.nil (at_n (Sat.cond_t J (rfl) (Sat.skip (at_n (Sat.seq (Sat.block (Sat.region (Tr.move J J J (Tr.idxArr1 J J J J Y197 Sz22 1 J oM (Tr.load1 J J J Y22 J Z1 (by rfl) ?_)))))))))))))))))))))))))))))
 refine Tr.move J J J (Tr.add_u64 J J J J (Tr.shr_u64 J J J J 51 J dE (Tr.assign J J J (Tr.nil (bl_n (at_n (Sat.region (Tr.move J J J (Tr.add_i64 J J J J oM (Tr.assign J J J (Tr.nil (at_n (SRounds.more (Sat.seq (Sat.seq (Sat.region (Tr.move J J J (Tr.lss J J J J J (Tr.nil (at_n (Sat.cond_t J (rfl) (Sat.skip (at_n (Sat.seq (Sat.block (Sat.region (Tr.move J J J (Tr.idxArr1 J J J J Y197 Sz22 2 J oM (Tr.load1 J J J Y22 J Z1 (by rfl) ?_)))))))))))))))))))))))))))))
 refine Tr.move J J J (Tr.add_u64 J J J J (Tr.shr_u64 J J J J 51 J dE (Tr.assign J J J (Tr.nil (bl_n (at_n (Sat.region (Tr.move J J J (Tr.add_i64 J J J J oM (Tr.assign J J J (Tr.nil (at_n (SRounds.more (Sat.seq (Sat.seq (Sat.region (Tr.move J J J (Tr.lss J J J J J (Tr.nil (at_n (Sat.cond_t J (rfl) (Sat.skip (at_n (Sat.seq (Sat.block (Sat.region (Tr.move J J J (Tr.idxArr1 J J J J Y197 Sz22 3 J oM (Tr.load1 J J J Y22 J Z1 (by rfl) ?_)))))))))))))))))))))))))))))
 refine Tr.move J J J (Tr.add_u64 J J J J (Tr.shr_u64 J J J J 51 J dE (Tr.assign J J J (Tr.nil (bl_n (at_n (Sat.region (Tr.move J J J (Tr.add_i64 J J J J oM (Tr.assign J J J (Tr.nil (at_n (SRounds.more (Sat.seq (Sat.seq (Sat.region (Tr.move J J J (Tr.lss J J J J J (Tr.nil (at_n (Sat.cond_t J (rfl) (Sat.skip (at_n (Sat.seq (Sat.block (Sat.region (Tr.move J J J (Tr.idxArr1 J J J J Y197 Sz22 4 J oM (Tr.load1 J J J Y22 J Z1 (by rfl) ?_)))))))))))))))))))))))))))))
 refine Tr.move J J J (Tr.add_u64 J J J J (Tr.shr_u64 J J J J 51 J dE (Tr.assign J J J (Tr.nil (bl_n (at_n (Sat.region (Tr.move J J J (Tr.add_i64 J J J J oM (Tr.assign J J J (Tr.nil (at_n (SRounds.more (Sat.seq (Sat.seq (Sat.region (Tr.move J J J (Tr.lss J J J J J (Tr.nil (at_n (Sat.cond_f J (rfl) (Sat.exit (at_x (at_x (bl_h (at_n (Sat.seq (Sat.region (Tr.idxArr1 J J J J Y197 Sz22 0 J dE (Tr.load1 J J J Y22 J Z1 (by rfl) ?_))))))))))))))))))))))))))))))
 refine Tr.move J J J (Tr.mul_u64 J J (show evIn _ _ = some (u64 19) from rfl) J (Tr.add_u64 J J J J (Tr.idxArr1 J J J J Y197 Sz22 0 J dE (Tr.store1 J J J J J Sz22 Z1 zW (by exact set_words _ _ _) zV ?_))))
 refine Tr.nil (at_n (Sat.seq (Sat.seq (Sat.region (Tr.move J J J (Tr.nil (at_n (Sat.block (Sat.rounds 5 (SRounds.more (Sat.seq (Sat.region (Tr.lss J J J J J (Tr.nil (at_n (Sat.seq (Sat.cond_t J (rfl) (Sat.skip (at_n (Sat.seq (Sat.block (Sat.seq (Sat.region (Tr.move J J J (Tr.assign J J J (Tr.nil (at_n (Sat.seq (Sat.draw [(0, 0), (0, 1), (0, 2), (1, 3), (0, 4), (0, 5), (1, 6), (0, 7), (0, 8), (0, 9), (4, 10)] Mixed zK (Tr.move J J J (Tr.add_i64 J J J J oM (Tr.idxArr1 J J J J Y197 Sz22 1 J oM (Tr.load1 J J J Y22 J Z1 (by rfl) ?_)))))))))))))))))))))))))))))))))
 refine Tr.move J J J (Tr.idxArr1 J J J J Y197 Sz22 0 J oM (Tr.load1 J J J Y22 J Z1 (by rfl) ?_))
 refine Tr.shr_u64 J J J J 51 J dE (Tr.add_u64 J J J J (Tr.idxArr1 J J J J Y197 Sz22 1 J oM (Tr.store1 J J J J J Sz22 Z1 zW (by exact set_words _ _ _) zV ?_)))
 refine Tr.nil (at_n (Sat.region (Tr.move J J J (Tr.idxArr1 J J J J Y197 Sz22 0 J oM (Tr.load1 J J J Y22 J Z1 (by rfl) ?_)))))
 refine Tr.and_u64 J J J (show evIn _ _ = some (u64 2251799813685247) from rfl) (Tr.idxArr1 J J J J Y197 Sz22 0 J oM (Tr.store1 J J J J J Sz22 Z1 zW (by exact set_words _ _ _) zV ?_))
 refine Tr.nil (bl_n (at_n (Sat.region (Tr.add_i64 J J J J oM (Tr.move J J J (Tr.nil (at_n (SRounds.more (Sat.seq (Sat.region (Tr.lss J J J J J (Tr.nil (at_n (Sat.seq (Sat.cond_t J (rfl) (Sat.skip (at_n (Sat.seq (Sat.block (Sat.seq (Sat.region (Tr.move J J J (Tr.assign J J J (Tr.nil (at_n (Sat.seq (Sat.draw [(0, 0), (0, 1), (0, 2), (1, 3), (0, 4), (0, 5), (1, 6), (0, 7), (0, 8), (0, 9), (4, 10)] Mixed zK (Tr.move J J J (Tr.add_i64 J J J J oM (Tr.idxArr1 J J J J Y197 Sz22 2 J oM (Tr.load1 J J J Y22 J Z1 (by rfl) ?_)))))))))))))))))))))))))))))))
 refine Tr.move J J J (Tr.idxArr1 J J J J Y197 Sz22 1 J oM (Tr.load1 J J J Y22 J Z1 (by rfl) ?_))
 refine Tr.shr_u64 J J J J 51 J dE (Tr.add_u64 J J J J (Tr.idxArr1 J J J J Y197 Sz22 2 J oM (Tr.store1 J J J J J Sz22 Z1 zW (by exact set_words _ _ _) zV ?_)))
 refine Tr.nil (at_n (Sat.region (Tr.move J J J (Tr.idxArr1 J J J J Y197 Sz22 1 J oM (Tr.load1 J J J Y22 J Z1 (by rfl) ?_)))))
 refine Tr.and_u64 J J J (show evIn _ _ = some (u64 2251799813685247) from rfl) (Tr.idxArr1 J J J J Y197 Sz22 1 J oM (Tr.store1 J J J J J Sz22 Z1 zW (by exact set_words _ _ _) zV ?_))
 refine Tr.nil (bl_n (at_n (Sat.region (Tr.add_i64 J J J J oM (Tr.move J J J (Tr.nil (at_n (SRounds.more (Sat.seq (Sat.region (Tr.lss J J J J J (Tr.nil (at_n (Sat.seq (Sat.cond_t J (rfl) (Sat.skip (at_n (Sat.seq (Sat.block (Sat.seq (Sat.region (Tr.move J J J (Tr.assign J J J (Tr.nil (at_n (Sat.seq (Sat.draw [(0, 0), (0, 1), (0, 2), (1, 3), (0, 4), (0, 5), (1, 6), (0, 7), (0, 8), (0, 9), (4, 10)] Mixed zK (Tr.move J J J (Tr.add_i64 J J J J oM (Tr.idxArr1 J J J J Y197 Sz22 3 J oM (Tr.load1 J J J Y22 J Z1 (by rfl) ?_)))))))))))))))))))))))))))))))
 refine Tr.move J J J (Tr.idxArr1 J J J J Y197 Sz22 2 J oM (Tr.load1 J J J Y22 J Z1 (by rfl) ?_))
 refine Tr.shr_u64 J J J J 51 J dE (Tr.add_u64 J J J J (Tr.idxArr1 J J J J Y197 Sz22 3 J oM (Tr.store1 J J J J J Sz22 Z1 zW (by exact set_words _ _ _) zV ?_)))
 refine Tr.nil (at_n (Sat.region (Tr.move J J J (Tr.idxArr1 J J J J Y197 Sz22 2 J oM (Tr.load1 J J J Y22 J Z1 (by rfl) ?_)))))
 refine Tr.and_u64 J J J (show evIn _ _ = some (u64 2251799813685247) from rfl) (Tr.idxArr1 J J J J Y197 Sz22 2 J oM (Tr.store1 J J J J J Sz22 Z1 zW (by exact set_words _ _ _) zV ?_))
 refine Tr.nil (bl_n (at_n (Sat.region (Tr.add_i64 J J J J oM (Tr.move J J J (Tr.nil (at_n (SRounds.more (Sat.seq (Sat.region (Tr.lss J J J J J (Tr.nil (at_n (Sat.seq (Sat.cond_t J (rfl) (Sat.skip (at_n (Sat.seq (Sat.block (Sat.seq (Sat.region (Tr.move J J J (Tr.assign J J J (Tr.nil (at_n (Sat.seq (Sat.draw [(0, 0), (0, 1), (0, 2), (1, 3), (0, 4), (0, 5), (1, 6), (0, 7), (0, 8), (0, 9), (4, 10)] Mixed zK (Tr.move J J J (Tr.add_i64 J J J J oM (Tr.idxArr1 J J J J Y197 Sz22 4 J oM (Tr.load1 J J J Y22 J Z1 (by rfl) ?_)))))))))))))))))))))))))))))))
 refine Tr.move J J J (Tr.idxArr1 J J J J Y197 Sz22 3 J oM (Tr.load1 J J J Y22 J Z1 (by rfl) ?_))
 refine Tr.shr_u64 J J J J 51 J dE (Tr.add_u64 J J J J (Tr.idxArr1 J J J J Y197 Sz22 4 J oM (Tr.store1 J J J J J Sz22 Z1 zW (by exact set_words _ _ _) zV ?_)))
 refine Tr.nil (at_n (Sat.region (Tr.move J J J (Tr.idxArr1 J J J J Y197 Sz22 3 J oM (Tr.load1 J J J Y22 J Z1 (by rfl) ?_)))))
 refine Tr.and_u64 J J J (show evIn _ _ = some (u64 2251799813685247) from rfl) (Tr.idxArr1 J J J J Y197 Sz22 3 J oM (Tr.store1 J J J J J Sz22 Z1 zW (by exact set_words _ _ _) zV ?_))
 refine Tr.nil (bl_n (at_n (Sat.region (Tr.add_i64 J J J J oM (Tr.move J J J (Tr.nil (at_n (SRounds.more (Sat.seq (Sat.region (Tr.lss J J J J J (Tr.nil (at_n (Sat.seq (Sat.cond_f J (rfl) (Sat.exit (at_x (at_x (bl_h (at_n (Sat.seq (Sat.region (Tr.idxArr1 J J J J Y197 Sz22 4 J dE (Tr.load1 J J J Y22 J Z1 (by rfl) ?_))))))))))))))))))))))))
 refine Tr.and_u64 J J J (show evIn _ _ = some (u64 2251799813685247) from rfl) (Tr.idxArr1 J J J J Y197 Sz22 4 J dE (Tr.store1 J J J J J Sz22 Z1 zW (by exact set_words _ _ _) zV ?_))
 refine Tr.nil (at_n (Sat.seq (Sat.region (Tr.alloc (cs := (bytesV (List.replicate 32 0))) J Zr77 J ?_))))
 intro n6 hn6 hf6
 refine Tr.nil (at_n (Sat.seq (Sat.draw [(0, 0), (0, 1), (1, 2), (0, 3), (1, 4), (0, 5), (0, 6), (4, 7)] Mixed zK (Tr.sliceArrLH 0 8 J J J J J J J dE dE dE Y77 Sz5 (Tr.idxArr1 J J J J Y197 Sz22 0 J dE (Tr.load1 J J J Y22 J Z2 (by rfl) ?_))))))
 refine Tr.idxArr1 J J J J Y197 Sz22 1 J dE (Tr.load1 J J J Y22 J Z2 (by rfl) ?_)
 refine Tr.shl_u64 J J J J 51 J dE (Tr.or_u64 J J J J (Tr.callL (L := [⟨n6, bytesV (List.replicate 32 0), 77, 32⟩]) J J J J J Body224 (field_put n6 0 8 32 32 (List.replicate 32 0) ((stF w).a ||| shl64 (stF w).b 51) _ dE sP) (pm_cons rM pm_nil) (lent_ok J) (fun w h => own_blk h Z0) ?_))
 rintro v59 out59 rfl
 rw [set8_1]
 refine Tr.nil (at_n (Sat.seq (Sat.draw [(0, 0), (0, 1), (1, 2), (0, 3), (0, 4), (1, 5), (0, 6), (0, 7), (4, 8)] Mixed zK (Tr.sliceArrLH 8 16 J J J J J J J dE dE dE Y77 Sz5 (Tr.idxArr1 J J J J Y197 Sz22 1 J dE (Tr.load1 J J J Y22 J Z2 (by rfl) ?_))))))
 refine Tr.shr_u64 J J J J 13 J dE (Tr.idxArr1 J J J J Y197 Sz22 2 J dE (Tr.load1 J J J Y22 J Z2 (by rfl) ?_))
 refine Tr.shl_u64 J J J J 38 J dE (Tr.or_u64 J J J J (Tr.callL (L := [⟨n6, bytesV (by8 ((stF w).a ||| shl64 (stF w).b 51) ++ List.replicate 24 0), 77, 32⟩]) J J J J J Body224 (field_put n6 8 8 24 32 (by8 ((stF w).a ||| shl64 (stF w).b 51) ++ List.replicate 24 0) (shr64 (stF w).b 13 ||| shl64 (stF w).c 38) _ dE (by simp [by8_length])) (pm_cons rM pm_nil) (lent_ok J) (fun w h => own_blk h Z0) ?_))
 rintro v68 out68 rfl
 rw [set8_2]
 refine Tr.nil (at_n (Sat.seq (Sat.draw [(0, 0), (0, 1), (1, 2), (0, 3), (0, 4), (1, 5), (0, 6), (0, 7), (4, 8)] Mixed zK (Tr.sliceArrLH 16 24 J J J J J J J dE dE dE Y77 Sz5 (Tr.idxArr1 J J J J Y197 Sz22 2 J dE (Tr.load1 J J J Y22 J Z2 (by rfl) ?_))))))
 refine Tr.shr_u64 J J J J 26 J dE (Tr.idxArr1 J J J J Y197 Sz22 3 J dE (Tr.load1 J J J Y22 J Z2 (by rfl) ?_))
 refine Tr.shl_u64 J J J J 25 J dE (Tr.or_u64 J J J J (Tr.callL (L := [⟨n6, bytesV (by8 ((stF w).a ||| shl64 (stF w).b 51) ++ by8 (shr64 (stF w).b 13 ||| shl64 (stF w).c 38) ++ List.replicate 16 0), 77, 32⟩]) J J J J J Body224 (field_put n6 16 8 16 32 (by8 ((stF w).a ||| shl64 (stF w).b 51) ++ by8 (shr64 (stF w).b 13 ||| shl64 (stF w).c 38) ++ List.replicate 16 0) (shr64 (stF w).c 26 ||| shl64 (stF w).d 25) _ dE (by simp [by8_length])) (pm_cons rM pm_nil) (lent_ok J) (fun w h => own_blk h Z0) ?_))
 rintro v77 out77 rfl
 rw [set8_3]
 refine Tr.nil (at_n (Sat.seq (Sat.draw [(0, 0), (0, 1), (1, 2), (0, 3), (0, 4), (1, 5), (0, 6), (0, 7), (4, 8)] Mixed zK (Tr.sliceArrLH 24 32 J J J J J J J dE dE dE Y77 Sz5 (Tr.idxArr1 J J J J Y197 Sz22 3 J dE (Tr.load1 J J J Y22 J Z2 (by rfl) ?_))))))
 refine Tr.shr_u64 J J J J 39 J dE (Tr.idxArr1 J J J J Y197 Sz22 4 J dE (Tr.load1 J J J Y22 J Z2 (by rfl) ?_))
 refine Tr.shl_u64 J J J J 12 J dE (Tr.or_u64 J J J J (Tr.callL (L := [⟨n6, bytesV (by8 ((stF w).a ||| shl64 (stF w).b 51) ++ by8 (shr64 (stF w).b 13 ||| shl64 (stF w).c 38) ++ by8 (shr64 (stF w).c 26 ||| shl64 (stF w).d 25) ++ List.replicate 8 0), 77, 32⟩]) J J J J J Body224 (field_put n6 24 8 8 32 (by8 ((stF w).a ||| shl64 (stF w).b 51) ++ by8 (shr64 (stF w).b 13 ||| shl64 (stF w).c 38) ++ by8 (shr64 (stF w).c 26 ||| shl64 (stF w).d 25) ++ List.replicate 8 0) (shr64 (stF w).d 39 ||| shl64 (stF w).e 12) _ dE (by simp [by8_length])) (pm_cons rM pm_nil) (lent_ok J) (fun w h => own_blk h Z0) ?_))
 rintro v86 out86 rfl
 rw [set8_4]
 refine Tr.nil (at_n (Sat.seq (Sat.region (Tr.loadAll J J J Y77 J Sz77 Z0 (by (simp [by8_length]; done)) ?_))))
 refine Tr.storeAll J J J J zE Sz77 (by (simp [by8_length]; done)) Z1 sP zV ?_
 refine Tr.nil (at_n (Sat.ret (en_r ?_)))
 refine ⟨_, [], res_cell J J Y77 J Sz77 Z1 (by simp [by8_length]), sP, sP, ?_, rfl⟩
 rw [fb_fe, ← store_eq, ← by8_store]

theorem field_Rest (a : List UInt8) (ha : a.length = 32) : Meets Tryz.prog 220 [agg (bytesV a)] [] (fun _ => True) (fun v out => v = agg (bytesV (fb (fe (le a)))) ∧ out = []) := by
 intro W hW
 refine calls_of (hp0 := []) Tryz.func220 J 6 Tryz.ntmps220 J (HRep.nil _) (Sat.seq (Sat.region (Tr.boxA J J ?_)))
 intro n1 hn1 hf1
 refine Tr.alloc (cs := (bytesV (List.replicate 32 0))) J Zr77 J ?_
 intro n2 hn2 hf2
 refine Tr.nil (at_n (Sat.seq (Sat.region (Tr.loadAll J J J Y77 J Sz77 Z1 (by (simp [ha]; done)) ?_))))
 refine Tr.callV J J J J Body221 (field_load a ha) (fun _ _ => trivial) (Tr.callV J J J J Body223 (field_store (ldN a)) (fun _ _ => trivial) (Tr.storeAll J J J J zE Sz77 zF Z0 sP zU ?_))
 refine Tr.nil (at_n (Sat.ret (en_r ?_)))
 refine ⟨_, [], res_cell J J Y77 J Sz77 Z0 (by simp [fb_length]), sP, sP, ?_, rfl⟩
 rw [ldN_v ha]

theorem field_Canon (a : List UInt8) (ha : a.length = 32) : Meets Tryz.prog 168 [agg (bytesV a)] [] (fun _ => True) (fun v out => v = .bool (decide (fb (fe (le a)) = a)) ∧ out = []) := by
 intro W hW
 refine calls_of (hp0 := []) Tryz.func168 J 7 Tryz.ntmps168 J (HRep.nil _) (Sat.seq (Sat.region (Tr.boxA J J ?_)))
 intro n1 hn1 hf1
 refine Tr.assign J J J (Tr.nil (at_n (Sat.seq (Sat.draw [(1, 0), (1, 2), (3, 1), (0, 3), (0, 4)] Mixed zK (Tr.loadAll J J J Y77 J Sz77 Z0 (by (simp [ha]; done)) ?_)))))
 refine Tr.loadAll J J J Y77 J Sz77 Z0 (by (simp [ha]; done)) ?_
 refine Tr.callV J J J J Body220 (field_Rest a ha) (fun _ _ => trivial) (Tr.eql_bytes J J J J Tryz.eqGuardType77 Y77 Y5 Sz5 zF (by (simp [ha]; done)) J ?_)
 refine Tr.assign J J J (Tr.nil (at_n (Sat.ret (en_r ?_))))
 refine ⟨_, [], res_tmp J J, sP, sP, ?_, rfl⟩
 rfl

theorem field_Same (a b : List UInt8) (ha : a.length = 32) (hb : b.length = 32) : Meets Tryz.prog 227 [agg (bytesV a), agg (bytesV b)] [] (fun _ => True) (fun v out => v = .bool (decide (fe (le a) = fe (le b))) ∧ out = []) := by
 intro W hW
 refine calls_of (hp0 := []) Tryz.func227 J 10 Tryz.ntmps227 J (HRep.nil _) (Sat.seq (Sat.region (Tr.boxA J J ?_)))
 intro n2 hn2 hf2
 refine Tr.boxA J J ?_
 intro n3 hn3 hf3
 refine Tr.assign J J J (Tr.nil (at_n (Sat.seq (Sat.draw [(1, 0), (1, 2), (3, 1), (3, 3), (0, 4), (0, 5)] Mixed zK (Tr.loadAll J J J Y77 J Sz77 Z1 (by (simp [ha]; done)) ?_)))))
 refine Tr.loadAll J J J Y77 J Sz77 Z0 (by (simp [hb]; done)) ?_
 refine Tr.callV J J J J Body220 (field_Rest a ha) (fun _ _ => trivial) (Tr.callV J J J J Body220 (field_Rest b hb) (fun _ _ => trivial) (Tr.eql_bytes J J J J Tryz.eqGuardType77 Y77 Y5 Sz5 zF zF J (Tr.assign J J J (Tr.nil (at_n (Sat.ret (en_r ?_)))))))
 refine ⟨_, [], res_tmp J J, sP, sP, ?_, rfl⟩
 rw [fb_dec]

theorem field_Odd (a : List UInt8) (ha : a.length = 32) : Meets Tryz.prog 215 [agg (bytesV a)] [] (fun _ => True) (fun v out => v = .bool (decide ((fe (le a)).val % 2 = 1)) ∧ out = []) := by
 intro W hW
 refine calls_of (hp0 := []) Tryz.func215 J 8 Tryz.ntmps215 J (HRep.nil _) (Sat.seq (Sat.region (Tr.boxA J J ?_)))
 intro n1 hn1 hf1
 refine Tr.assign J J J (Tr.nil (at_n (Sat.seq (Sat.region (Tr.loadAll J J J Y77 J Sz77 Z0 (by (simp [ha]; done)) ?_)))))
 refine Tr.callV J J J J Body220 (field_Rest a ha) (fun _ _ => trivial) (Tr.idxA1 J J J J Y77 Sz5 Y5 J 0 J oM (by rfl) ?_)
 refine Tr.and_u8 J J J (show evIn _ _ = some (u8 1) from rfl) (Tr.eqi J J J J J (Tr.assign J J J (Tr.nil (at_n (Sat.ret (en_r ?_))))))
 refine ⟨_, [], res_tmp J J, sP, sP, ?_, rfl⟩
 exact congrArg Value.bool (odd_byte _)

structure PowS where
  k : Nat
  p : W5
  a : UInt64
  b : UInt64
  c : UInt64
  d : UInt64
theorem leb_small (x : UInt64) : leb 8 x.toNat ++ List.replicate 24 0 = leb 32 x.toNat := by
  have h := leb_split 24 8 x.toNat
  rw [show x.toNat / 256 ^ 8 = 0 from Nat.div_eq_of_lt x.toNat_lt] at h
  rw [show leb 24 0 = List.replicate 24 0 from by decide] at h
  exact h.symm

theorem field_Of (x : UInt64) : Meets Tryz.prog 171 [u64 x] [] (fun _ => True) (fun v out => v = agg (bytesV (fb (fe x.toNat))) ∧ out = []) := by
 intro W hW
 refine calls_of (hp0 := []) Tryz.func171 J 8 Tryz.ntmps171 J (HRep.nil _) (Sat.seq (Sat.region (Tr.alloc (cs := (bytesV (List.replicate 32 0))) J Zr77 J ?_)))
 intro n2 hn2 hf2
 refine Tr.nil (at_n (Sat.seq (Sat.region (Tr.alloc (cs := (bytesV (List.replicate 32 0))) J Zr77 J ?_))))
 intro n3 hn3 hf3
 refine Tr.nil (at_n (Sat.seq (Sat.region (Tr.sliceArrHi 8 J J J J J dE dE Y77 Sz5 (Tr.move J J J (Tr.callL (L := [⟨n3, bytesV (List.replicate 32 0), 77, 32⟩]) J J J J J Body224 (field_put n3 0 8 32 32 (List.replicate 32 0) (x) _ dE sP) (pm_cons rM pm_nil) (lent_ok J) (fun w h => own_blk h Z0) ?_))))))
 rintro v6 out6 rfl
 rw [set8_1]
 refine Tr.nil (at_n (Sat.seq (Sat.region (Tr.loadAll J J J Y77 J Sz77 Z0 (by (simp [by8_length]; done)) ?_))))
 refine Tr.storeAll J J J J zE Sz77 (by (simp [by8_length]; done)) Z1 sP zV ?_
 refine Tr.nil (at_n (Sat.ret (en_r ?_)))
 refine ⟨_, [], res_cell J J Y77 J Sz77 Z1 (by simp [by8_length]), sP, sP, ?_, rfl⟩
 rw [fe_small, by8_eq]
 exact congrArg (fun l => agg (bytesV l)) (leb_small x)

theorem field_Add (a b : List UInt8) (ha : a.length = 32) (hb : b.length = 32) : Meets Tryz.prog 172 [agg (bytesV a), agg (bytesV b)] [] (fun _ => True) (fun v out => v = agg (bytesV (fb (fe (le a) + fe (le b)))) ∧ out = []) := by
 intro W hW
 refine calls_of (hp0 := []) Tryz.func172 J 26 Tryz.ntmps172 J (HRep.nil _) (Sat.seq (Sat.region (Tr.boxA J J ?_)))
 intro n2 hn2 hf2
 refine Tr.boxA J J ?_
 intro n3 hn3 hf3
 refine Tr.alloc (cs := (bytesV (List.replicate 32 0))) J Zr77 J ?_
 intro n4 hn4 hf4
 refine Tr.nil (at_n (Sat.seq (Sat.draw [(1, 0), (1, 2), (3, 1), (3, 3), (2, 4), (2, 5), (4, 6), (4, 7)] Mixed zK (Tr.loadAll J J J Y77 J Sz77 Z2 (by (simp [ha]; done)) ?_))))
 refine Tr.loadAll J J J Y77 J Sz77 Z1 (by (simp [hb]; done)) ?_
 refine Tr.callV J J J J Body221 (field_load a ha) (fun _ _ => trivial) (Tr.callV J J J J Body221 (field_load b hb) (fun _ _ => trivial) (Tr.alloc (cs := (wordsV (List.replicate 5 0))) J Zr197 J ?_))
 intro n5 hn5 hf5
 refine Tr.alloc (cs := (wordsV (List.replicate 5 0))) J Zr197 J ?_
 intro n6 hn6 hf6
 refine Tr.storeAll J J J J zB Sz197 zW Z1 sP zV ?_
 refine Tr.storeAll J J J J zB Sz197 zW Z0 sP zU ?_
 refine Tr.nil (at_n (Sat.seq (Sat.seq (Sat.region (Tr.move J J J (Tr.nil (at_n (Sat.block (Sat.rounds 6 (SRounds.more (Sat.seq (Sat.region (Tr.lss J J J J J (Tr.nil (at_n (Sat.seq (Sat.cond_t J (rfl) (Sat.skip (at_n (Sat.seq (Sat.block (Sat.seq (Sat.region (Tr.move J J J (Tr.assign J J J (Tr.nil (at_n (Sat.draw [(0, 0), (0, 1), (1, 2), (0, 3), (0, 4), (1, 5), (0, 6), (0, 7), (4, 8)] Mixed zK (Tr.move J J J (Tr.idxArr1 J J J J Y197 Sz22 0 J oM (Tr.load1 J J J Y22 J Z1 (by rfl) ?_)))))))))))))))))))))))))))))))
 refine Tr.move J J J (Tr.idxArr1 J J J J Y197 Sz22 0 J oM (Tr.load1 J J J Y22 J Z0 (by rfl) ?_))
 refine Tr.add_u64 J J J J (Tr.idxArr1 J J J J Y197 Sz22 0 J oM (Tr.store1 J J J J J Sz22 Z1 zW (by exact set_words _ _ _) zV ?_))
 refine Tr.nil (bl_n (at_n (Sat.region (Tr.add_i64 J J J J oM (Tr.move J J J (Tr.nil (at_n (SRounds.more (Sat.seq (Sat.region (Tr.lss J J J J J (Tr.nil (at_n (Sat.seq (Sat.cond_t J (rfl) (Sat.skip (at_n (Sat.seq (Sat.block (Sat.seq (Sat.region (Tr.move J J J (Tr.assign J J J (Tr.nil (at_n (Sat.draw [(0, 0), (0, 1), (1, 2), (0, 3), (0, 4), (1, 5), (0, 6), (0, 7), (4, 8)] Mixed zK (Tr.move J J J (Tr.idxArr1 J J J J Y197 Sz22 1 J oM (Tr.load1 J J J Y22 J Z1 (by rfl) ?_)))))))))))))))))))))))))))))
 refine Tr.move J J J (Tr.idxArr1 J J J J Y197 Sz22 1 J oM (Tr.load1 J J J Y22 J Z0 (by rfl) ?_))
 refine Tr.add_u64 J J J J (Tr.idxArr1 J J J J Y197 Sz22 1 J oM (Tr.store1 J J J J J Sz22 Z1 zW (by exact set_words _ _ _) zV ?_))
 refine Tr.nil (bl_n (at_n (Sat.region (Tr.add_i64 J J J J oM (Tr.move J J J (Tr.nil (at_n (SRounds.more (Sat.seq (Sat.region (Tr.lss J J J J J (Tr.nil (at_n (Sat.seq (Sat.cond_t J (rfl) (Sat.skip (at_n (Sat.seq (Sat.block (Sat.seq (Sat.region (Tr.move J J J (Tr.assign J J J (Tr.nil (at_n (Sat.draw [(0, 0), (0, 1), (1, 2), (0, 3), (0, 4), (1, 5), (0, 6), (0, 7), (4, 8)] Mixed zK (Tr.move J J J (Tr.idxArr1 J J J J Y197 Sz22 2 J oM (Tr.load1 J J J Y22 J Z1 (by rfl) ?_)))))))))))))))))))))))))))))
 refine Tr.move J J J (Tr.idxArr1 J J J J Y197 Sz22 2 J oM (Tr.load1 J J J Y22 J Z0 (by rfl) ?_))
 refine Tr.add_u64 J J J J (Tr.idxArr1 J J J J Y197 Sz22 2 J oM (Tr.store1 J J J J J Sz22 Z1 zW (by exact set_words _ _ _) zV ?_))
 refine Tr.nil (bl_n (at_n (Sat.region (Tr.add_i64 J J J J oM (Tr.move J J J (Tr.nil (at_n (SRounds.more (Sat.seq (Sat.region (Tr.lss J J J J J (Tr.nil (at_n (Sat.seq (Sat.cond_t J (rfl) (Sat.skip (at_n (Sat.seq (Sat.block (Sat.seq (Sat.region (Tr.move J J J (Tr.assign J J J (Tr.nil (at_n (Sat.draw [(0, 0), (0, 1), (1, 2), (0, 3), (0, 4), (1, 5), (0, 6), (0, 7), (4, 8)] Mixed zK (Tr.move J J J (Tr.idxArr1 J J J J Y197 Sz22 3 J oM (Tr.load1 J J J Y22 J Z1 (by rfl) ?_)))))))))))))))))))))))))))))
 refine Tr.move J J J (Tr.idxArr1 J J J J Y197 Sz22 3 J oM (Tr.load1 J J J Y22 J Z0 (by rfl) ?_))
 refine Tr.add_u64 J J J J (Tr.idxArr1 J J J J Y197 Sz22 3 J oM (Tr.store1 J J J J J Sz22 Z1 zW (by exact set_words _ _ _) zV ?_))
 refine Tr.nil (bl_n (at_n (Sat.region (Tr.add_i64 J J J J oM (Tr.move J J J (Tr.nil (at_n (SRounds.more (Sat.seq (Sat.region (Tr.lss J J J J J (Tr.nil (at_n (Sat.seq (Sat.cond_t J (rfl) (Sat.skip (at_n (Sat.seq (Sat.block (Sat.seq (Sat.region (Tr.move J J J (Tr.assign J J J (Tr.nil (at_n (Sat.draw [(0, 0), (0, 1), (1, 2), (0, 3), (0, 4), (1, 5), (0, 6), (0, 7), (4, 8)] Mixed zK (Tr.move J J J (Tr.idxArr1 J J J J Y197 Sz22 4 J oM (Tr.load1 J J J Y22 J Z1 (by rfl) ?_)))))))))))))))))))))))))))))
 refine Tr.move J J J (Tr.idxArr1 J J J J Y197 Sz22 4 J oM (Tr.load1 J J J Y22 J Z0 (by rfl) ?_))
 refine Tr.add_u64 J J J J (Tr.idxArr1 J J J J Y197 Sz22 4 J oM (Tr.store1 J J J J J Sz22 Z1 zW (by exact set_words _ _ _) zV ?_))
 refine Tr.nil (bl_n (at_n (Sat.region (Tr.add_i64 J J J J oM (Tr.move J J J (Tr.nil (at_n (SRounds.more (Sat.seq (Sat.region (Tr.lss J J J J J (Tr.nil (at_n (Sat.seq (Sat.cond_f J (rfl) (Sat.exit (at_x (at_x (bl_h (at_n (Sat.seq (Sat.region (Tr.loadAll J J J Y197 J Sz197 Z1 zW ?_)))))))))))))))))))))))
 refine Tr.callV J J J J Body223 (field_store (addF (ldN a) (ldN b))) (fun _ _ => trivial) (Tr.storeAll J J J J zE Sz77 zF Z2 sP (by exact upd2) ?_)
 refine Tr.nil (at_n (Sat.ret (en_r ?_)))
 refine ⟨_, [], res_cell J J Y77 J Sz77 Z2 (by simp [fb_length]), sP, sP, ?_, rfl⟩
 rw [addF_fe ha hb]

theorem field_Sub (a b : List UInt8) (ha : a.length = 32) (hb : b.length = 32) : Meets Tryz.prog 170 [agg (bytesV a), agg (bytesV b)] [] (fun _ => True) (fun v out => v = agg (bytesV (fb (fe (le a) - fe (le b)))) ∧ out = []) := by
 intro W hW
 refine calls_of (hp0 := []) Tryz.func170 J 34 Tryz.ntmps170 J (HRep.nil _) (Sat.seq (Sat.region (Tr.boxA J J ?_)))
 intro n2 hn2 hf2
 refine Tr.boxA J J ?_
 intro n3 hn3 hf3
 refine Tr.alloc (cs := (bytesV (List.replicate 32 0))) J Zr77 J ?_
 intro n4 hn4 hf4
 refine Tr.nil (at_n (Sat.seq (Sat.draw [(1, 0), (1, 2), (3, 1), (3, 3), (2, 4), (2, 5), (4, 6), (4, 7)] Mixed zK (Tr.loadAll J J J Y77 J Sz77 Z2 (by (simp [ha]; done)) ?_))))
 refine Tr.loadAll J J J Y77 J Sz77 Z1 (by (simp [hb]; done)) ?_
 refine Tr.callV J J J J Body221 (field_load a ha) (fun _ _ => trivial) (Tr.callV J J J J Body221 (field_load b hb) (fun _ _ => trivial) (Tr.alloc (cs := (wordsV (List.replicate 5 0))) J Zr197 J ?_))
 intro n5 hn5 hf5
 refine Tr.alloc (cs := (wordsV (List.replicate 5 0))) J Zr197 J ?_
 intro n6 hn6 hf6
 refine Tr.storeAll J J J J zB Sz197 zW Z1 sP zV ?_
 refine Tr.storeAll J J J J zB Sz197 zW Z0 sP zU ?_
 refine Tr.nil (at_n (Sat.seq (Sat.region (Tr.idxArr1 J J J J Y197 Sz22 0 J dE (Tr.load1 J J J Y22 J Z1 (by rfl) ?_)))))
 refine Tr.idxArr1 J J J J Y197 Sz22 0 J dE (Tr.load1 J J J Y22 J Z0 (by rfl) ?_)
 refine Tr.sub_u64 J J (show evIn _ _ = some (u64 9007199254740916) from rfl) J (Tr.add_u64 J J J J (Tr.idxArr1 J J J J Y197 Sz22 0 J dE (Tr.store1 J J J J J Sz22 Z1 zW (by exact set_words _ _ _) zV ?_)))
 refine Tr.nil (at_n (Sat.seq (Sat.seq (Sat.region (Tr.assign J J J (Tr.nil (at_n (Sat.block (Sat.rounds 5 (SRounds.more (Sat.seq (Sat.seq (Sat.region (Tr.move J J J (Tr.lss J J J J J (Tr.nil (at_n (Sat.cond_t J (rfl) (Sat.skip (at_n (Sat.seq (Sat.block (Sat.draw [(0, 0), (0, 1), (1, 2), (0, 3), (0, 4), (1, 5), (0, 6), (0, 7), (0, 8), (4, 9)] Mixed zK (Tr.move J J J (Tr.idxArr1 J J J J Y197 Sz22 1 J oM (Tr.load1 J J J Y22 J Z1 (by rfl) ?_))))))))))))))))))))))))))
 refine Tr.move J J J (Tr.idxArr1 J J J J Y197 Sz22 1 J oM (Tr.load1 J J J Y22 J Z0 (by rfl) ?_))
 refine Tr.sub_u64 J J (show evIn _ _ = some (u64 9007199254740988) from rfl) J (Tr.add_u64 J J J J (Tr.idxArr1 J J J J Y197 Sz22 1 J oM (Tr.store1 J J J J J Sz22 Z1 zW (by exact set_words _ _ _) zV ?_)))
 refine Tr.nil (bl_n (at_n (Sat.region (Tr.move J J J (Tr.add_i64 J J J J oM (Tr.assign J J J (Tr.nil (at_n (SRounds.more (Sat.seq (Sat.seq (Sat.region (Tr.move J J J (Tr.lss J J J J J (Tr.nil (at_n (Sat.cond_t J (rfl) (Sat.skip (at_n (Sat.seq (Sat.block (Sat.draw [(0, 0), (0, 1), (1, 2), (0, 3), (0, 4), (1, 5), (0, 6), (0, 7), (0, 8), (4, 9)] Mixed zK (Tr.move J J J (Tr.idxArr1 J J J J Y197 Sz22 2 J oM (Tr.load1 J J J Y22 J Z1 (by rfl) ?_)))))))))))))))))))))))))
 refine Tr.move J J J (Tr.idxArr1 J J J J Y197 Sz22 2 J oM (Tr.load1 J J J Y22 J Z0 (by rfl) ?_))
 refine Tr.sub_u64 J J (show evIn _ _ = some (u64 9007199254740988) from rfl) J (Tr.add_u64 J J J J (Tr.idxArr1 J J J J Y197 Sz22 2 J oM (Tr.store1 J J J J J Sz22 Z1 zW (by exact set_words _ _ _) zV ?_)))
 refine Tr.nil (bl_n (at_n (Sat.region (Tr.move J J J (Tr.add_i64 J J J J oM (Tr.assign J J J (Tr.nil (at_n (SRounds.more (Sat.seq (Sat.seq (Sat.region (Tr.move J J J (Tr.lss J J J J J (Tr.nil (at_n (Sat.cond_t J (rfl) (Sat.skip (at_n (Sat.seq (Sat.block (Sat.draw [(0, 0), (0, 1), (1, 2), (0, 3), (0, 4), (1, 5), (0, 6), (0, 7), (0, 8), (4, 9)] Mixed zK (Tr.move J J J (Tr.idxArr1 J J J J Y197 Sz22 3 J oM (Tr.load1 J J J Y22 J Z1 (by rfl) ?_)))))))))))))))))))))))))
 refine Tr.move J J J (Tr.idxArr1 J J J J Y197 Sz22 3 J oM (Tr.load1 J J J Y22 J Z0 (by rfl) ?_))
 refine Tr.sub_u64 J J (show evIn _ _ = some (u64 9007199254740988) from rfl) J (Tr.add_u64 J J J J (Tr.idxArr1 J J J J Y197 Sz22 3 J oM (Tr.store1 J J J J J Sz22 Z1 zW (by exact set_words _ _ _) zV ?_)))
 refine Tr.nil (bl_n (at_n (Sat.region (Tr.move J J J (Tr.add_i64 J J J J oM (Tr.assign J J J (Tr.nil (at_n (SRounds.more (Sat.seq (Sat.seq (Sat.region (Tr.move J J J (Tr.lss J J J J J (Tr.nil (at_n (Sat.cond_t J (rfl) (Sat.skip (at_n (Sat.seq (Sat.block (Sat.draw [(0, 0), (0, 1), (1, 2), (0, 3), (0, 4), (1, 5), (0, 6), (0, 7), (0, 8), (4, 9)] Mixed zK (Tr.move J J J (Tr.idxArr1 J J J J Y197 Sz22 4 J oM (Tr.load1 J J J Y22 J Z1 (by rfl) ?_)))))))))))))))))))))))))
 refine Tr.move J J J (Tr.idxArr1 J J J J Y197 Sz22 4 J oM (Tr.load1 J J J Y22 J Z0 (by rfl) ?_))
 refine Tr.sub_u64 J J (show evIn _ _ = some (u64 9007199254740988) from rfl) J (Tr.add_u64 J J J J (Tr.idxArr1 J J J J Y197 Sz22 4 J oM (Tr.store1 J J J J J Sz22 Z1 zW (by exact set_words _ _ _) zV ?_)))
 refine Tr.nil (bl_n (at_n (Sat.region (Tr.move J J J (Tr.add_i64 J J J J oM (Tr.assign J J J (Tr.nil (at_n (SRounds.more (Sat.seq (Sat.seq (Sat.region (Tr.move J J J (Tr.lss J J J J J (Tr.nil (at_n (Sat.cond_f J (rfl) (Sat.exit (at_x (at_x (bl_h (at_n (Sat.seq (Sat.region (Tr.loadAll J J J Y197 J Sz197 Z1 zW ?_)))))))))))))))))))))))))
 refine Tr.callV J J J J Body223 (field_store (subF (ldN a) (ldN b))) (fun _ _ => trivial) (Tr.storeAll J J J J zE Sz77 zF Z2 sP (by exact upd2) ?_)
 refine Tr.nil (at_n (Sat.ret (en_r ?_)))
 refine ⟨_, [], res_cell J J Y77 J Sz77 Z2 (by simp [fb_length]), sP, sP, ?_, rfl⟩
 rw [subL_fe ha hb]

theorem field_Neg (a : List UInt8) (ha : a.length = 32) : Meets Tryz.prog 176 [agg (bytesV a)] [] (fun _ => True) (fun v out => v = agg (bytesV (fb (- fe (le a)))) ∧ out = []) := by
 intro W hW
 refine calls_of (hp0 := []) Tryz.func176 J 6 Tryz.ntmps176 J (HRep.nil _) (Sat.seq (Sat.region (Tr.boxA J J ?_)))
 intro n1 hn1 hf1
 refine Tr.alloc (cs := (bytesV (List.replicate 32 0))) J Zr77 J ?_
 intro n2 hn2 hf2
 refine Tr.nil (at_n (Sat.seq (Sat.region (Tr.build (cs := bytesV (List.replicate 32 0)) J J J (fun w => by kernel_rfl) ?_))))
 refine Tr.loadAll J J J Y77 J Sz77 Z1 (by (simp [ha]; done)) ?_
 refine Tr.callV J J J J Body170 (field_Sub (List.replicate 32 0) a J ha) (fun _ _ => trivial) (Tr.storeAll J J J J zE Sz77 zF Z0 sP zU ?_)
 refine Tr.nil (at_n (Sat.ret (en_r ?_)))
 refine ⟨_, [], res_cell J J Y77 J Sz77 Z0 (by simp [fb_length]), sP, sP, ?_, rfl⟩
 rw [show fe (le (List.replicate 32 0)) - fe (le a) = - fe (le a) from by rw [show fe (le (List.replicate 32 0)) = 0 by kernel_rfl]; grind]

theorem field_Mul (a b : List UInt8) (ha : a.length = 32) (hb : b.length = 32) : Meets Tryz.prog 169 [agg (bytesV a), agg (bytesV b)] [] (fun _ => True) (fun v out => v = agg (bytesV (fb (fe (le a) * fe (le b)))) ∧ out = []) := by
 intro W hW
 refine calls_of (hp0 := []) Tryz.func169 J 13 Tryz.ntmps169 J (HRep.nil _) (Sat.seq (Sat.region (Tr.boxA J J ?_)))
 intro n2 hn2 hf2
 refine Tr.boxA J J ?_
 intro n3 hn3 hf3
 refine Tr.alloc (cs := (bytesV (List.replicate 32 0))) J Zr77 J ?_
 intro n4 hn4 hf4
 refine Tr.nil (at_n (Sat.seq (Sat.draw [(1, 0), (1, 2), (3, 1), (3, 3), (2, 4), (2, 5), (4, 6), (4, 7)] Mixed zK (Tr.loadAll J J J Y77 J Sz77 Z2 (by (simp [ha]; done)) ?_))))
 refine Tr.loadAll J J J Y77 J Sz77 Z1 (by (simp [hb]; done)) ?_
 refine Tr.callV J J J J Body221 (field_load a ha) (fun _ _ => trivial) (Tr.callV J J J J Body221 (field_load b hb) (fun _ _ => trivial) (Tr.alloc (cs := (wordsV (List.replicate 5 0))) J Zr197 J ?_))
 intro n5 hn5 hf5
 refine Tr.alloc (cs := (wordsV (List.replicate 5 0))) J Zr197 J ?_
 intro n6 hn6 hf6
 refine Tr.storeAll J J J J zB Sz197 zW Z1 sP zV ?_
 refine Tr.storeAll J J J J zB Sz197 zW Z0 sP zU ?_
 refine Tr.nil (at_n (Sat.seq (Sat.region (Tr.callV J J J J Body222 (field_product n5 n6 (ldN a) (ldN b)) (fun w h => ⟨sees_own h Z1, sees_own h Z0⟩) ?_))))
 refine Tr.callV J J J J Body223 (field_store (mulF (ldN a) (ldN b))) (fun _ _ => trivial) (Tr.storeAll J J J J zE Sz77 zF Z2 sP (by exact upd2) ?_)
 refine Tr.nil (at_n (Sat.ret (en_r ?_)))
 refine ⟨_, [], res_cell J J Y77 J Sz77 Z2 (by simp [fb_length]), sP, sP, ?_, rfl⟩
 rw [mulL_fe ha hb]

theorem field_shifted (a b c d : UInt64) : Meets Tryz.prog 246 [agg (wordsV [a, b, c, d])] [] (fun _ => True) (fun v out => v = agg (wordsV [shl64 a 1, shl64 b 1 ||| shr64 a 63, shl64 c 1 ||| shr64 b 63, shl64 d 1 ||| shr64 c 63]) ∧ out = []) := by
 intro W hW
 refine calls_of (hp0 := []) Tryz.func246 J 25 Tryz.ntmps246 J (HRep.nil _) (Sat.seq (Sat.region (Tr.boxA J J ?_)))
 intro n1 hn1 hf1
 refine Tr.alloc (cs := (wordsV (List.replicate 4 0))) J Zr156 J ?_
 intro n2 hn2 hf2
 refine Tr.nil (at_n (Sat.seq (Sat.seq (Sat.region (Tr.assign J J J (Tr.nil (at_n (Sat.block (Sat.rounds 4 (SRounds.more (Sat.seq (Sat.seq (Sat.region (Tr.move J J J (Tr.gtr J J J J J (Tr.nil (at_n (Sat.cond_t J (rfl) (Sat.skip (at_n (Sat.seq (Sat.block (Sat.draw [(0, 0), (0, 1), (0, 2), (1, 3), (0, 4), (0, 5), (0, 6), (0, 7), (1, 8), (0, 9), (0, 10), (0, 11), (4, 12)] Mixed zK (Tr.move J J J (Tr.move J J J (Tr.idxArr1 J J J J Y156 Sz22 3 J oM (Tr.load1 J J J Y22 J Z1 (by rfl) ?_)))))))))))))))))))))))))))
 refine Tr.shl_u64 J J J J 1 J dE (Tr.move J J J (Tr.sub_i64 J J J J oM (Tr.idxArr1 J J J J Y156 Sz22 2 J oM (Tr.load1 J J J Y22 J Z1 (by rfl) ?_))))
 refine Tr.shr_u64 J J J J 63 J dE (Tr.or_u64 J J J J (Tr.idxArr1 J J J J Y156 Sz22 3 J oM (Tr.store1 J J J J J Sz22 Z1 sP (by exact set_words _ _ _) zV ?_)))
 refine Tr.nil (bl_n (at_n (Sat.region (Tr.move J J J (Tr.sub_i64 J J J J oM (Tr.assign J J J (Tr.nil (at_n (SRounds.more (Sat.seq (Sat.seq (Sat.region (Tr.move J J J (Tr.gtr J J J J J (Tr.nil (at_n (Sat.cond_t J (rfl) (Sat.skip (at_n (Sat.seq (Sat.block (Sat.draw [(0, 0), (0, 1), (0, 2), (1, 3), (0, 4), (0, 5), (0, 6), (0, 7), (1, 8), (0, 9), (0, 10), (0, 11), (4, 12)] Mixed zK (Tr.move J J J (Tr.move J J J (Tr.idxArr1 J J J J Y156 Sz22 2 J oM (Tr.load1 J J J Y22 J Z1 (by rfl) ?_))))))))))))))))))))))))))
 refine Tr.shl_u64 J J J J 1 J dE (Tr.move J J J (Tr.sub_i64 J J J J oM (Tr.idxArr1 J J J J Y156 Sz22 1 J oM (Tr.load1 J J J Y22 J Z1 (by rfl) ?_))))
 refine Tr.shr_u64 J J J J 63 J dE (Tr.or_u64 J J J J (Tr.idxArr1 J J J J Y156 Sz22 2 J oM (Tr.store1 J J J J J Sz22 Z1 sP (by exact set_words _ _ _) zV ?_)))
 refine Tr.nil (bl_n (at_n (Sat.region (Tr.move J J J (Tr.sub_i64 J J J J oM (Tr.assign J J J (Tr.nil (at_n (SRounds.more (Sat.seq (Sat.seq (Sat.region (Tr.move J J J (Tr.gtr J J J J J (Tr.nil (at_n (Sat.cond_t J (rfl) (Sat.skip (at_n (Sat.seq (Sat.block (Sat.draw [(0, 0), (0, 1), (0, 2), (1, 3), (0, 4), (0, 5), (0, 6), (0, 7), (1, 8), (0, 9), (0, 10), (0, 11), (4, 12)] Mixed zK (Tr.move J J J (Tr.move J J J (Tr.idxArr1 J J J J Y156 Sz22 1 J oM (Tr.load1 J J J Y22 J Z1 (by rfl) ?_))))))))))))))))))))))))))
 refine Tr.shl_u64 J J J J 1 J dE (Tr.move J J J (Tr.sub_i64 J J J J oM (Tr.idxArr1 J J J J Y156 Sz22 0 J oM (Tr.load1 J J J Y22 J Z1 (by rfl) ?_))))
 refine Tr.shr_u64 J J J J 63 J dE (Tr.or_u64 J J J J (Tr.idxArr1 J J J J Y156 Sz22 1 J oM (Tr.store1 J J J J J Sz22 Z1 sP (by exact set_words _ _ _) zV ?_)))
 refine Tr.nil (bl_n (at_n (Sat.region (Tr.move J J J (Tr.sub_i64 J J J J oM (Tr.assign J J J (Tr.nil (at_n (SRounds.more (Sat.seq (Sat.seq (Sat.region (Tr.move J J J (Tr.gtr J J J J J (Tr.nil (at_n (Sat.cond_f J (rfl) (Sat.exit (at_x (at_x (bl_h (at_n (Sat.seq (Sat.region (Tr.idxArr1 J J J J Y156 Sz22 0 J dE (Tr.load1 J J J Y22 J Z1 (by rfl) ?_))))))))))))))))))))))))))
 refine Tr.shl_u64 J J J J 1 J dE (Tr.idxArr1 J J J J Y156 Sz22 0 J dE (Tr.store1 J J J J J Sz22 Z1 sP (by exact set_words _ _ _) zV ?_))
 refine Tr.nil (at_n (Sat.seq (Sat.region (Tr.loadAll J J J Y156 J Sz156 Z1 sP ?_))))
 refine Tr.storeAll J J J J zB Sz156 sP Z0 sP zU ?_
 refine Tr.nil (at_n (Sat.ret (en_r ?_)))
 refine ⟨_, [], res_cell J J Y156 J Sz156 Z0 sP, sP, sP, ?_, rfl⟩
 rfl

theorem field_ones (f l : UInt8) : Meets Tryz.prog 226 [u8 f, u8 l] [] (fun _ => True) (fun v out => v = agg (bytesV (onesB f l)) ∧ out = []) := by
 intro W hW
 refine calls_of (hp0 := []) Tryz.func226 J 18 Tryz.ntmps226 J (HRep.nil _) (Sat.seq (Sat.region (Tr.alloc (cs := (bytesV (List.replicate 32 0))) J Zr77 J ?_)))
 intro n4 hn4 hf4
 refine Tr.nil (at_n (Sat.seq (Sat.region (Tr.alloc (cs := (bytesV (List.replicate 32 0))) J Zr77 J ?_))))
 intro n5 hn5 hf5
 refine Tr.nil (at_n (Sat.seq (Sat.seq (Sat.region (Tr.move J J J (Tr.nil (at_n (Sat.block (Sat.loop (ι := Nat) (fun k => ⟨[(0, u8 f), (1, u8 l), (4, ptr n4 0), (5, ptr n5 0), (7, i64 (k : Int))], [⟨n5, bytesV (List.replicate k 255 ++ List.replicate (32 - k) 0), 77, 32⟩, ⟨n4, bytesV (List.replicate 32 0), 77, 32⟩]⟩) (fun k => k ≤ 32) (fun k => 32 - k) (0) ?_ ?_ ?_)))))))))
 · omega
 · exact weak_of (wk1 rfl (wk1 rfl (wk1 rfl (wk1 rfl (wk1 rfl wk0))))) (wh1 Z0 (wh1 Z1 wh0)) nD
 ·
  rintro k hi
  refine Sat.seq (Sat.region (Tr.lss J J J J J (Tr.nil (at_n (Sat.seq (Sat.condP J (fun hc0 => ?_) (fun hc0 => ?_)))))))
  ·
   have hk2 : k < 32 := by omega
   refine Sat.skip (at_n (Sat.seq (Sat.block (Sat.seq (Sat.region (Tr.move J J J (Tr.assign J J J (Tr.nil (at_n (Sat.region (Tr.move J J J (Tr.idxArr1 J J J J Y77 Sz5 _ J oM (Tr.store1 J J J (show evIn _ _ = some (u8 255) from rfl) J Sz5 Z0 (by (simp; omega)) (by exact set_bytes _ _ _) zU ?_)))))))))))))
   refine Tr.nil (bl_n (at_n (Sat.region (Tr.add_i64 J J J J oM (Tr.move J J J (Tr.nil (at_n ?_)))))))
   exact ⟨k + 1, by omega, by omega, weak_of (wk1 rfl (wk1 rfl (wk1 rfl (wk1 rfl (wk1 rfl wk0))))) (wh1 (by rw [← ones_step hk2]; exact mem0) (wh1 Z1 wh0)) nD⟩
  ·
   obtain rfl : k = 32 := by omega
   rw [show ((List.replicate 32 255 ++ List.replicate (32 - 32) 0) : List UInt8) = List.replicate 32 255 from rfl]
   refine Sat.exit (at_x (at_x (bl_h (at_n (Sat.seq (Sat.region (Tr.move J J J (Tr.move J J J (Tr.idxArr1 J J J J Y77 Sz5 0 J dE (Tr.store1 J J J J J Sz5 Z0 sP (by exact set_bytes _ _ _) zU ?_))))))))))
   refine Tr.idxArr1 J J J J Y77 Sz5 31 J dE (Tr.store1 J J J J J Sz5 Z0 sP (by exact set_bytes _ _ _) zU ?_)
   refine Tr.nil (at_n (Sat.seq (Sat.region (Tr.loadAll J J J Y77 J Sz77 Z0 sP ?_))))
   refine Tr.storeAll J J J J zE Sz77 sP Z1 sP zV ?_
   refine Tr.nil (at_n (Sat.ret (en_r ?_)))
   refine ⟨_, [], res_cell J J Y77 J Sz77 Z1 sP, sP, sP, ?_, rfl⟩
   rfl

theorem field_Pow (a e : List UInt8) (ha : a.length = 32) (he : e.length = 32) : Meets Tryz.prog 225 [agg (bytesV a), agg (bytesV e)] [] (fun _ => True) (fun v out => v = agg (bytesV (fb (fpow (fe (le a)) (le e)))) ∧ out = []) := by
 intro W hW
 have hE : le e < 2 ^ 256 := le32 he
 have hXf : (ldN a).fit := (ldN_lt a).fit
 have hXv : fe (ldN a).v = fe (le a) := by rw [ldN_v ha]
 refine calls_of (hp0 := []) Tryz.func225 J 26 Tryz.ntmps225 J (HRep.nil _) (Sat.seq (Sat.region (Tr.boxA J J ?_)))
 intro n2 hn2 hf2
 refine Tr.boxA J J ?_
 intro n3 hn3 hf3
 refine Tr.alloc (cs := (bytesV (List.replicate 32 0))) J Zr77 J ?_
 intro n4 hn4 hf4
 refine Tr.nil (at_n (Sat.seq (Sat.draw [(1, 0), (1, 2), (0, 4), (3, 1), (3, 3), (2, 5), (2, 6), (2, 7), (4, 8), (4, 9), (4, 10)] Mixed zK (Tr.loadAll J J J Y77 J Sz77 Z2 (by (simp [ha]; done)) ?_))))
 refine Tr.loadAll J J J Y77 J Sz77 Z1 (by (simp [he]; done)) ?_
 refine Tr.build (cs := wordsV (⟨1, 0, 0, 0, 0⟩ : W5).l) J J J (fun w => by kernel_rfl) ?_
 refine Tr.callV J J J J Body221 (field_load a ha) (fun _ _ => trivial) (Tr.callV J J J J Body242 (field_quarters e he) (fun _ _ => trivial) (Tr.alloc (cs := (wordsV (List.replicate 5 0))) J Zr197 J ?_))
 intro n5 hn5 hf5
 refine Tr.alloc (cs := (wordsV (List.replicate 4 0))) J Zr156 J ?_
 intro n6 hn6 hf6
 refine Tr.alloc (cs := (wordsV (List.replicate 5 0))) J Zr197 J ?_
 intro n7 hn7 hf7
 refine Tr.storeAll J J J J zB Sz197 zW Z2 sP (by exact upd2) ?_
 refine Tr.storeAll J J J J zB Sz156 sP Z1 sP zV ?_
 refine Tr.storeAll J J J J zB Sz197 zW Z0 sP zU ?_
 refine Tr.nil (at_n (Sat.seq (Sat.seq (Sat.region (Tr.move J J J (Tr.nil (at_n (Sat.block (Sat.loop (ι := PowS) (fun s => ⟨[(4, ptr n4 0), (5, ptr n5 0), (6, ptr n6 0), (7, ptr n7 0), (13, i64 (s.k : Int))], [⟨n7, wordsV s.p.l, 197, 5⟩, ⟨n6, wordsV [s.a, s.b, s.c, s.d], 156, 4⟩, ⟨n5, wordsV (ldN a).l, 197, 5⟩, ⟨n4, bytesV (List.replicate 32 0), 77, 32⟩]⟩) (fun s => PowI (le e) (fe (le a)) s.k s.p s.a s.b s.c s.d) (fun s => 256 - s.k) (⟨0, ⟨1, 0, 0, 0, 0⟩, qw e 0, qw e 1, qw e 2, qw e 3⟩) ?_ ?_ ?_)))))))))
 · exact PowI.first he _
 · exact weak_of (wk1 rfl (wk1 rfl (wk1 rfl (wk1 rfl (wk1 rfl wk0))))) (wh1 Z0 (wh1 Z1 (wh1 Z2 (wh1 Z3 wh0)))) nD
 ·
  rintro s hs
  have hsl := hs.le
  refine Sat.seq (Sat.region (Tr.lss J J J J J (Tr.nil (at_n (Sat.seq (Sat.condP J (fun hc0 => ?_) (fun hc0 => ?_)))))))
  ·
   have hk2 : s.k < 256 := by omega
   refine Sat.skip (at_n (Sat.seq (Sat.block (Sat.seq (Sat.region (Tr.callV J J J J Body222 (field_product n7 n7 s.p s.p) (fun w h => ⟨sees_own h Z0, sees_own h Z0⟩) ?_))))))
   refine Tr.storeAll J J J J zB Sz197 zW Z0 zW zU ?_
   refine Tr.nil (at_n (Sat.join (ι := W5) (fun u => ⟨[(4, ptr n4 0), (5, ptr n5 0), (6, ptr n6 0), (7, ptr n7 0), (13, i64 (s.k : Int))], [⟨n7, wordsV u.l, 197, 5⟩, ⟨n6, wordsV [s.a, s.b, s.c, s.d], 156, 4⟩, ⟨n5, wordsV (ldN a).l, 197, 5⟩, ⟨n4, bytesV (List.replicate 32 0), 77, 32⟩]⟩) (fun u => PowI (le e) (fe (le a)) (s.k + 1) u (shl64 s.a 1) (shl64 s.b 1 ||| shr64 s.a 63) (shl64 s.c 1 ||| shr64 s.b 63) (shl64 s.d 1 ||| shr64 s.c 63)) ?_ ?_))
   ·
    refine Sat.seq (Sat.region (Tr.idxArr1 J J J J Y156 Sz22 3 J dE (Tr.load1 J J J Y22 J Z1 (by rfl) ?_)))
    refine Tr.shr_u64 J J J J 63 J dE (Tr.eqi J J J J J (Tr.nil (at_n (Sat.condP J (fun hc1 => ?_) (fun hc1 => ?_)))))
    ·
     have hb1 : (shr64 s.d 63).toNat = 1 := by omega
     refine Sat.region (Tr.callV J J J J Body222 (field_product n7 n5 (mulF s.p s.p) (ldN a)) (fun w h => ⟨sees_own h Z0, sees_own h Z2⟩) ?_)
     refine Tr.storeAll J J J J zB Sz197 zW Z0 zW zU ?_
     refine Tr.nil (at_n ?_)
     exact ⟨mulF (mulF s.p s.p) (ldN a), hs.odd hE hk2 hXf hXv hb1, weak_of (wk1 rfl (wk1 rfl (wk1 rfl (wk1 rfl (wk1 rfl wk0))))) (wh1 Z0 (wh1 Z1 (wh1 Z2 (wh1 Z3 wh0)))) nD⟩
    ·
     have hb1 : ¬ (shr64 s.d 63).toNat = 1 := by omega
     refine Sat.skip (at_n ?_)
     exact ⟨mulF s.p s.p, hs.even hE hk2 hb1, weak_of (wk1 rfl (wk1 rfl (wk1 rfl (wk1 rfl (wk1 rfl wk0))))) (wh1 Z0 (wh1 Z1 (wh1 Z2 (wh1 Z3 wh0)))) nD⟩
   ·
    intro u hj
    have hu := hj
    refine Sat.region (Tr.loadAll J J J Y156 J Sz156 Z1 sP ?_)
    refine Tr.callV J J J J Body246 (field_shifted s.a s.b s.c s.d) (fun _ _ => trivial) (Tr.storeAll J J J J zB Sz156 sP Z1 sP zV ?_)
    refine Tr.nil (bl_n (at_n (Sat.region (Tr.add_i64 J J J J oM (Tr.move J J J (Tr.nil (at_n ?_)))))))
    exact ⟨⟨s.k + 1, u, _, _, _, _⟩, hu, by simp only []; omega, weak_of (wk1 rfl (wk1 rfl (wk1 rfl (wk1 rfl (wk1 rfl wk0))))) (wh1 Z0 (wh1 Z1 (wh1 Z2 (wh1 Z3 wh0)))) nD⟩
  ·
   have hke : s.k = 256 := by omega
   have hfin : fe s.p.v = fpow (fe (le a)) (le e) := by rw [hke] at hs; exact hs.last
   refine Sat.exit (at_x (at_x (bl_h (at_n (Sat.seq (Sat.region (Tr.loadAll J J J Y197 J Sz197 Z0 zW ?_)))))))
   refine Tr.callV J J J J Body223 (field_store s.p) (fun _ _ => trivial) (Tr.storeAll J J J J zE Sz77 zF Z3 sP (by exact upd3) ?_)
   refine Tr.nil (at_n (Sat.ret (en_r ?_)))
   refine ⟨_, [], res_cell J J Y77 J Sz77 Z3 (by simp [fb_length]), sP, sP, ?_, rfl⟩
   rw [hfin]

theorem field_Inv (a : List UInt8) (ha : a.length = 32) : Meets Tryz.prog 175 [agg (bytesV a)] [] (fun _ => True) (fun v out => v = agg (bytesV (fb (finv (fe (le a))))) ∧ out = []) := by
 intro W hW
 refine calls_of (hp0 := []) Tryz.func175 J 6 Tryz.ntmps175 J (HRep.nil _) (Sat.seq (Sat.region (Tr.boxA J J ?_)))
 intro n1 hn1 hf1
 refine Tr.alloc (cs := (bytesV (List.replicate 32 0))) J Zr77 J ?_
 intro n2 hn2 hf2
 refine Tr.nil (at_n (Sat.seq (Sat.draw [(1, 0), (3, 1), (3, 2), (4, 3)] Mixed zK (Tr.loadAll J J J Y77 J Sz77 Z1 (by (simp [ha]; done)) ?_))))
 refine Tr.callV J J J J Body226 (field_ones 235 127) (fun _ _ => trivial) (Tr.callV J J J J Body225 (field_Pow a (onesB 235 127) ha (onesB_length _ _)) (fun _ _ => trivial) (Tr.storeAll J J J J zE Sz77 zF Z0 sP zU ?_))
 refine Tr.nil (at_n (Sat.ret (en_r ?_)))
 refine ⟨_, [], res_cell J J Y77 J Sz77 Z0 (by simp [fb_length]), sP, sP, ?_, rfl⟩
 rw [ones_inv]; rfl

end Go.Proofs.YtpacobmjjjillaaGreat
end

section
namespace Go.Proofs.YtpacobmjjjillaaGreat
open Go Hw
set_option linter.unusedVariables false
set_option linter.unusedSimpArgs false

open Ed

theorem f_mul (x y : Fp) : Meets Tryz.prog 169 [agg (bytesV (fb x)), agg (bytesV (fb y))] [] (fun _ => True) (fun v out => v = agg (bytesV (fb (x * y))) ∧ out = []) := by
  have h := field_Mul (fb x) (fb y) (fb_length x) (fb_length y)
  rwa [fe_fb x, fe_fb y] at h

theorem f_add (x y : Fp) : Meets Tryz.prog 172 [agg (bytesV (fb x)), agg (bytesV (fb y))] [] (fun _ => True) (fun v out => v = agg (bytesV (fb (x + y))) ∧ out = []) := by
  have h := field_Add (fb x) (fb y) (fb_length x) (fb_length y)
  rwa [fe_fb x, fe_fb y] at h

theorem f_sub (x y : Fp) : Meets Tryz.prog 170 [agg (bytesV (fb x)), agg (bytesV (fb y))] [] (fun _ => True) (fun v out => v = agg (bytesV (fb (x - y))) ∧ out = []) := by
  have h := field_Sub (fb x) (fb y) (fb_length x) (fb_length y)
  rwa [fe_fb x, fe_fb y] at h

theorem f_neg (x : Fp) : Meets Tryz.prog 176 [agg (bytesV (fb x))] [] (fun _ => True) (fun v out => v = agg (bytesV (fb (-x))) ∧ out = []) := by
  have h := field_Neg (fb x) (fb_length x)
  rwa [fe_fb x] at h

theorem f_inv (x : Fp) : Meets Tryz.prog 175 [agg (bytesV (fb x))] [] (fun _ => True) (fun v out => v = agg (bytesV (fb (finv x))) ∧ out = []) := by
  have h := field_Inv (fb x) (fb_length x)
  rwa [fe_fb x] at h

theorem f_odd (x : Fp) : Meets Tryz.prog 215 [agg (bytesV (fb x))] [] (fun _ => True) (fun v out => v = .bool (decide (x.val % 2 = 1)) ∧ out = []) := by
  have h := field_Odd (fb x) (fb_length x)
  rwa [fe_fb x] at h

theorem f_same_raw (x : Fp) (a : List UInt8) (ha : a.length = 32) : Meets Tryz.prog 227 [agg (bytesV (fb x)), agg (bytesV a)] [] (fun _ => True) (fun v out => v = .bool (decide (x = fe (le a))) ∧ out = []) := by
  have h := field_Same (fb x) a (fb_length x) ha
  rwa [fe_fb x] at h
theorem f_pow_root (a : List UInt8) (ha : a.length = 32) : Meets Tryz.prog 225 [agg (bytesV a), agg (bytesV (onesB 254 15))] [] (fun _ => True) (fun v out => v = agg (bytesV (fb (fpow (fe (le a)) ((PF + 3) / 8)))) ∧ out = []) := by
  have h := field_Pow a (onesB 254 15) ha (onesB_length _ _)
  rwa [ones_root] at h
theorem f_pow_unit : Meets Tryz.prog 225 [agg (bytesV (fb (fe (2 : UInt64).toNat))), agg (bytesV (onesB 251 31))] [] (fun _ => True) (fun v out => v = agg (bytesV (fb (fpow (fe 2) ((PF - 1) / 4)))) ∧ out = []) := by
  have h := field_Pow (fb (fe (2 : UInt64).toNat)) (onesB 251 31) (fb_length _) (onesB_length _ _)
  rwa [ones_unit, fe_fb] at h
theorem f_one : Meets Tryz.prog 171 [u64 1] [] (fun _ => True) (fun v out => v = agg (bytesV (fb 1)) ∧ out = []) := by
  have h := field_Of 1
  rwa [show fe (1 : UInt64).toNat = 1 from rfl] at h

theorem field_Root (a : List UInt8) (X : Fp) (ha : a.length = 32) (hX : fe (le a) = X) : Meets Tryz.prog 174 [agg (bytesV a)] [] (fun _ => True) (fun v out => v = .tuple #[agg (bytesV (fb (fRoot X).1)), .bool (fRoot X).2] ∧ out = []) := by
 intro W hW
 obtain ⟨r0, hr0⟩ : ∃ r, fpow X ((PF + 3) / 8) = r := ⟨_, rfl⟩
 obtain ⟨un, hun⟩ : ∃ r, fpow (fe 2) ((PF - 1) / 4) = r := ⟨_, rfl⟩
 obtain ⟨r1, hr1⟩ : ∃ r, fRoot1 X = r := ⟨_, rfl⟩
 have hp0 := f_pow_root a ha
 have hpu := f_pow_unit
 rw [hX, hr0] at hp0
 rw [hun] at hpu
 have hm := fun y => f_same_raw y a ha
 rw [hX] at hm
 have hr1' : r1 = if r0 * r0 = X then r0 else r0 * un := by rw [← hr1, fRoot1, hr0, hun]
 have hR : fRoot X = if r1 * r1 = X then ((if r1.val % 2 = 1 then -r1 else r1), true) else (0, false) := by rw [fRoot, hr1]
 clear hr1
 refine calls_of (hp0 := []) Tryz.func174 J 31 Tryz.ntmps174 J (HRep.nil _) (Sat.seq (Sat.region (Tr.boxA J J ?_)))
 intro n1 hn1 hf1
 refine Tr.alloc (cs := (bytesV (List.replicate 32 0))) J Zr77 J ?_
 intro n2 hn2 hf2
 refine Tr.assign J J J (Tr.nil (at_n (Sat.seq (Sat.draw [(1, 0), (3, 1), (3, 2), (2, 3), (4, 4)] Mixed zK (Tr.loadAll J J J Y77 J Sz77 Z1 (by (simp [ha]; done)) ?_)))))
 refine Tr.callV J J J J Body226 (field_ones 254 15) (fun _ _ => trivial) (Tr.callV J J J J Body225 (hp0) (fun _ _ => trivial) (Tr.alloc (cs := (bytesV (List.replicate 32 0))) J Zr77 J ?_))
 intro n4 hn4 hf4
 refine Tr.storeAll J J J J zE Sz77 zF Z0 sP zU ?_
 refine Tr.nil (at_n (Sat.join (ι := Unit) (fun _u => ⟨[(1, ptr n1 0), (2, ptr n2 0), (4, ptr n4 0)], [⟨n4, bytesV (fb r1), 77, 32⟩, ⟨n2, bytesV (List.replicate 32 0), 77, 32⟩, ⟨n1, bytesV a, 77, (bytesV a).length⟩]⟩) (fun _u => True) ?_ ?_))
 ·
  refine Sat.seq (Sat.draw [(1, 0), (1, 1), (1, 3), (3, 2), (3, 4), (0, 5)] Mixed zK (Tr.loadAll J J J Y77 J Sz77 Z0 zF ?_))
  refine Tr.loadAll J J J Y77 J Sz77 Z0 zF ?_
  refine Tr.loadAll J J J Y77 J Sz77 Z2 (by (simp [ha]; done)) ?_
  refine Tr.callV J J J J Body169 (f_mul r0 r0) (fun _ _ => trivial) (Tr.callV J J J J Body227 (hm (r0 * r0)) (fun _ _ => trivial) (Tr.not J J J (Tr.nil (at_n (Sat.condNP J (fun hc0 => ?_) (fun hc0 => ?_))))))
  ·
   refine Sat.draw [(1, 0), (3, 1), (3, 2), (3, 3), (3, 4), (4, 5)] Mixed zK (Tr.loadAll J J J Y77 J Sz77 Z0 zF ?_)
   refine Tr.callV J J J J Body171 (field_Of 2) (fun _ _ => trivial) (Tr.callV J J J J Body226 (field_ones 251 31) (fun _ _ => trivial) (Tr.callV J J J J Body225 (hpu) (fun _ _ => trivial) (Tr.callV J J J J Body169 (f_mul r0 un) (fun _ _ => trivial) (Tr.storeAll J J J J zE Sz77 zF Z0 zF zU ?_))))
   refine Tr.nil (at_n ?_)
   (rw [hr1', if_neg hc0]; exact ⟨(), trivial, weak_of (wk1 rfl (wk1 rfl (wk1 rfl wk0))) (wh1 Z0 (wh1 Z1 (wh1 Z2 wh0))) nD⟩)
  ·
   refine Sat.skip (at_n ?_)
   (rw [hr1', if_pos hc0]; exact ⟨(), trivial, weak_of (wk1 rfl (wk1 rfl (wk1 rfl wk0))) (wh1 Z0 (wh1 Z1 (wh1 Z2 wh0))) nD⟩)
 ·
  intro _u hj
  skip
  refine Sat.seq (Sat.seq (Sat.draw [(1, 0), (1, 1), (1, 3), (3, 2), (3, 4), (0, 5)] Mixed zK (Tr.loadAll J J J Y77 J Sz77 Z0 zF ?_)))
  refine Tr.loadAll J J J Y77 J Sz77 Z0 zF ?_
  refine Tr.loadAll J J J Y77 J Sz77 Z2 (by (simp [ha]; done)) ?_
  refine Tr.callV J J J J Body169 (f_mul r1 r1) (fun _ _ => trivial) (Tr.callV J J J J Body227 (hm (r1 * r1)) (fun _ _ => trivial) (Tr.not J J J (Tr.nil (at_n (Sat.condNP J (fun hc1 => ?_) (fun hc1 => ?_))))))
  ·
   refine Sat.seq (Sat.region (Tr.build (cs := bytesV (List.replicate 32 0)) J J J (fun w => by kernel_rfl) ?_))
   refine Tr.storeAll J J J J zE Sz77 sP Z1 sP zV ?_
   refine Tr.assign J J J (Tr.nil (at_n (Sat.ret (at_r (en_r ?_)))))
   refine ⟨_, [], res_cell_tmp J J J Y77 J Sz77 Z1 sP, sP, sP, ?_, rfl⟩
   (rw [hR, if_neg hc1, fb_zero]; done)
  ·
   refine Sat.skip (at_n (Sat.join (ι := Unit) (fun _u => ⟨[(2, ptr n2 0), (4, ptr n4 0)], [⟨n4, bytesV (fb (if r1.val % 2 = 1 then -r1 else r1)), 77, 32⟩, ⟨n2, bytesV (List.replicate 32 0), 77, 32⟩]⟩) (fun _u => True) ?_ ?_))
   ·
    refine Sat.seq (Sat.region (Tr.loadAll J J J Y77 J Sz77 Z0 zF ?_))
    refine Tr.callV J J J J Body215 (f_odd r1) (fun _ _ => trivial) (Tr.nil (at_n (Sat.condP J (fun hc2 => ?_) (fun hc2 => ?_))))
    ·
     refine Sat.region (Tr.loadAll J J J Y77 J Sz77 Z0 zF ?_)
     refine Tr.callV J J J J Body176 (f_neg r1) (fun _ _ => trivial) (Tr.storeAll J J J J zE Sz77 zF Z0 zF zU ?_)
     refine Tr.nil (at_n ?_)
     (rw [if_pos hc2]; exact ⟨(), trivial, weak_of (wk1 rfl (wk1 rfl wk0)) (wh1 Z0 (wh1 Z1 wh0)) nD⟩)
    ·
     refine Sat.skip (at_n ?_)
     (rw [if_neg hc2]; exact ⟨(), trivial, weak_of (wk1 rfl (wk1 rfl wk0)) (wh1 Z0 (wh1 Z1 wh0)) nD⟩)
   ·
    intro _u hj
    skip
    refine Sat.seq (Sat.region (Tr.loadAll J J J Y77 J Sz77 Z0 zF ?_))
    refine Tr.storeAll J J J J zE Sz77 zF Z1 sP zV ?_
    refine Tr.assign J J J (Tr.nil (at_n (Sat.ret (en_r ?_))))
    refine ⟨_, [], res_cell_tmp J J J Y77 J Sz77 Z1 (by simp [fb_length]), sP, sP, ?_, rfl⟩
    (rw [hR, if_pos hc1]; done)

end Go.Proofs.YtpacobmjjjillaaGreat
end

section
namespace Ed
open Hw Go
set_option linter.unusedVariables false

theorem fb32 (x : Fp) : (fb x).length = 32 := fb_length x
/-- the bytes of a point -/
def pb (P : Pt Fp) : List UInt8 := if P.x.val % 2 = 1 then (fb P.y).set 31 ((fb P.y).getD 31 0 ||| 128) else fb P.y
theorem pb_length (P : Pt Fp) : (pb P).length = 32 := by
  unfold pb
  split
  · rw [List.length_set, fb_length]
  · exact fb_length _
def topB (b : List UInt8) : Bool := !decide (((b.getD 31 0 &&& 128).toNat : Int) = 0)
def lowB (b : List UInt8) : List UInt8 := b.set 31 (b.getD 31 0 &&& 127)
theorem lowB_length {b : List UInt8} (h : b.length = 32) : (lowB b).length = 32 := by rw [lowB, List.length_set, h]
/-- the X of a Y, and whether there is one -/
def xOf (Y : Fp) : Fp × Bool := fRoot ((Y * Y - 1) * finv (fD * (Y * Y) + 1))
def rdP (b : List UInt8) : Option (Pt Fp) :=
  if fb (fe (le (lowB b))) = lowB b then
    (if (xOf (fe (le (lowB b)))).2 = true ∧ ¬ (topB b = true ∧ (xOf (fe (le (lowB b)))).1 = 0) then
      some ⟨if topB b = true then - (xOf (fe (le (lowB b)))).1 else (xOf (fe (le (lowB b)))).1, fe (le (lowB b))⟩
    else none)
  else none
theorem fRoot_sq {X : Fp} (h : (fRoot X).2 = true) : (fRoot X).1 * (fRoot X).1 = X := by
  unfold fRoot at h ⊢
  by_cases h1 : fRoot1 X * fRoot1 X = X
  · rw [if_pos h1]
    simp only
    split
    · rw [sq_neg, h1]
    · exact h1
  · rw [if_neg h1] at h; cases h
theorem xOf_on {Y : Fp} (h : (xOf Y).2 = true) : cv.on ⟨(xOf Y).1, Y⟩ :=
  cv.on_read (finv_mul (cv.below_ne Y)) (fRoot_sq h)
theorem neg_mk (x y : Fp) : neg ⟨x, y⟩ = ⟨-x, y⟩ := rfl
theorem rdP_on {b : List UInt8} {P : Pt Fp} (h : rdP b = some P) : cv.on P := by
  unfold rdP at h
  split at h
  · split at h
    · rename_i h1 h2
      simp only [Option.some.injEq] at h
      subst h
      have := xOf_on h2.1
      split
      · have h3 := cv.on_neg this
        rw [neg_mk] at h3
        exact h3
      · exact this
    · cases h
  · cases h
/-- what Check says of a point's numbers -/
def pchk (x y : List UInt8) : Int := if fb (fe (le x)) = x ∧ fb (fe (le y)) = y ∧ fe (le y) * fe (le y) - fe (le x) * fe (le x) = 1 + fD * (fe (le x) * fe (le x) * (fe (le y) * fe (le y))) then 0 else 2
theorem pchk_on {P : Pt Fp} (h : cv.on P) : pchk (fb P.x) (fb P.y) = 0 := by
  have h1 := (cv.on_iff P).1 h
  unfold pchk
  rw [fe_fb, fe_fb]
  exact if_pos (And.intro (Eq.refl (fb P.x)) (And.intro (Eq.refl (fb P.y)) h1))
/-- the base point -/
def bX : List UInt8 := [26, 213, 37, 143, 96, 45, 86, 201, 178, 167, 37, 149, 96, 199, 44, 105, 92, 220, 214, 253, 49, 226, 164, 192, 254, 83, 110, 205, 211, 54, 105, 33]
def bY : List UInt8 := (List.replicate 32 102).set 0 88
def bP : Pt Fp := ⟨fe (le bX), fe (le bY)⟩
theorem bP_x : fb bP.x = bX := by kernel_rfl
theorem bP_y : fb bP.y = bY := by kernel_rfl
theorem bP_on : cv.on bP := by
  show bP.y * bP.y - bP.x * bP.x = 1 + fD * bP.x * bP.x * bP.y * bP.y
  kernel_rfl
theorem lin_step (a b j : Nat) (hj : j < 256) {P Q : Pt Fp} (hP : cv.on P) (hQ : cv.on Q) : cv.lin (a / 2 ^ (256 - (j + 1))) (b / 2 ^ (256 - (j + 1))) P Q =
    (if a.testBit (255 - j) then (if b.testBit (255 - j) then cv.add (cv.add (cv.lin (a / 2 ^ (256 - j)) (b / 2 ^ (256 - j)) P Q) (cv.lin (a / 2 ^ (256 - j)) (b / 2 ^ (256 - j)) P Q)) (cv.add P Q) else cv.add (cv.add (cv.lin (a / 2 ^ (256 - j)) (b / 2 ^ (256 - j)) P Q) (cv.lin (a / 2 ^ (256 - j)) (b / 2 ^ (256 - j)) P Q)) P)
     else (if b.testBit (255 - j) then cv.add (cv.add (cv.lin (a / 2 ^ (256 - j)) (b / 2 ^ (256 - j)) P Q) (cv.lin (a / 2 ^ (256 - j)) (b / 2 ^ (256 - j)) P Q)) Q else cv.add (cv.lin (a / 2 ^ (256 - j)) (b / 2 ^ (256 - j)) P Q) (cv.lin (a / 2 ^ (256 - j)) (b / 2 ^ (256 - j)) P Q))) := by
  have ha := next_div a j hj
  have hb := next_div b j hj
  rw [ha, hb]
  have e : ∀ n : Nat, n.testBit (255 - j) = decide (n / 2 ^ (255 - j) % 2 = 1) := fun n => Nat.testBit_eq_decide_div_mod_eq
  rw [e a, e b]
  rw [← cv.lin_two hP hQ]
  generalize a / 2 ^ (256 - j) = A
  generalize b / 2 ^ (256 - j) = B
  have h1 : a / 2 ^ (255 - j) % 2 = 0 ∨ a / 2 ^ (255 - j) % 2 = 1 := by omega
  have h2 : b / 2 ^ (255 - j) % 2 = 0 ∨ b / 2 ^ (255 - j) % 2 = 1 := by omega
  rcases h1 with h1 | h1 <;> rcases h2 with h2 | h2 <;> rw [h1, h2]
  · rfl
  · exact cv.lin_right hP hQ _ _
  · exact cv.lin_left hP hQ _ _
  · exact cv.lin_both hP hQ _ _
theorem lin_tt {a b j : Nat} (hj : j < 256) {P Q : Pt Fp} (hP : cv.on P) (hQ : cv.on Q) (h1 : a.testBit (255 - j) = true) (h2 : b.testBit (255 - j) = true) : cv.lin (a / 2 ^ (256 - (j + 1))) (b / 2 ^ (256 - (j + 1))) P Q = cv.add (cv.add (cv.lin (a / 2 ^ (256 - j)) (b / 2 ^ (256 - j)) P Q) (cv.lin (a / 2 ^ (256 - j)) (b / 2 ^ (256 - j)) P Q)) (cv.add P Q) := by
  rw [lin_step a b j hj hP hQ, h1, h2]; rfl
theorem lin_tf {a b j : Nat} (hj : j < 256) {P Q : Pt Fp} (hP : cv.on P) (hQ : cv.on Q) (h1 : a.testBit (255 - j) = true) (h2 : b.testBit (255 - j) = false) : cv.lin (a / 2 ^ (256 - (j + 1))) (b / 2 ^ (256 - (j + 1))) P Q = cv.add (cv.add (cv.lin (a / 2 ^ (256 - j)) (b / 2 ^ (256 - j)) P Q) (cv.lin (a / 2 ^ (256 - j)) (b / 2 ^ (256 - j)) P Q)) P := by
  rw [lin_step a b j hj hP hQ, h1, h2]; rfl
theorem lin_ft {a b j : Nat} (hj : j < 256) {P Q : Pt Fp} (hP : cv.on P) (hQ : cv.on Q) (h1 : a.testBit (255 - j) = false) (h2 : b.testBit (255 - j) = true) : cv.lin (a / 2 ^ (256 - (j + 1))) (b / 2 ^ (256 - (j + 1))) P Q = cv.add (cv.add (cv.lin (a / 2 ^ (256 - j)) (b / 2 ^ (256 - j)) P Q) (cv.lin (a / 2 ^ (256 - j)) (b / 2 ^ (256 - j)) P Q)) Q := by
  rw [lin_step a b j hj hP hQ, h1, h2]; rfl
theorem lin_ff {a b j : Nat} (hj : j < 256) {P Q : Pt Fp} (hP : cv.on P) (hQ : cv.on Q) (h1 : a.testBit (255 - j) = false) (h2 : b.testBit (255 - j) = false) : cv.lin (a / 2 ^ (256 - (j + 1))) (b / 2 ^ (256 - (j + 1))) P Q = cv.add (cv.lin (a / 2 ^ (256 - j)) (b / 2 ^ (256 - j)) P Q) (cv.lin (a / 2 ^ (256 - j)) (b / 2 ^ (256 - j)) P Q) := by
  rw [lin_step a b j hj hP hQ, h1, h2]; rfl
theorem lin_first (a b : List UInt8) (ha : a.length = 32) (hb : b.length = 32) (P Q : Pt Fp) : (Wd.of (zero : Pt Fp)).rep (cv.lin (le a / 2 ^ (256 - 0)) (le b / 2 ^ (256 - 0)) P Q) := by
  have h1 := le32 ha
  have h2 := le32 hb
  rw [show 256 - 0 = 256 from rfl, Nat.div_eq_of_lt h1, Nat.div_eq_of_lt h2, cv.lin_zero]
  exact cv.rep_of zero
theorem lin_last (a b : Nat) (P Q : Pt Fp) : cv.lin (a / 2 ^ (256 - 256)) (b / 2 ^ (256 - 256)) P Q = cv.lin a b P Q := by rw [Nat.sub_self, Nat.pow_zero, Nat.div_one, Nat.div_one]
theorem lin_one (a : Nat) (P : Pt Fp) : cv.lin a 0 P zero = cv.mul a P := cv.add_zero _
/-- 8 times a point -/
def eight (P : Pt Fp) : Pt Fp := cv.add (cv.add (cv.add P P) (cv.add P P)) (cv.add (cv.add P P) (cv.add P P))
end Ed
end

section
namespace Hw
open Go
set_option linter.unusedSimpArgs false
set_option linter.unusedVariables false
set_option maxRecDepth 100000

/-- eight words, highest first -/
theorem lt_sp {n a b c : Nat} (h : n < 2 ^ c) (hc : a + b = c) : n < 2 ^ a * 2 ^ b := by subst hc; rw [← Nat.pow_add]; exact h
theorem top_sp {n a b c : Nat} (h : n < 2 ^ c) (hc : a + b = c) : n / 2 ^ a % 2 ^ b = n / 2 ^ a := Nat.mod_eq_of_lt (Nat.div_lt_of_lt_mul (lt_sp h hc))
theorem le_2p {a c : Nat} (h : a ≤ c) : 2 ^ a ≤ 2 ^ c := Nat.pow_le_pow_right (by decide) h
theorem pos_2p (c : Nat) : 0 < 2 ^ c := Nat.pow_pos (by decide)
def words8 (n : Nat) : List UInt64 := [448, 384, 320, 256, 192, 128, 64, 0].map fun e => w64 (n / 2 ^ e)
theorem words8_length (n : Nat) : (words8 n).length = 8 := rfl
theorem words8_zero : words8 0 = List.replicate 8 0 := by
  simp only [words8, List.map_cons, List.map_nil, Nat.zero_div]; rfl
theorem wvo8 (a b c d e f g h : UInt64) : wv [a, b, c, d, e, f, g, h] = ((((((a.toNat * 2 ^ 64 + b.toNat) * 2 ^ 64 + c.toNat) * 2 ^ 64 + d.toNat) * 2 ^ 64 + e.toNat) * 2 ^ 64 + f.toNat) * 2 ^ 64 + g.toNat) * 2 ^ 64 + h.toNat := by
  simp [wv]
theorem horner (n k : Nat) : n / 2 ^ (k + 64) * 2 ^ 64 + n / 2 ^ k % 2 ^ 64 = n / 2 ^ k := by
  rw [Nat.pow_add, ← Nat.div_div_eq_div_mul, Nat.mul_comm]
  exact Nat.div_add_mod _ _
theorem horn2 {n k m : Nat} (h : k + 64 = m) : n / 2 ^ m * 2 ^ 64 + n / 2 ^ k % 2 ^ 64 = n / 2 ^ k := by subst h; exact horner n k
theorem wv_words8 {n : Nat} (h : n < 2 ^ 512) : wv (words8 n) = n := by
  simp only [words8, List.map_cons, List.map_nil]
  rw [wvo8]
  simp only [w64_toNat]
  have h0 := top_sp (a := 448) (b := 64) h rfl
  rw [h0, horn2 (k := 384) (m := 448) rfl, horn2 (k := 320) (m := 384) rfl, horn2 (k := 256) (m := 320) rfl, horn2 (k := 192) (m := 256) rfl, horn2 (k := 128) (m := 192) rfl, horn2 (k := 64) (m := 128) rfl, horn2 (k := 0) (m := 64) rfl, Nat.pow_zero, Nat.div_one]
theorem words8_get (n : Nat) : ∀ j, j < 8 → (words8 n)[7 - j]? = some (w64 (n / 2 ^ (64 * j))) := fun j hj => by
  have e : ∀ j, j < 8 → ([448, 384, 320, 256, 192, 128, 64, 0] : List Nat)[7 - j]? = some (64 * j) := by decide
  rw [words8, List.getElem?_map, e j hj]; rfl
theorem pow256 (k : Nat) : 256 ^ k = 2 ^ (8 * k) := by rw [show (256 : Nat) = 2 ^ 8 by decide, ← Nat.pow_mul]
/-- one byte more -/
theorem words8_step (n k : Nat) (x : UInt8) (hn : n < 256 ^ k) (hk : k < 64) :
    words8 (n + 256 ^ k * x.toNat) = (words8 n).set (7 - k / 8) ((words8 n).getD (7 - k / 8) 0 ||| shl64 x.toUInt64 (8 * (k % 8))) := by
  have hx := x.toNat_lt
  apply List.ext_getElem?
  intro i
  rcases Nat.lt_or_ge i 8 with hi | hi
  · obtain ⟨j, hj, rfl⟩ : ∃ j, j < 8 ∧ i = 7 - j := ⟨7 - i, by omega, by omega⟩
    rw [words8_get _ j hj, List.getElem?_set, List.getD, words8_get _ (k / 8) oM, Option.getD_some]
    rw [pow256] at hn
    rcases Nat.lt_trichotomy j (k / 8) with h | h | h
    · rw [if_neg oM, words8_get _ j hj, pow256]
      congr 1
      apply UInt64.toNat_inj.1
      rw [w64_toNat, w64_toNat]
      have e : 2 ^ (8 * k) * x.toNat = 2 ^ (64 * j) * (2 ^ 64 * (2 ^ (8 * k - 64 * j - 64) * x.toNat)) := by
        rw [← Nat.mul_assoc, ← Nat.mul_assoc, ← Nat.pow_add, ← Nat.pow_add]
        congr 2; omega
      rw [e, Nat.add_mul_div_left _ _ (Nat.pow_pos dE), Nat.add_mul_mod_self_left]
    · subst h
      rw [if_pos rfl, if_pos (by rw [words8_length]; omega), pow256]
      congr 1
      apply UInt64.toNat_inj.1
      rw [UInt64.toNat_or, shl64_toNat, w64_toNat, w64_toNat, UInt8.toNat_toUInt64]
      have e : 2 ^ (8 * k) * x.toNat = 2 ^ (64 * (k / 8)) * (2 ^ (8 * (k % 8)) * x.toNat) := by
        rw [← Nat.mul_assoc, ← Nat.pow_add]
        congr 2; omega
      have hl : n / 2 ^ (64 * (k / 8)) < 2 ^ (8 * (k % 8)) := by
        apply Nat.div_lt_of_lt_mul
        rw [← Nat.pow_add]
        rw [show 64 * (k / 8) + 8 * (k % 8) = 8 * k by omega]; exact hn
      have hm : 8 * (k % 8) ≤ 56 := by omega
      have h8 : 2 ^ (8 * (k % 8)) ≤ 2 ^ 56 := Nat.pow_le_pow_right dE hm
      have hb : x.toNat * 2 ^ (8 * (k % 8)) < 2 ^ 64 := by
        calc x.toNat * 2 ^ (8 * (k % 8)) ≤ x.toNat * 2 ^ 56 := Nat.mul_le_mul_left _ h8
          _ < 2 ^ 64 := by omega
      rw [e, Nat.add_mul_div_left _ _ (Nat.pow_pos dE), Nat.mod_eq_of_lt hb, Nat.mod_eq_of_lt (Nat.lt_of_lt_of_le hl (Nat.le_trans h8 dE))]
      rw [Nat.mul_comm x.toNat, Nat.or_comm, ← Nat.two_pow_add_eq_or_of_lt hl, Nat.add_comm, Nat.mod_eq_of_lt]
      calc 2 ^ (8 * (k % 8)) * x.toNat + n / 2 ^ (64 * (k / 8)) < 2 ^ (8 * (k % 8)) * (x.toNat + 1) := by rw [Nat.mul_add]; omega
        _ ≤ 2 ^ (8 * (k % 8)) * 2 ^ 8 := Nat.mul_le_mul_left _ hx
        _ = 2 ^ (8 * (k % 8) + 8) := by rw [Nat.pow_add]
        _ ≤ 2 ^ 64 := Nat.pow_le_pow_right dE oM
    · rw [if_neg oM, words8_get _ j hj, pow256]
      congr 1
      have hp : 2 ^ (8 * (k + 1)) ≤ 2 ^ (64 * j) := Nat.pow_le_pow_right dE oM
      have h1 : n + 2 ^ (8 * k) * x.toNat < 2 ^ (8 * (k + 1)) := by
        rw [show 8 * (k + 1) = 8 * k + 8 by omega, Nat.pow_add]
        calc n + 2 ^ (8 * k) * x.toNat < 2 ^ (8 * k) * (x.toNat + 1) := by rw [Nat.mul_add]; omega
          _ ≤ 2 ^ (8 * k) * 2 ^ 8 := Nat.mul_le_mul_left _ hx
      rw [Nat.div_eq_of_lt (Nat.lt_of_lt_of_le h1 hp), Nat.div_eq_of_lt (Nat.lt_of_lt_of_le (Nat.lt_of_le_of_lt (Nat.le_add_right _ _) h1) hp)]
  · rw [List.getElem?_eq_none (by rw [words8_length]; exact hi), List.getElem?_eq_none (by rw [List.length_set, words8_length]; exact hi)]

theorem le_take_succ (l : List UInt8) (k : Nat) (h : k < l.length) : le (l.take (k + 1)) = le (l.take k) + 256 ^ k * (l.getD k 0).toNat := by
  rw [List.take_succ_eq_append_getElem h, le_append, List.length_take, Nat.min_eq_left oM]
  simp [le, List.getD, h]
theorem le_take_lt (l : List UInt8) (k : Nat) : le (l.take k) < 256 ^ k := by
  refine Nat.lt_of_lt_of_le (le_lt _) (Nat.pow_le_pow_right dE ?_)
  rw [List.length_take]; omega
theorem take_512 (l : List UInt8) (k : Nat) (h : k ≤ 64) : le (l.take k) < 2 ^ 512 := by
  refine Nat.lt_of_lt_of_le (le_take_lt l k) ?_
  rw [pow256]; exact le_2p (c := 512) (by omega)
theorem L_pos : 0 < L := by decide
theorem L_lt : L < 2 ^ 256 := by decide
theorem le_leb32 {n : Nat} (h : n < 2 ^ 256) : le (leb 32 n) = n := by
  rw [le_leb]; exact Nat.mod_eq_of_lt h
theorem lm (n : Nat) : n % L < 2 ^ 256 := Nat.lt_trans (Nat.mod_lt _ L_pos) L_lt
theorem le_byte (l : List UInt8) (k : Nat) : (l.getD k 0).toNat = le l / 256 ^ k % 256 := by
  rcases Nat.lt_or_ge k l.length with h | h
  · rw [le_drop l k (Nat.le_of_lt h)]
    have : l.drop k = l.getD k 0 :: l.drop (k + 1) := by
      rw [List.getD_eq_getElem?_getD, List.getElem?_eq_getElem h]
      exact List.drop_eq_getElem_cons h
    rw [this, le]
    have := (l.getD k 0).toNat_lt
    omega
  · rw [List.getD_eq_getElem?_getD, List.getElem?_eq_none h, Nat.div_eq_of_lt (Nat.lt_of_lt_of_le (le_lt l) (Nat.pow_le_pow_right dE h))]
    rfl
theorem le_bit (l : List UInt8) (k : Nat) : (l.getD (k / 8) 0).toNat / 2 ^ (k % 8) % 2 = le l / 2 ^ k % 2 := by
  rw [le_byte, pow256, show (256 : Nat) = 2 ^ (k % 8) * 2 ^ (8 - k % 8) by rw [← Nat.pow_add, show k % 8 + (8 - k % 8) = 8 by omega], Nat.mod_mul_right_div_self, Nat.div_div_eq_div_mul, ← Nat.pow_add, show 8 * (k / 8) + k % 8 = k by omega]
  exact Nat.mod_mod_of_dvd _ ⟨2 ^ (8 - k % 8 - 1), by rw [← Nat.pow_succ']; congr 1; omega⟩
theorem bit_and (l : List UInt8) (k : Nat) : (decide (((shr8 (l.getD (k / 8) 0) (k % 8) &&& 1).toNat : Int) = 1)) = (le l).testBit k := by
  rw [UInt8.toNat_and, shr8_toNat, show (1 : UInt8).toNat = 2 ^ 1 - 1 by decide, Nat.and_two_pow_sub_one_eq_mod, Nat.pow_one, le_bit, Nat.testBit_eq_decide_div_mod_eq]
  congr 1
  apply propext; omega
theorem bit_rem (l : List UInt8) (k : Nat) : (decide (((UInt8.ofNat ((shr8 (l.getD (k / 8) 0) (k % 8)).toNat % 2)).toNat : Int) = 1)) = (le l).testBit k := by
  rw [shr8_toNat, le_bit, UInt8.toNat_ofNat', Nat.testBit_eq_decide_div_mod_eq]
  congr 1
  apply propext; omega
end Hw
end

section
namespace Go.Proofs.YtpacobmjjjillaaGreat
open Go Hw
set_option linter.unusedVariables false
set_option linter.unusedSimpArgs false

theorem scalar_canon (a : List UInt8) (ha : a.length = 32) : Meets Tryz.prog 107 [agg (bytesV a)] [] (fun _ => True) (fun v out => v = .bool (decide (le a < L)) ∧ out = []) := by
 intro W hW
 refine calls_of (hp0 := []) Tryz.func107 J 7 Tryz.ntmps107 J (HRep.nil _) (Sat.seq (Sat.region (Tr.boxA J J ?_)))
 intro n1 hn1 hf1
 refine Tr.assign J J J (Tr.nil (at_n (Sat.seq (Sat.region (Tr.loadAll J J J Y77 J Sz77 Z0 (by (simp [ha]; done)) ?_)))))
 refine Tr.callV J J J J Body162 (scalar_load_n _ (by simp [ha])) (fun _ _ => trivial) ?_
 refine Tr.callV J J J J Body167 (scalar_modulus_n) (fun _ _ => trivial) (Tr.callV J J J J Body166 (scalar_below_n _ _ (le32 ha) L_lt) (fun _ _ => trivial) (Tr.assign J J J (Tr.nil (at_n (Sat.ret (en_r ?_))))))
 refine ⟨_, [], res_tmp J J, sP, sP, ?_, rfl⟩
 rfl

theorem scalar_rest (b o c n : Nat) (xs : List UInt8) (hx : xs.length = n) (hn : n ≤ 64) : Meets Tryz.prog 161 [.slice (some ⟨b, o, none⟩) n c] [] (fun W => Sees W b o (bytesV xs)) (fun v out => v = .tuple #[agg (bytesV (leb 32 (le xs % L))), i64 0] ∧ out = []) := by
 intro W hW
 refine calls_of (hp0 := []) Tryz.func161 J 34 Tryz.ntmps161 J (HRep.nil _) (Sat.seq (Sat.region (Tr.alloc (cs := (bytesV (List.replicate 32 0))) J Zr77 J ?_)))
 intro n2 hn2 hf2
 refine Tr.assign J J J (Tr.nil (at_n (Sat.seq (Sat.seq (Sat.region (Tr.move J J J (Tr.lenSl J J J Y39 (Tr.gtr J J J J (decide_eq_false oM) (Tr.nil (at_n (Sat.cond_f J (rfl) (Sat.skip (at_n (Sat.seq (Sat.region (Tr.alloc (cs := (wordsV (List.replicate 8 0))) J Zr135 J ?_))))))))))))))))
 intro n4 hn4 hf4
 refine Tr.nil (at_n (Sat.seq (Sat.seq (Sat.region (Tr.move J J J (Tr.lenSl J J J Y39 (Tr.move J J J (Tr.nil (at_n (Sat.block (Sat.loop (ι := Nat) (fun k => ⟨[(2, ptr n2 0), (4, ptr n4 0), (11, .slice (some ⟨b, o, none⟩) n c), (12, i64 (n : Int)), (13, i64 (k : Int))], [⟨n4, wordsV (words8 (le (xs.take k))), 135, 8⟩, ⟨n2, bytesV (List.replicate 32 0), 77, 32⟩]⟩) (fun k => k ≤ n) (fun k => n - k) (0) ?_ ?_ ?_)))))))))))
 · omega
 · exact weak_of (wk1 rfl (wk1 rfl (wk1 rfl (wk1 rfl (wk1 rfl wk0))))) (wh1 (by rw [List.take_zero, show le [] = 0 from rfl, words8_zero]; exact mem0) (wh1 Z1 wh0)) nD
 ·
  rintro k hi
  refine Sat.seq (Sat.region (Tr.lss J J J J J (Tr.nil (at_n (Sat.seq (Sat.condP J (fun hc1 => ?_) (fun hc1 => ?_)))))))
  ·
   refine Sat.skip (at_n (Sat.seq (Sat.block (Sat.seq (Sat.region (Tr.move J J J (Tr.idxSlO J J J J Y39 Sz5 _ J oM (Tr.loadE J J J Y5 J sP (hW _ _ (get_bytes oM)) (Tr.assign J J J (Tr.assign J J J (Tr.nil (at_n (Sat.draw [(0, 0), (0, 1), (0, 2), (0, 3), (1, 4), (0, 5), (0, 6), (0, 7), (0, 8), (0, 9), (0, 10), (0, 11), (0, 12), (4, 13)] Mixed zK (Tr.move J J J (Tr.quo_i64 J J J J oM (Tr.sub_i64 J J J J oM (Tr.idxArr1 J J J J Y135 Sz22 (7 - k / 8) oM oM (Tr.load1 J J J Y22 J Z0 (by exact get_words (by (simp [words8_length]; omega))) ?_))))))))))))))))))
   refine Tr.move J J J (Tr.conv J J J Y5 Y22 (cv_u8_u64 _) (Tr.move J J J (Tr.rem_i64 J J J J oM (Tr.mul_i64 J J J J oM (Tr.shl_u64 J J J J (8 * (k % 8)) oM oM (Tr.or_u64 J J J J (Tr.idxArr1 J J J J Y135 Sz22 (7 - k / 8) oM oM (Tr.store1 J J J J J Sz22 Z0 (by (simp [words8_length]; omega)) (by exact set_words _ _ _) zU ?_))))))))
   refine Tr.nil (bl_n (at_n (Sat.region (Tr.add_i64 J J J J oM (Tr.move J J J (Tr.nil (at_n ?_)))))))
   exact ⟨k + 1, by omega, by omega, weak_of (wk1 rfl (wk1 rfl (wk1 rfl (wk1 rfl (wk1 rfl wk0))))) (wh1 (by rw [le_take_succ xs k oM, words8_step _ _ _ (le_take_lt xs k) oM]; exact mem0) (wh1 Z1 wh0)) nD⟩
  ·
   obtain rfl : k = n := by omega
   refine Sat.exit (at_x (at_x (bl_h (at_n (Sat.seq (Sat.region (Tr.sliceArr J J J Y135 Sz22 (Tr.callV J J J J Body165 (scalar_residue _ _ _ 8 (words8 (le (xs.take k))) J oM) (fun W h => sees_own h Z0) ?_))))))))
   refine Tr.storeAll J J J J zB Sz77 (by (simp [leb_length]; done)) Z1 sP zV ?_
   refine Tr.assign J J J (Tr.nil (at_n (Sat.ret (en_r ?_))))
   refine ⟨_, [], res_cell_tmp J J J Y77 J Sz77 Z1 (by simp [leb_length]), sP, sP, ?_, rfl⟩
   rw [wv_words8 (take_512 xs k oM), List.take_of_length_le oM]

theorem scalar_bit_at (a : List UInt8) (ha : a.length = 32) (k : Nat) (hk : k < 256) : Meets Tryz.prog 182 [agg (bytesV a), i64 (k : Int)] [] (fun _ => True) (fun v out => v = .bool ((le a).testBit k) ∧ out = []) := by
 intro W hW
 refine calls_of (hp0 := []) Tryz.func182 J 22 Tryz.ntmps182 J (HRep.nil _) (Sat.seq (Sat.region (Tr.boxA J J ?_)))
 intro n2 hn2 hf2
 refine Tr.assign J J J (Tr.nil (at_n (Sat.seq (Sat.region (Tr.move J J J (Tr.geq J J J J (decide_eq_true oM) (Tr.move J J J (Tr.move J J J (Tr.lss J J J J (decide_eq_true oM) (Tr.pick J J J J J J (Tr.move J J J (Tr.move J J J (Tr.quo_i64 J J J J oM (Tr.idxArr1 J J J J Y77 Sz5 (k / 8) oM oM (Tr.load1 J J J Y5 J Z0 zG ?_)))))))))))))))
 refine Tr.move J J J (Tr.rem_i64 J J J J oM (Tr.shr_u8 J J J J (k % 8) oM oM (Tr.and_u8 J J J (show evIn _ _ = some (u8 1) from rfl) (Tr.eqi J J J J J (Tr.pick J J J J J J (Tr.assign J J J (Tr.nil (at_n (Sat.ret (en_r ?_))))))))))
 refine ⟨_, [], res_tmp J J, sP, sP, ?_, rfl⟩
 rw [← bit_and a k]; rfl

end Go.Proofs.YtpacobmjjjillaaGreat
end

section
namespace Go.Proofs.YtpacobmjjjillaaGreat
open Go Hw
set_option linter.unusedVariables false
set_option linter.unusedSimpArgs false

open Ed

/-- a point, and four numbers, in memory -/
def ptc (P : Pt Fp) : Point := ⟨fb P.x, fb P.y⟩
def wdc (w : Wd Fp) : wide := ⟨fb w.x, fb w.y, fb w.z, fb w.t⟩
theorem ptc_ok (P : Pt Fp) : (ptc P).ok := ⟨fb32 _, fb32 _⟩
theorem wdc_ok (w : Wd Fp) : (wdc w).ok := ⟨fb32 _, fb32 _, fb32 _, fb32 _⟩
theorem sees_subC {w : World} {b o off : Nat} {cs l : List Value} (hs : Sees w b o cs) (h : ∀ (j : Nat) (v : Value), l[j]? = some v → cs[off + j]? = some v) : Sees w b (o + off) l := fun j v hj => by
  have := hs _ v (h j v hj)
  rwa [← Nat.add_assoc] at this
theorem ptc_inj {P Q : Pt Fp} : ptc P = ptc Q ↔ P = Q := ⟨fun h => by
  obtain ⟨x, y⟩ := P
  obtain ⟨z, w⟩ := Q
  simp only [ptc, Point.mk.injEq, fb_inj] at h
  rw [h.1, h.2], fun h => by rw [h]⟩

theorem curve_D  : Meets Tryz.prog 173 [] [] (fun _ => True) (fun v out => v = agg (bytesV (fb fD)) ∧ out = []) := by
 intro W hW
 refine calls_of (hp0 := []) Tryz.func173 J 2 Tryz.ntmps173 J (HRep.nil _) (Sat.seq (Sat.region (Tr.alloc (cs := (bytesV (List.replicate 32 0))) J Zr77 J ?_)))
 intro n0 hn0 hf0
 refine Tr.nil (at_n (Sat.seq (Sat.region (Tr.build (cs := bytesV (fb fD)) J J J (fun w => by kernel_rfl) ?_))))
 refine Tr.storeAll J J J J zE Sz77 zF Z0 sP zU ?_
 refine Tr.nil (at_n (Sat.ret (en_r ?_)))
 refine ⟨_, [], res_cell J J Y77 J Sz77 Z0 (by simp [fb_length]), sP, sP, ?_, rfl⟩
 rfl

theorem curve_Zero  : Meets Tryz.prog 178 [] [] (fun _ => True) (fun v out => v = agg (ptc (zero : Pt Fp)).cells ∧ out = []) := by
 intro W hW
 refine calls_of (hp0 := []) Tryz.func178 J 3 Tryz.ntmps178 J (HRep.nil _) (Sat.seq (Sat.region (Tr.alloc (cs := Point.zero.cells) J Point.zr J ?_)))
 intro n0 hn0 hf0
 refine Tr.nil (at_n (Sat.seq (Sat.region (Tr.callV J J J J Body171 (f_one) (fun _ _ => trivial) (Tr.build (cs := (⟨fb 0, fb 1⟩ : Point).cells) J J J (fun w => by kernel_rfl) ?_)))))
 refine Tr.storeAll J J J J (Point.isCell (by exact ⟨fb32 _, fb32 _⟩)) Sz79 (Point.length (by exact ⟨fb32 _, fb32 _⟩)) Z0 (Point.length zZ) zU ?_
 refine Tr.nil (at_n (Sat.ret (en_r ?_)))
 refine ⟨_, [], res_cell J J Y79 J Sz79 Z0 (by exact Point.length (by exact ⟨fb32 _, fb32 _⟩)), sP, sP, ?_, rfl⟩
 rfl

theorem base_len {k : Nat} (h : k ≤ 32) : (bytesV (bX ++ (List.replicate k 102 ++ List.replicate (32 - k) 0))).length = 64 := by
  rw [bytesV, List.length_map, List.length_append, List.length_append, List.length_replicate, List.length_replicate, show bX.length = 32 from rfl]; omega
theorem base_step {k : Nat} (h : k < 32) : (bX ++ (List.replicate k (102 : UInt8) ++ List.replicate (32 - k) 0)).set (32 + k) 102 = bX ++ (List.replicate (k + 1) 102 ++ List.replicate (32 - (k + 1)) 0) := by
  rw [List.set_append_right _ _ (by rw [show bX.length = 32 from rfl]; omega), show bX.length = 32 from rfl, show 32 + k - 32 = k by omega, show 32 - k = (32 - (k + 1)) + 1 by omega, List.replicate_succ, List.set_append_right _ _ sP]
  simp [List.replicate_succ']
theorem base_end : bytesV ((bX ++ (List.replicate 32 (102 : UInt8) ++ List.replicate (32 - 32) 0)).set 32 88) = (ptc bP).cells := by
  show _ = bytesV (fb bP.x) ++ bytesV (fb bP.y)
  rw [bP_x, bP_y]
  kernel_rfl

theorem curve_Base  : Meets Tryz.prog 110 [] [] (fun _ => True) (fun v out => v = agg (ptc bP).cells ∧ out = []) := by
 intro W hW
 refine calls_of (hp0 := []) Tryz.func110 J 15 Tryz.ntmps110 J (HRep.nil _) (Sat.seq (Sat.region (Tr.alloc (cs := Point.zero.cells) J Point.zr J ?_)))
 intro n0 hn0 hf0
 refine Tr.nil (at_n (Sat.seq (Sat.region (Tr.build (cs := bytesV bX) J J J (fun w => by kernel_rfl) ?_))))
 refine Tr.build (cs := (⟨bX, List.replicate 32 0⟩ : Point).cells) J J J (fun w => by kernel_rfl) ?_
 refine Tr.alloc (cs := Point.zero.cells) J Point.zr J ?_
 intro n1 hn1 hf1
 refine Tr.storeAll J J J J (Point.isCell (by exact ⟨rfl, rfl⟩)) Sz79 (Point.length (by exact ⟨rfl, rfl⟩)) Z0 (Point.length (by exact ⟨rfl, rfl⟩)) zU ?_
 refine Tr.nil (at_n (Sat.seq (Sat.seq (Sat.region (Tr.move J J J (Tr.nil (at_n (Sat.block (Sat.loop (ι := Nat) (fun k => ⟨[(0, ptr n0 0), (1, ptr n1 0), (5, i64 (k : Int))], [⟨n1, bytesV (bX ++ (List.replicate k 102 ++ List.replicate (32 - k) 0)), 79, 64⟩, ⟨n0, Point.zero.cells, 79, 64⟩]⟩) (fun k => k ≤ 32) (fun k => 32 - k) (0) ?_ ?_ ?_)))))))))
 · omega
 · exact weak_of (wk1 rfl (wk1 rfl (wk1 rfl wk0))) (wh1 (by rw [show bytesV (bX ++ (List.replicate 0 102 ++ List.replicate (32 - 0) 0)) = (⟨bX, List.replicate 32 0⟩ : Point).cells from by kernel_rfl]; exact mem0) (wh1 Z1 wh0)) nD
 ·
  rintro k hi
  refine Sat.seq (Sat.region (Tr.lss J J J J J (Tr.nil (at_n (Sat.seq (Sat.condP J (fun hc0 => ?_) (fun hc0 => ?_)))))))
  ·
   have hk2 : k < 32 := by omega
   refine Sat.skip (at_n (Sat.seq (Sat.block (Sat.seq (Sat.region (Tr.move J J J (Tr.assign J J J (Tr.nil (at_n (Sat.region (Tr.move J J J (Tr.fld J J J Y79 J Sz77 dE _ J (Tr.idxArrO J J J J Y77 Sz5 k J oM (Tr.store1 J J J J J Sz5 Z0 (by rw [base_len oM]; exact (show 32 + k < 64 by omega)) (by exact set_bytes _ (32 + k) 102) zU ?_))))))))))))))
   refine Tr.nil (bl_n (at_n (Sat.region (Tr.add_i64 J J J J oM (Tr.move J J J (Tr.nil (at_n ?_)))))))
   exact ⟨k + 1, by omega, by omega, weak_of (wk1 rfl (wk1 rfl (wk1 rfl wk0))) (wh1 (by rw [← base_step hk2]; exact mem0) (wh1 Z1 wh0)) nD⟩
  ·
   obtain rfl : k = 32 := by omega
   refine Sat.exit (at_x (at_x (bl_h (at_n (Sat.seq (Sat.region (Tr.fld J J J Y79 J Sz77 dE _ J (Tr.idxArrO J J J J Y77 Sz5 0 J dE (Tr.store1 J J J J J Sz5 Z0 (by rw [base_len oM]; exact (show 32 + 0 < 64 by decide)) (by exact set_bytes _ (32 + 0) 88) zU ?_)))))))))
   rw [base_end]
   refine Tr.nil (at_n (Sat.seq (Sat.region (Tr.loadAll J J J Y79 J Sz79 Z0 (Point.length zP) ?_))))
   refine Tr.storeAll J J J J (Point.isCell zP) Sz79 (Point.length zP) Z1 (Point.length (by exact ⟨rfl, rfl⟩)) zV ?_
   refine Tr.nil (at_n (Sat.ret (en_r ?_)))
   refine ⟨_, [], res_cell J J Y79 J Sz79 Z1 (by exact Point.length zP), sP, sP, ?_, rfl⟩
   rfl

theorem curve_Check (p : Point) (hp : p.ok) : Meets Tryz.prog 177 [agg p.cells] [] (fun _ => True) (fun v out => v = i64 (pchk p.fX p.fY) ∧ out = []) := by
 intro W hW
 refine calls_of (hp0 := []) Tryz.func177 J 38 Tryz.ntmps177 J (HRep.nil _) (Sat.seq (Sat.region (Tr.boxA J J ?_)))
 intro n1 hn1 hf1
 refine Tr.assign J J J (Tr.nil (at_n (Sat.seq (Sat.seq (Sat.region (Tr.fld J J J Y79 J Sz77 dE _ J (Tr.loadN (bytesV _) J J J Y77 J Sz77 Z0 (Point.row_fX (by exact hp)) (Point.rl_fX (by exact hp)) ?_)))))))
 refine Tr.callB J J J J Body168 (field_Canon p.fX hp.l_fX) (fun _ _ => trivial) (fun hs1_20 => ?_) (fun hs1_20 => ?_)
 ·
  have hs1_2 := of_decide_eq_true hs1_20
  refine Tr.not J J J (Tr.move J J J (Tr.fld J J J Y79 J Sz77 dE _ J (Tr.loadN (bytesV _) J J J Y77 J Sz77 Z0 (Point.row_fY (by exact hp)) (Point.rl_fY (by exact hp)) ?_)))
  refine Tr.callB J J J J Body168 (field_Canon p.fY hp.l_fY) (fun _ _ => trivial) (fun hs1_70 => ?_) (fun hs1_70 => ?_)
  ·
   have hs1_7 := of_decide_eq_true hs1_70
   refine Tr.not J J J (Tr.pick J J J J J J (Tr.nil (at_n (Sat.cond_f J J (Sat.skip (at_n (Sat.seq (Sat.draw [(0, 0), (1, 1), (0, 2), (1, 3), (0, 5), (1, 6), (0, 7), (1, 8), (3, 4), (3, 9), (2, 10), (2, 11), (4, 12), (4, 13)] Mixed zK (Tr.fld J J J Y79 J Sz77 dE _ J (Tr.loadN (bytesV _) J J J Y77 J Sz77 Z0 (Point.row_fX (by exact hp)) (Point.rl_fX (by exact hp)) ?_))))))))))
   refine Tr.fld J J J Y79 J Sz77 dE _ J (Tr.loadN (bytesV _) J J J Y77 J Sz77 Z0 (Point.row_fX (by exact hp)) (Point.rl_fX (by exact hp)) ?_)
   refine Tr.fld J J J Y79 J Sz77 dE _ J (Tr.loadN (bytesV _) J J J Y77 J Sz77 Z0 (Point.row_fY (by exact hp)) (Point.rl_fY (by exact hp)) ?_)
   refine Tr.fld J J J Y79 J Sz77 dE _ J (Tr.loadN (bytesV _) J J J Y77 J Sz77 Z0 (Point.row_fY (by exact hp)) (Point.rl_fY (by exact hp)) ?_)
   refine Tr.callV J J J J Body169 (field_Mul p.fX p.fX hp.l_fX hp.l_fX) (fun _ _ => trivial) (Tr.callV J J J J Body169 (field_Mul p.fY p.fY hp.l_fY hp.l_fY) (fun _ _ => trivial) (Tr.alloc (cs := (bytesV (List.replicate 32 0))) J Zr77 J ?_))
   intro n3 hn3 hf3
   refine Tr.alloc (cs := (bytesV (List.replicate 32 0))) J Zr77 J ?_
   intro n4 hn4 hf4
   refine Tr.storeAll J J J J zE Sz77 zF Z1 sP zV ?_
   refine Tr.storeAll J J J J zE Sz77 zF Z0 sP zU ?_
   refine Tr.nil (at_n (Sat.seq (Sat.draw [(1, 2), (1, 3), (3, 0), (3, 1), (3, 4), (3, 5), (3, 6), (2, 7), (4, 8)] Mixed zK (Tr.loadAll J J J Y77 J Sz77 Z1 zF ?_))))
   refine Tr.loadAll J J J Y77 J Sz77 Z0 zF ?_
   refine Tr.callV J J J J Body171 (f_one) (fun _ _ => trivial) (Tr.callV J J J J Body173 (curve_D) (fun _ _ => trivial) (Tr.callV J J J J Body169 (f_mul _ _) (fun _ _ => trivial) (Tr.callV J J J J Body169 (f_mul _ _) (fun _ _ => trivial) (Tr.callV J J J J Body172 (f_add _ _) (fun _ _ => trivial) (Tr.alloc (cs := (bytesV (List.replicate 32 0))) J Zr77 J ?_)))))
   intro n5 hn5 hf5
   refine Tr.storeAll J J J J zE Sz77 zF Z0 sP zU ?_
   refine Tr.nil (at_n (Sat.seq (Sat.seq (Sat.draw [(1, 0), (1, 1), (1, 3), (3, 2), (0, 4)] Mixed zK (Tr.loadAll J J J Y77 J Sz77 Z1 zF ?_)))))
   refine Tr.loadAll J J J Y77 J Sz77 Z2 zF ?_
   refine Tr.loadAll J J J Y77 J Sz77 Z0 zF ?_
   refine Tr.callV J J J J Body170 (f_sub _ _) (fun _ _ => trivial) (Tr.neq_bytes J J J J Tryz.eqGuardType77 Y77 Y5 Sz5 zF zF J (Tr.nil (at_n (Sat.condNP J (fun hc1 => ?_) (fun hc1 => ?_)))))
   ·
    refine Sat.seq (Sat.region (Tr.assign J J J (Tr.nil (at_n (Sat.ret (at_r (en_r ?_)))))))
    refine ⟨_, [], res_tmp J J, sP, sP, ?_, rfl⟩
    unfold pchk
    exact congrArg i64 (if_neg (fun h => by exact hc1 (fb_inj.2 h.2.2))).symm
   ·
    refine Sat.skip (at_n (Sat.seq (Sat.region (Tr.assign J J J (Tr.nil (at_n (Sat.ret (en_r ?_))))))))
    refine ⟨_, [], res_tmp J J, sP, sP, ?_, rfl⟩
    unfold pchk
    exact congrArg i64 (if_pos ⟨hs1_2, hs1_7, fb_inj.1 hc1⟩).symm
  ·
   have hs1_7 := of_decide_eq_false hs1_70
   refine Tr.not J J J (Tr.pick J J J J J J (Tr.nil (at_n (Sat.cond_t J J (Sat.seq (Sat.region (Tr.assign J J J (Tr.nil (at_n (Sat.ret (at_r (en_r ?_))))))))))))
   refine ⟨_, [], res_tmp J J, sP, sP, ?_, rfl⟩
   unfold pchk
   exact congrArg i64 (if_neg (fun h => by exact hs1_7 h.2.1)).symm
 ·
  have hs1_2 := of_decide_eq_false hs1_20
  refine Tr.not J J J (Tr.move J J J (Tr.skp J J (Tr.skp J J (Tr.skp J J (Tr.skp J J (Tr.pick J J J J J J (Tr.nil (at_n (Sat.cond_t J J (Sat.seq (Sat.region (Tr.assign J J J (Tr.nil (at_n (Sat.ret (at_r (en_r ?_)))))))))))))))))
  refine ⟨_, [], res_tmp J J, sP, sP, ?_, rfl⟩
  unfold pchk
  exact congrArg i64 (if_neg (fun h => by exact hs1_2 h.1)).symm

theorem curve_Check_on (P : Pt Fp) (h : cv.on P) : Meets Tryz.prog 177 [agg (ptc P).cells] [] (fun _ => True) (fun v out => v = i64 0 ∧ out = []) := by
  have h1 := curve_Check (ptc P) (ptc_ok P)
  rwa [show pchk (ptc P).fX (ptc P).fY = 0 from pchk_on h] at h1

theorem curve_widen (P : Pt Fp) : Meets Tryz.prog 179 [agg (ptc P).cells] [] (fun _ => True) (fun v out => v = agg (wdc (Wd.of P)).cells ∧ out = []) := by
 intro W hW
 refine calls_of (hp0 := []) Tryz.func179 J 14 Tryz.ntmps179 J (HRep.nil _) (Sat.seq (Sat.region (Tr.boxA J J ?_)))
 intro n1 hn1 hf1
 refine Tr.alloc (cs := wide.zero.cells) J wide.zr J ?_
 intro n2 hn2 hf2
 refine Tr.nil (at_n (Sat.seq (Sat.draw [(0, 0), (1, 1), (0, 2), (1, 3), (0, 5), (1, 6), (0, 7), (1, 8), (3, 4), (3, 9), (0, 10), (4, 11)] Mixed zK (Tr.fld J J J Y79 J Sz77 dE _ J (Tr.loadN (bytesV _) J J J Y77 J Sz77 Z1 (Point.row_fX zP) (Point.rl_fX zP) ?_)))))
 refine Tr.fld J J J Y79 J Sz77 dE _ J (Tr.loadN (bytesV _) J J J Y77 J Sz77 Z1 (Point.row_fY zP) (Point.rl_fY zP) ?_)
 refine Tr.fld J J J Y79 J Sz77 dE _ J (Tr.loadN (bytesV _) J J J Y77 J Sz77 Z1 (Point.row_fX zP) (Point.rl_fX zP) ?_)
 refine Tr.fld J J J Y79 J Sz77 dE _ J (Tr.loadN (bytesV _) J J J Y77 J Sz77 Z1 (Point.row_fY zP) (Point.rl_fY zP) ?_)
 refine Tr.callV J J J J Body171 (f_one) (fun _ _ => trivial) (Tr.callV J J J J Body169 (f_mul P.x P.y) (fun _ _ => trivial) (Tr.build (cs := (wdc (Wd.of P)).cells) J J J (fun w => by kernel_rfl) ?_))
 refine Tr.storeAll J J J J (wide.isCell (by exact wdc_ok _)) Sz168 (wide.length (by exact wdc_ok _)) Z0 (wide.length (by exact wide.zero_ok)) zU ?_
 refine Tr.nil (at_n (Sat.ret (en_r ?_)))
 refine ⟨_, [], res_cell J J Tryz.underlying168 J Sz168 Z0 (by exact wide.length (by exact wdc_ok _)), sP, sP, ?_, rfl⟩
 rfl

theorem wide_point (n : Nat) (w : Wd Fp) : Meets Tryz.prog 183 [ptr n 0] [] (fun W => Sees W n 0 (wdc w).cells) (fun v out => v = agg (ptc (⟨w.x * finv w.z, w.y * finv w.z⟩ : Pt Fp)).cells ∧ out = []) := by
 intro W hW
 have hinv := f_inv w.z
 revert hinv
 generalize finv w.z = iz
 intro hinv
 refine calls_of (hp0 := []) Tryz.func183 J 22 Tryz.ntmps183 J (HRep.nil _) (Sat.seq (Sat.region (Tr.alloc (cs := Point.zero.cells) J Point.zr J ?_)))
 intro n2 hn2 hf2
 refine Tr.nil (at_n (Sat.seq (Sat.region (Tr.move J J J (Tr.nilChk J J J (Tr.fld J J J Tryz.underlying168 J Sz77 dE _ J (Tr.loadEN (bytesV (fb w.z)) J J J Y77 J Sz77 sP (by rw [bytesV, List.length_map, fb_length]) (sees_subC hW (wide.see_fZ (wdc_ok w))) ?_)))))))
 refine Tr.callV J J J J Body175 (hinv) (fun _ _ => trivial) (Tr.alloc (cs := (bytesV (List.replicate 32 0))) J Zr77 J ?_)
 intro n3 hn3 hf3
 refine Tr.storeAll J J J J zE Sz77 zF Z0 sP zU ?_
 refine Tr.nil (at_n (Sat.seq (Sat.draw [(0, 0), (0, 1), (0, 2), (1, 3), (1, 4), (0, 6), (0, 7), (0, 8), (1, 9), (1, 10), (3, 5), (3, 11), (0, 12), (4, 13)] Mixed zK (Tr.move J J J (Tr.nilChk J J J (Tr.fld J J J Tryz.underlying168 J Sz77 dE _ J (Tr.loadEN (bytesV (fb w.x)) J J J Y77 J Sz77 sP (by rw [bytesV, List.length_map, fb_length]) (sees_subC hW (wide.see_fX (wdc_ok w))) ?_)))))))
 refine Tr.loadAll J J J Y77 J Sz77 Z0 zF ?_
 refine Tr.move J J J (Tr.nilChk J J J (Tr.fld J J J Tryz.underlying168 J Sz77 dE _ J (Tr.loadEN (bytesV (fb w.y)) J J J Y77 J Sz77 sP (by rw [bytesV, List.length_map, fb_length]) (sees_subC hW (wide.see_fY (wdc_ok w))) ?_)))
 refine Tr.loadAll J J J Y77 J Sz77 Z0 zF ?_
 refine Tr.callV J J J J Body169 (f_mul _ _) (fun _ _ => trivial) (Tr.callV J J J J Body169 (f_mul _ _) (fun _ _ => trivial) (Tr.build (cs := (ptc (⟨w.x * iz, w.y * iz⟩ : Pt Fp)).cells) J J J (fun w => by kernel_rfl) ?_))
 refine Tr.storeAll J J J J (Point.isCell zP) Sz79 (Point.length zP) Z1 (Point.length zZ) zV ?_
 refine Tr.nil (at_n (Sat.ret (en_r ?_)))
 refine ⟨_, [], res_cell J J Y79 J Sz79 Z1 (by exact Point.length zP), sP, sP, ?_, rfl⟩
 rfl

theorem wide_finish (n : Nat) (w : Wd Fp) (e f g h : Fp) : Meets Tryz.prog 228 [ptr n 0, agg (bytesV (fb e)), agg (bytesV (fb f)), agg (bytesV (fb g)), agg (bytesV (fb h))] [n] (fun W => BlkOk W ⟨n, (wdc w).cells, 168, 128⟩) (fun v out => out = [⟨n, (wdc (Wd.fin e f g h)).cells, 168, 128⟩]) := by
 intro W hW
 refine calls_of (hp0 := [⟨n, (wdc w).cells, 168, 128⟩]) Tryz.func228 J 34 Tryz.ntmps228 J (HRep.one hW) (Sat.seq (Sat.region (Tr.boxA J J ?_)))
 intro n6 hn6 hf6
 refine Tr.boxA J J ?_
 intro n7 hn7 hf7
 refine Tr.boxA J J ?_
 intro n8 hn8 hf8
 refine Tr.boxA J J ?_
 intro n9 hn9 hf9
 refine Tr.nil (at_n (Sat.seq (Sat.draw [(0, 0), (0, 1), (1, 2), (1, 3), (1, 5), (1, 6), (3, 4), (3, 7), (0, 8), (0, 9), (4, 10), (0, 11), (0, 12), (4, 13)] Mixed zK (Tr.move J J J (Tr.move J J J (Tr.loadAll J J J Y77 J Sz77 Z3 zF ?_))))))
 refine Tr.loadAll J J J Y77 J Sz77 Z2 zF ?_
 refine Tr.loadAll J J J Y77 J Sz77 Z1 zF ?_
 refine Tr.loadAll J J J Y77 J Sz77 Z0 zF ?_
 refine Tr.callV J J J J Body169 (f_mul _ _) (fun _ _ => trivial) (Tr.callV J J J J Body169 (f_mul _ _) (fun _ _ => trivial) (Tr.nilChk J J J (Tr.fld J J J Tryz.underlying168 J Sz77 dE _ J (Tr.storeN (bytesV _) J J J J J zE Sz77 (by simp [fb_length]) Z4 (by rw [wide.length (by exact wdc_ok _)]; simp [fb_length]) (wide.upd_fX (by exact wdc_ok _) _ (by simp [fb_length])) (by exact upd4) ?_))))
 refine Tr.nilChk J J J (Tr.fld J J J Tryz.underlying168 J Sz77 dE _ J (Tr.storeN (bytesV _) J J J J J zE Sz77 (by simp [fb_length]) Z4 (by rw [wide.length (by exact ⟨fb32 _, fb32 _, fb32 _, fb32 _⟩)]; simp [fb_length]) (wide.upd_fY (by exact ⟨fb32 _, fb32 _, fb32 _, fb32 _⟩) _ (by simp [fb_length])) (by exact upd4) ?_))
 refine Tr.nil (at_n (Sat.draw [(0, 0), (0, 1), (1, 2), (1, 3), (1, 5), (1, 6), (3, 4), (3, 7), (0, 8), (0, 9), (4, 10), (0, 11), (0, 12), (4, 13)] Mixed zK (Tr.move J J J (Tr.move J J J (Tr.loadAll J J J Y77 J Sz77 Z2 zF ?_)))))
 refine Tr.loadAll J J J Y77 J Sz77 Z1 zF ?_
 refine Tr.loadAll J J J Y77 J Sz77 Z3 zF ?_
 refine Tr.loadAll J J J Y77 J Sz77 Z0 zF ?_
 refine Tr.callV J J J J Body169 (f_mul _ _) (fun _ _ => trivial) (Tr.callV J J J J Body169 (f_mul _ _) (fun _ _ => trivial) (Tr.nilChk J J J (Tr.fld J J J Tryz.underlying168 J Sz77 dE _ J (Tr.storeN (bytesV _) J J J J J zE Sz77 (by simp [fb_length]) Z4 (by rw [wide.length (by exact ⟨fb32 _, fb32 _, fb32 _, fb32 _⟩)]; simp [fb_length]) (wide.upd_fZ (by exact ⟨fb32 _, fb32 _, fb32 _, fb32 _⟩) _ (by simp [fb_length])) (by exact upd4) ?_))))
 refine Tr.nilChk J J J (Tr.fld J J J Tryz.underlying168 J Sz77 dE _ J (Tr.storeN (bytesV _) J J J J J zE Sz77 (by simp [fb_length]) Z4 (by rw [wide.length (by exact ⟨fb32 _, fb32 _, fb32 _, fb32 _⟩)]; simp [fb_length]) (wide.upd_fT (by exact ⟨fb32 _, fb32 _, fb32 _, fb32 _⟩) _ (by simp [fb_length])) (by exact upd4) ?_))
 refine Tr.nil (en_n ?_)
 exact ⟨_, [⟨n, (wdc (Wd.fin e f g h)).cells, 168, 128⟩], res_none rfl, (fun b hb => by rw [List.mem_singleton.1 hb]; exact Z4), nodup1, rfl⟩

theorem wide_add (n q : Nat) (w p : Wd Fp) (tw : Fp) : Meets Tryz.prog 180 [ptr n 0, ptr q 0, agg (bytesV (fb tw))] [n] (fun W => BlkOk W ⟨n, (wdc w).cells, 168, 128⟩ ∧ Sees W q 0 (wdc p).cells ∧ q ≠ n) (fun v out => out = [⟨n, (wdc (Wd.fin ((w.y + w.x) * (p.y + p.x) - (w.y - w.x) * (p.y - p.x)) (w.z * p.z + w.z * p.z - w.t * tw * p.t) (w.z * p.z + w.z * p.z + w.t * tw * p.t) ((w.y + w.x) * (p.y + p.x) + (w.y - w.x) * (p.y - p.x)))).cells, 168, 128⟩]) := by
 intro W hW
 refine calls_of (hp0 := [⟨n, (wdc w).cells, 168, 128⟩]) Tryz.func180 J 85 Tryz.ntmps180 J (HRep.one hW.1) (Sat.seq (Sat.region (Tr.boxA J J ?_)))
 intro n5 hn5 hf5
 refine Tr.nil (at_n (Sat.seq (Sat.draw [(0, 0), (0, 1), (0, 2), (1, 3), (0, 4), (0, 5), (0, 6), (1, 7), (0, 9), (0, 10), (0, 11), (1, 12), (0, 13), (0, 14), (0, 15), (1, 16), (3, 8), (3, 17), (3, 18), (2, 19), (4, 20)] Mixed zK (Tr.move J J J (Tr.nilChk J J J (Tr.fld J J J Tryz.underlying168 J Sz77 dE _ J (Tr.loadN (bytesV _) J J J Y77 J Sz77 Z1 (wide.row_fY (by exact wdc_ok _)) (wide.rl_fY (by exact wdc_ok _)) ?_)))))))
 refine Tr.move J J J (Tr.nilChk J J J (Tr.fld J J J Tryz.underlying168 J Sz77 dE _ J (Tr.loadN (bytesV _) J J J Y77 J Sz77 Z1 (wide.row_fX (by exact wdc_ok _)) (wide.rl_fX (by exact wdc_ok _)) ?_)))
 refine Tr.move J J J (Tr.nilChk J J J (Tr.fld J J J Tryz.underlying168 J Sz77 dE _ J (Tr.loadEN (bytesV (fb p.y)) J J J Y77 J Sz77 (by simp; exact hW.2.2) (by rw [bytesV, List.length_map, fb_length]) (sees_subC hW.2.1 (wide.see_fY (wdc_ok p))) ?_)))
 refine Tr.move J J J (Tr.nilChk J J J (Tr.fld J J J Tryz.underlying168 J Sz77 dE _ J (Tr.loadEN (bytesV (fb p.x)) J J J Y77 J Sz77 (by simp; exact hW.2.2) (by rw [bytesV, List.length_map, fb_length]) (sees_subC hW.2.1 (wide.see_fX (wdc_ok p))) ?_)))
 refine Tr.callV J J J J Body170 (f_sub _ _) (fun _ _ => trivial) (Tr.callV J J J J Body170 (f_sub _ _) (fun _ _ => trivial) (Tr.callV J J J J Body169 (f_mul _ _) (fun _ _ => trivial) (Tr.alloc (cs := (bytesV (List.replicate 32 0))) J Zr77 J ?_)))
 intro n6 hn6 hf6
 refine Tr.storeAll J J J J zE Sz77 zF Z0 sP zU ?_
 refine Tr.nil (at_n (Sat.seq (Sat.draw [(0, 0), (0, 1), (0, 2), (1, 3), (0, 4), (0, 5), (0, 6), (1, 7), (0, 9), (0, 10), (0, 11), (1, 12), (0, 13), (0, 14), (0, 15), (1, 16), (3, 8), (3, 17), (3, 18), (2, 19), (4, 20)] Mixed zK (Tr.move J J J (Tr.nilChk J J J (Tr.fld J J J Tryz.underlying168 J Sz77 dE _ J (Tr.loadN (bytesV _) J J J Y77 J Sz77 Z2 (wide.row_fY (by exact wdc_ok _)) (wide.rl_fY (by exact wdc_ok _)) ?_)))))))
 refine Tr.move J J J (Tr.nilChk J J J (Tr.fld J J J Tryz.underlying168 J Sz77 dE _ J (Tr.loadN (bytesV _) J J J Y77 J Sz77 Z2 (wide.row_fX (by exact wdc_ok _)) (wide.rl_fX (by exact wdc_ok _)) ?_)))
 refine Tr.move J J J (Tr.nilChk J J J (Tr.fld J J J Tryz.underlying168 J Sz77 dE _ J (Tr.loadEN (bytesV (fb p.y)) J J J Y77 J Sz77 (by simp; exact hW.2.2) (by rw [bytesV, List.length_map, fb_length]) (sees_subC hW.2.1 (wide.see_fY (wdc_ok p))) ?_)))
 refine Tr.move J J J (Tr.nilChk J J J (Tr.fld J J J Tryz.underlying168 J Sz77 dE _ J (Tr.loadEN (bytesV (fb p.x)) J J J Y77 J Sz77 (by simp; exact hW.2.2) (by rw [bytesV, List.length_map, fb_length]) (sees_subC hW.2.1 (wide.see_fX (wdc_ok p))) ?_)))
 refine Tr.callV J J J J Body172 (f_add _ _) (fun _ _ => trivial) (Tr.callV J J J J Body172 (f_add _ _) (fun _ _ => trivial) (Tr.callV J J J J Body169 (f_mul _ _) (fun _ _ => trivial) (Tr.alloc (cs := (bytesV (List.replicate 32 0))) J Zr77 J ?_)))
 intro n7 hn7 hf7
 refine Tr.storeAll J J J J zE Sz77 zF Z0 sP zU ?_
 refine Tr.nil (at_n (Sat.seq (Sat.draw [(0, 0), (0, 1), (0, 2), (1, 3), (1, 4), (0, 6), (0, 7), (0, 8), (1, 9), (3, 5), (3, 10), (2, 11), (4, 12)] Mixed zK (Tr.move J J J (Tr.nilChk J J J (Tr.fld J J J Tryz.underlying168 J Sz77 dE _ J (Tr.loadN (bytesV _) J J J Y77 J Sz77 Z3 (wide.row_fT (by exact wdc_ok _)) (wide.rl_fT (by exact wdc_ok _)) ?_)))))))
 refine Tr.loadAll J J J Y77 J Sz77 Z2 zF ?_
 refine Tr.move J J J (Tr.nilChk J J J (Tr.fld J J J Tryz.underlying168 J Sz77 dE _ J (Tr.loadEN (bytesV (fb p.t)) J J J Y77 J Sz77 (by simp; exact hW.2.2) (by rw [bytesV, List.length_map, fb_length]) (sees_subC hW.2.1 (wide.see_fT (wdc_ok p))) ?_)))
 refine Tr.callV J J J J Body169 (f_mul _ _) (fun _ _ => trivial) (Tr.callV J J J J Body169 (f_mul _ _) (fun _ _ => trivial) (Tr.alloc (cs := (bytesV (List.replicate 32 0))) J Zr77 J ?_))
 intro n8 hn8 hf8
 refine Tr.storeAll J J J J zE Sz77 zF Z0 sP zU ?_
 refine Tr.nil (at_n (Sat.seq (Sat.draw [(0, 0), (0, 1), (0, 2), (1, 3), (0, 4), (0, 5), (0, 6), (1, 7), (3, 8), (2, 9), (4, 10)] Mixed zK (Tr.move J J J (Tr.nilChk J J J (Tr.fld J J J Tryz.underlying168 J Sz77 dE _ J (Tr.loadN (bytesV _) J J J Y77 J Sz77 Z4 (wide.row_fZ (by exact wdc_ok _)) (wide.rl_fZ (by exact wdc_ok _)) ?_)))))))
 refine Tr.move J J J (Tr.nilChk J J J (Tr.fld J J J Tryz.underlying168 J Sz77 dE _ J (Tr.loadEN (bytesV (fb p.z)) J J J Y77 J Sz77 (by simp; exact hW.2.2) (by rw [bytesV, List.length_map, fb_length]) (sees_subC hW.2.1 (wide.see_fZ (wdc_ok p))) ?_)))
 refine Tr.callV J J J J Body169 (f_mul _ _) (fun _ _ => trivial) (Tr.alloc (cs := (bytesV (List.replicate 32 0))) J Zr77 J ?_)
 intro n9 hn9 hf9
 refine Tr.storeAll J J J J zE Sz77 zF Z0 sP zU ?_
 refine Tr.nil (at_n (Sat.seq (Sat.region (Tr.loadAll J J J Y77 J Sz77 Z0 zF ?_))))
 refine Tr.loadAll J J J Y77 J Sz77 Z0 zF ?_
 refine Tr.callV J J J J Body172 (f_add _ _) (fun _ _ => trivial) (Tr.storeAll J J J J zE Sz77 zF Z0 zF zU ?_)
 refine Tr.nil (at_n (Sat.draw [(0, 0), (1, 1), (1, 2), (1, 4), (1, 5), (1, 7), (1, 8), (1, 10), (1, 11), (3, 3), (3, 6), (3, 9), (3, 12), (4, 13)] Mixed zK (Tr.move J J J (Tr.loadAll J J J Y77 J Sz77 Z2 zF ?_))))
 refine Tr.loadAll J J J Y77 J Sz77 Z3 zF ?_
 refine Tr.loadAll J J J Y77 J Sz77 Z0 zF ?_
 refine Tr.loadAll J J J Y77 J Sz77 Z1 zF ?_
 refine Tr.loadAll J J J Y77 J Sz77 Z0 zF ?_
 refine Tr.loadAll J J J Y77 J Sz77 Z1 zF ?_
 refine Tr.loadAll J J J Y77 J Sz77 Z2 zF ?_
 refine Tr.loadAll J J J Y77 J Sz77 Z3 zF ?_
 refine Tr.callV J J J J Body170 (f_sub _ _) (fun _ _ => trivial) (Tr.callV J J J J Body170 (f_sub _ _) (fun _ _ => trivial) (Tr.callV J J J J Body172 (f_add _ _) (fun _ _ => trivial) (Tr.callV J J J J Body172 (f_add _ _) (fun _ _ => trivial) (Tr.callL (L := [⟨n, (wdc w).cells, 168, 128⟩]) J J J J J Body228 (wide_finish n w ((w.y + w.x) * (p.y + p.x) - (w.y - w.x) * (p.y - p.x)) (w.z * p.z + w.z * p.z - w.t * tw * p.t) (w.z * p.z + w.z * p.z + w.t * tw * p.t) ((w.y + w.x) * (p.y + p.x) + (w.y - w.x) * (p.y - p.x))) (pm_cons rM pm_nil) (lent_ok J) (fun w h => own_blk h (by exact mem5)) ?_))))
 rintro v84 out84 rfl
 refine Tr.nil (en_n ?_)
 exact ⟨_, [⟨n, (wdc (Wd.fin ((w.y + w.x) * (p.y + p.x) - (w.y - w.x) * (p.y - p.x)) (w.z * p.z + w.z * p.z - w.t * tw * p.t) (w.z * p.z + w.z * p.z + w.t * tw * p.t) ((w.y + w.x) * (p.y + p.x) + (w.y - w.x) * (p.y - p.x)))).cells, 168, 128⟩], res_none rfl, (fun b hb => by rw [List.mem_singleton.1 hb]; exact Z0), nodup1, rfl⟩

theorem wide_double (n : Nat) (w : Wd Fp) : Meets Tryz.prog 181 [ptr n 0] [n] (fun W => BlkOk W ⟨n, (wdc w).cells, 168, 128⟩) (fun v out => out = [⟨n, (wdc (Wd.dbl w)).cells, 168, 128⟩]) := by
 intro W hW
 refine calls_of (hp0 := [⟨n, (wdc w).cells, 168, 128⟩]) Tryz.func181 J 66 Tryz.ntmps181 J (HRep.one hW) (Sat.seq (Sat.draw [(0, 0), (0, 1), (0, 2), (1, 3), (0, 4), (0, 5), (0, 6), (1, 7), (0, 9), (0, 10), (0, 11), (1, 12), (0, 13), (0, 14), (0, 15), (1, 16), (0, 18), (0, 19), (0, 20), (1, 21), (0, 22), (0, 23), (0, 24), (1, 25), (3, 8), (3, 17), (3, 26), (2, 27), (2, 28), (2, 29), (4, 30), (4, 31), (4, 32)] Mixed zK (Tr.move J J J (Tr.nilChk J J J (Tr.fld J J J Tryz.underlying168 J Sz77 dE _ J (Tr.loadN (bytesV _) J J J Y77 J Sz77 Z0 (wide.row_fX (by exact wdc_ok _)) (wide.rl_fX (by exact wdc_ok _)) ?_))))))
 refine Tr.move J J J (Tr.nilChk J J J (Tr.fld J J J Tryz.underlying168 J Sz77 dE _ J (Tr.loadN (bytesV _) J J J Y77 J Sz77 Z0 (wide.row_fX (by exact wdc_ok _)) (wide.rl_fX (by exact wdc_ok _)) ?_)))
 refine Tr.move J J J (Tr.nilChk J J J (Tr.fld J J J Tryz.underlying168 J Sz77 dE _ J (Tr.loadN (bytesV _) J J J Y77 J Sz77 Z0 (wide.row_fY (by exact wdc_ok _)) (wide.rl_fY (by exact wdc_ok _)) ?_)))
 refine Tr.move J J J (Tr.nilChk J J J (Tr.fld J J J Tryz.underlying168 J Sz77 dE _ J (Tr.loadN (bytesV _) J J J Y77 J Sz77 Z0 (wide.row_fY (by exact wdc_ok _)) (wide.rl_fY (by exact wdc_ok _)) ?_)))
 refine Tr.move J J J (Tr.nilChk J J J (Tr.fld J J J Tryz.underlying168 J Sz77 dE _ J (Tr.loadN (bytesV _) J J J Y77 J Sz77 Z0 (wide.row_fZ (by exact wdc_ok _)) (wide.rl_fZ (by exact wdc_ok _)) ?_)))
 refine Tr.move J J J (Tr.nilChk J J J (Tr.fld J J J Tryz.underlying168 J Sz77 dE _ J (Tr.loadN (bytesV _) J J J Y77 J Sz77 Z0 (wide.row_fZ (by exact wdc_ok _)) (wide.rl_fZ (by exact wdc_ok _)) ?_)))
 refine Tr.callV J J J J Body169 (f_mul _ _) (fun _ _ => trivial) (Tr.callV J J J J Body169 (f_mul _ _) (fun _ _ => trivial) (Tr.callV J J J J Body169 (f_mul _ _) (fun _ _ => trivial) (Tr.alloc (cs := (bytesV (List.replicate 32 0))) J Zr77 J ?_)))
 intro n2 hn2 hf2
 refine Tr.alloc (cs := (bytesV (List.replicate 32 0))) J Zr77 J ?_
 intro n3 hn3 hf3
 refine Tr.alloc (cs := (bytesV (List.replicate 32 0))) J Zr77 J ?_
 intro n4 hn4 hf4
 refine Tr.storeAll J J J J zE Sz77 zF Z2 sP (by exact upd2) ?_
 refine Tr.storeAll J J J J zE Sz77 zF Z1 sP zV ?_
 refine Tr.storeAll J J J J zE Sz77 zF Z0 sP zU ?_
 refine Tr.nil (at_n (Sat.seq (Sat.draw [(0, 0), (0, 1), (0, 2), (1, 3), (0, 4), (0, 5), (0, 6), (1, 7), (3, 8), (2, 9), (4, 10)] Mixed zK (Tr.move J J J (Tr.nilChk J J J (Tr.fld J J J Tryz.underlying168 J Sz77 dE _ J (Tr.loadN (bytesV _) J J J Y77 J Sz77 Z3 (wide.row_fX (by exact wdc_ok _)) (wide.rl_fX (by exact wdc_ok _)) ?_)))))))
 refine Tr.move J J J (Tr.nilChk J J J (Tr.fld J J J Tryz.underlying168 J Sz77 dE _ J (Tr.loadN (bytesV _) J J J Y77 J Sz77 Z3 (wide.row_fY (by exact wdc_ok _)) (wide.rl_fY (by exact wdc_ok _)) ?_)))
 refine Tr.callV J J J J Body172 (f_add _ _) (fun _ _ => trivial) (Tr.alloc (cs := (bytesV (List.replicate 32 0))) J Zr77 J ?_)
 intro n5 hn5 hf5
 refine Tr.storeAll J J J J zE Sz77 zF Z0 sP zU ?_
 refine Tr.nil (at_n (Sat.seq (Sat.region (Tr.loadAll J J J Y77 J Sz77 Z3 zF ?_))))
 refine Tr.loadAll J J J Y77 J Sz77 Z2 zF ?_
 refine Tr.callV J J J J Body172 (f_add _ _) (fun _ _ => trivial) (Tr.alloc (cs := (bytesV (List.replicate 32 0))) J Zr77 J ?_)
 intro n6 hn6 hf6
 refine Tr.storeAll J J J J zE Sz77 zF Z0 sP zU ?_
 refine Tr.nil (at_n (Sat.seq (Sat.draw [(1, 0), (1, 1), (1, 2), (3, 3), (3, 4), (2, 5), (4, 6)] Mixed zK (Tr.loadAll J J J Y77 J Sz77 Z0 zF ?_))))
 refine Tr.loadAll J J J Y77 J Sz77 Z1 zF ?_
 refine Tr.loadAll J J J Y77 J Sz77 Z1 zF ?_
 refine Tr.callV J J J J Body169 (f_mul _ _) (fun _ _ => trivial) (Tr.callV J J J J Body170 (f_sub _ _) (fun _ _ => trivial) (Tr.alloc (cs := (bytesV (List.replicate 32 0))) J Zr77 J ?_))
 intro n7 hn7 hf7
 refine Tr.storeAll J J J J zE Sz77 zF Z0 sP zU ?_
 refine Tr.nil (at_n (Sat.seq (Sat.region (Tr.loadAll J J J Y77 J Sz77 (by exact mem5) zF ?_))))
 refine Tr.loadAll J J J Y77 J Sz77 Z4 zF ?_
 refine Tr.callV J J J J Body170 (f_sub _ _) (fun _ _ => trivial) (Tr.alloc (cs := (bytesV (List.replicate 32 0))) J Zr77 J ?_)
 intro n8 hn8 hf8
 refine Tr.storeAll J J J J zE Sz77 zF Z0 sP zU ?_
 refine Tr.nil (at_n (Sat.draw [(0, 0), (1, 1), (1, 2), (1, 3), (1, 5), (1, 7), (1, 8), (3, 4), (3, 6), (4, 9)] Mixed zK (Tr.move J J J (Tr.loadAll J J J Y77 J Sz77 Z1 zF ?_))))
 refine Tr.loadAll J J J Y77 J Sz77 Z4 zF ?_
 refine Tr.loadAll J J J Y77 J Sz77 Z4 zF ?_
 refine Tr.loadAll J J J Y77 J Sz77 Z0 zF ?_
 refine Tr.loadAll J J J Y77 J Sz77 Z0 zF ?_
 refine Tr.loadAll J J J Y77 J Sz77 Z2 zF ?_
 refine Tr.callV J J J J Body172 (f_add _ _) (fun _ _ => trivial) (Tr.callV J J J J Body172 (f_add _ _) (fun _ _ => trivial) (Tr.callL (L := [⟨n, (wdc w).cells, 168, 128⟩]) J J J J J Body228 (wide_finish n w (w.x * w.x + w.y * w.y - (w.x + w.y) * (w.x + w.y)) (w.z * w.z + w.z * w.z + (w.x * w.x - w.y * w.y)) (w.x * w.x - w.y * w.y) (w.x * w.x + w.y * w.y)) (pm_cons rM pm_nil) (lent_ok J) (fun w h => own_blk h (by exact mem7)) ?_))
 rintro v65 out65 rfl
 refine Tr.nil (en_n ?_)
 exact ⟨_, [⟨n, (wdc (Wd.dbl w)).cells, 168, 128⟩], res_none rfl, (fun b hb => by rw [List.mem_singleton.1 hb]; exact Z0), nodup1, rfl⟩

end Go.Proofs.YtpacobmjjjillaaGreat
end

section
namespace Go.Proofs.YtpacobmjjjillaaGreat
open Go Hw
set_option linter.unusedVariables false
set_option linter.unusedSimpArgs false

open Ed

theorem own_ne {C : Cx} {hp R : List Blk} {w : World} {b1 b2 : Blk} (h : HRep C hp w) (p : hp.Perm ((b1 :: b2 :: []) ++ R)) : b2.n ≠ b1.n := fun e => by
  have := (p.map (·.n)).nodup_iff.1 h.nodup
  simp [e] at this
theorem wide_addD (n q : Nat) (w p : Wd Fp) : Meets Tryz.prog 180 [ptr n 0, ptr q 0, agg (bytesV (fb (fD + fD)))] [n] (fun W => BlkOk W ⟨n, (wdc w).cells, 168, 128⟩ ∧ Sees W q 0 (wdc p).cells ∧ q ≠ n) (fun v out => out = [⟨n, (wdc (Wd.add fD w p)).cells, 168, 128⟩]) := wide_add n q w p (fD + fD)
theorem wide_pointR (n : Nat) (w : Wd Fp) (R : Pt Fp) (hw : w.rep R) : Meets Tryz.prog 183 [ptr n 0] [] (fun W => Sees W n 0 (wdc w).cells) (fun v out => v = agg (ptc R).cells ∧ out = []) := by
  have h := wide_point n w
  have e : (⟨w.x * finv w.z, w.y * finv w.z⟩ : Pt Fp) = R := cv.rep_pt hw
  rwa [e] at h
theorem pair_eg : Tryz.prog.eqGuardType Tryz.prog.depth 174 = false := by kernel_rfl
theorem pair_eq (a b c d : Bool) (w : World) : (Op.equalIn 10000 174 (agg [.bool a, .bool b]) (agg [.bool c, .bool d])).run Tryz.prog w = .ok (a == c && b == d) w := by
  cases a <;> cases b <;> cases c <;> cases d <;> kernel_rfl

theorem curve_Mul2 (a b : List UInt8) (P Q : Pt Fp) (ha : a.length = 32) (hb : b.length = 32) (hP : cv.on P) (hQ : cv.on Q) : Meets Tryz.prog 109 [agg (bytesV a), agg (ptc P).cells, agg (bytesV b), agg (ptc Q).cells] [] (fun _ => True) (fun v out => v = agg (ptc (cv.lin (le a) (le b) P Q)).cells ∧ out = []) := by
 intro W hW
 refine calls_of (hp0 := []) Tryz.func109 J 65 Tryz.ntmps109 J (HRep.nil _) (Sat.seq (Sat.region (Tr.boxA J J ?_)))
 intro n4 hn4 hf4
 refine Tr.boxA J J ?_
 intro n5 hn5 hf5
 refine Tr.boxA J J ?_
 intro n6 hn6 hf6
 refine Tr.boxA J J ?_
 intro n7 hn7 hf7
 refine Tr.alloc (cs := Point.zero.cells) J Point.zr J ?_
 intro n8 hn8 hf8
 refine Tr.nil (at_n (Sat.seq (Sat.seq (Sat.region (Tr.loadAll J J J Y79 J Sz79 Z3 (Point.length zP) ?_)))))
 refine Tr.callV J J J J Body177 (curve_Check_on P hP) (fun _ _ => trivial) (Tr.nei J J J J (show (!decide _) = false from congrArg not (decide_eq_true (rfl))) (Tr.move J J J (Tr.loadAll J J J Y79 J Sz79 Z1 (Point.length zP) ?_)))
 refine Tr.callV J J J J Body177 (curve_Check_on Q hQ) (fun _ _ => trivial) (Tr.nei J J J J (show (!decide _) = false from congrArg not (decide_eq_true (rfl))) (Tr.pick J J J J J J (Tr.nil (at_n (Sat.cond_f J J (Sat.skip (at_n (Sat.seq (Sat.region (Tr.callV J J J J Body173 (curve_D) (fun _ _ => trivial) (Tr.callV J J J J Body173 (curve_D) (fun _ _ => trivial) (Tr.callV J J J J Body172 (f_add _ _) (fun _ _ => trivial) (Tr.alloc (cs := (bytesV (List.replicate 32 0))) J Zr77 J ?_)))))))))))))
 intro n9 hn9 hf9
 refine Tr.storeAll J J J J zE Sz77 zF Z0 sP zU ?_
 refine Tr.nil (at_n (Sat.seq (Sat.draw [(1, 0), (1, 2), (1, 4), (3, 1), (3, 3), (3, 5), (3, 6), (3, 7), (2, 8), (2, 9), (2, 10), (2, 11), (4, 12), (4, 13), (4, 14), (4, 15)] Mixed zK (Tr.loadAll J J J Y79 J Sz79 Z4 (Point.length zP) ?_))))
 refine Tr.loadAll J J J Y79 J Sz79 Z2 (Point.length zP) ?_
 refine Tr.loadAll J J J Y79 J Sz79 Z4 (Point.length zP) ?_
 refine Tr.callV J J J J Body179 (curve_widen P) (fun _ _ => trivial) (Tr.callV J J J J Body179 (curve_widen Q) (fun _ _ => trivial) (Tr.callV J J J J Body179 (curve_widen P) (fun _ _ => trivial) (Tr.callV J J J J Body178 (curve_Zero) (fun _ _ => trivial) (Tr.callV J J J J Body179 (curve_widen (zero : Pt Fp)) (fun _ _ => trivial) (Tr.alloc (cs := wide.zero.cells) J wide.zr J ?_)))))
 intro n10 hn10 hf10
 refine Tr.alloc (cs := wide.zero.cells) J wide.zr J ?_
 intro n11 hn11 hf11
 refine Tr.alloc (cs := wide.zero.cells) J wide.zr J ?_
 intro n12 hn12 hf12
 refine Tr.alloc (cs := wide.zero.cells) J wide.zr J ?_
 intro n13 hn13 hf13
 refine Tr.storeAll J J J J (wide.isCell (by exact wdc_ok _)) Sz168 (wide.length (by exact wdc_ok _)) Z3 (wide.length (by exact wide.zero_ok)) (by exact upd3) ?_
 refine Tr.storeAll J J J J (wide.isCell (by exact wdc_ok _)) Sz168 (wide.length (by exact wdc_ok _)) Z2 (wide.length (by exact wide.zero_ok)) (by exact upd2) ?_
 refine Tr.storeAll J J J J (wide.isCell (by exact wdc_ok _)) Sz168 (wide.length (by exact wdc_ok _)) Z1 (wide.length (by exact wide.zero_ok)) zV ?_
 refine Tr.storeAll J J J J (wide.isCell (by exact wdc_ok _)) Sz168 (wide.length (by exact wdc_ok _)) Z0 (wide.length (by exact wide.zero_ok)) zU ?_
 refine Tr.nil (at_n (Sat.seq (Sat.region (Tr.loadAll J J J Y77 J Sz77 Z4 zF ?_))))
 refine Tr.callL (L := [⟨n12, (wdc (Wd.of P)).cells, 168, 128⟩]) J J J J J Body180 (wide_addD n12 n11 (Wd.of P) (Wd.of Q)) (pm_cons rM pm_nil) (lent_ok J) (fun w h => ⟨own_blk h Z1, sees_own h Z2, own_ne (b1 := ⟨n12, (wdc (Wd.of P)).cells, 168, 128⟩) (b2 := ⟨n11, (wdc (Wd.of Q)).cells, 168, 128⟩) h (pm_cons rM (pm_cons rM pm_nil))⟩) ?_
 rintro v36 out36 rfl
 simp only [List.cons_append, List.nil_append]
 refine Tr.nil (at_n (Sat.seq (Sat.seq (Sat.region (Tr.assign J J J (Tr.nil (at_n (Sat.block (Sat.loop (ι := Nat × Wd Fp) (fun p => ⟨[(4, ptr n4 0), (6, ptr n6 0), (8, ptr n8 0), (9, ptr n9 0), (10, ptr n10 0), (11, ptr n11 0), (12, ptr n12 0), (13, ptr n13 0), (14, i64 (255 - (p.1 : Int)))], [⟨n13, (wdc p.2).cells, 168, 128⟩, ⟨n12, (wdc (Wd.add fD (Wd.of P) (Wd.of Q))).cells, 168, 128⟩, ⟨n11, (wdc (Wd.of Q)).cells, 168, 128⟩, ⟨n10, (wdc (Wd.of P)).cells, 168, 128⟩, ⟨n9, bytesV (fb (fD + fD)), 77, 32⟩, ⟨n8, Point.zero.cells, 79, 64⟩, ⟨n6, bytesV b, 77, (bytesV b).length⟩, ⟨n4, bytesV a, 77, (bytesV a).length⟩]⟩) (fun p => p.1 ≤ 256 ∧ p.2.rep (cv.lin (le a / 2 ^ (256 - p.1)) (le b / 2 ^ (256 - p.1)) P Q)) (fun p => 256 - p.1) ((0, Wd.of zero)) ?_ ?_ ?_)))))))))
 · exact ⟨Nat.zero_le _, lin_first a b ha hb P Q⟩
 · exact weak_perm (wk1 rfl (wk1 rfl (wk1 rfl (wk1 rfl (wk1 rfl (wk1 rfl (wk1 rfl (wk1 rfl (wk1 rfl wk0))))))))) (pm_cons rM (pm_cons rM (pm_cons rM (pm_cons rM (pm_cons rM (pm_cons rM (pm_cons rM (pm_cons rM pm_nil))))))))
 ·
  rintro p ⟨hj1, hw⟩
  refine Sat.seq (Sat.seq (Sat.region (Tr.move J J J (Tr.geq J J J J J (Tr.nil (at_n (Sat.condP J (fun hc1 => ?_) (fun hc1 => ?_))))))))
  ·
   have hj : p.1 < 256 := by omega
   refine Sat.skip (at_n (Sat.join (ι := Wd Fp) (fun u => ⟨[(4, ptr n4 0), (6, ptr n6 0), (8, ptr n8 0), (9, ptr n9 0), (10, ptr n10 0), (11, ptr n11 0), (12, ptr n12 0), (13, ptr n13 0), (14, i64 (((255 - p.1 : Nat) : Int)))], [⟨n13, (wdc u).cells, 168, 128⟩, ⟨n12, (wdc (Wd.add fD (Wd.of P) (Wd.of Q))).cells, 168, 128⟩, ⟨n11, (wdc (Wd.of Q)).cells, 168, 128⟩, ⟨n10, (wdc (Wd.of P)).cells, 168, 128⟩, ⟨n9, bytesV (fb (fD + fD)), 77, 32⟩, ⟨n8, Point.zero.cells, 79, 64⟩, ⟨n6, bytesV b, 77, (bytesV b).length⟩, ⟨n4, bytesV a, 77, (bytesV a).length⟩]⟩) (fun u => u.rep (cv.lin (le a / 2 ^ (256 - (p.1 + 1))) (le b / 2 ^ (256 - (p.1 + 1))) P Q)) ?_ ?_))
   ·
    refine Sat.block (Sat.seq (Sat.region (Tr.callL (L := [⟨n13, (wdc p.2).cells, 168, 128⟩]) J J J J J Body181 (wide_double n13 p.2) (pm_cons rM pm_nil) (lent_ok J) (fun w h => own_blk h Z0) ?_)))
    rintro v41 out41 rfl
    simp only [List.cons_append, List.nil_append]
    rw [show (255 : Int) - (p.1 : Int) = ((255 - p.1 : Nat) : Int) by omega]
    refine Tr.nil (at_n (Sat.seq (Sat.draw [(1, 0), (0, 1), (1, 3), (0, 4), (3, 2), (3, 5), (0, 6)] Mixed zK (Tr.loadAll J J J Y77 J Sz77 (by exact mem7) (by (simp [ha]; done)) ?_))))
    refine Tr.move J J J (Tr.loadAll J J J Y77 J Sz77 (by exact mem6) (by (simp [hb]; done)) ?_)
    refine Tr.move J J J (Tr.callB J J J J Body182 (scalar_bit_at a ha (255 - p.1) oM) (fun _ _ => trivial) (fun hs10_20 => ?_) (fun hs10_20 => ?_))
    ·
     have hs10_2 := nd_t hs10_20
     have hs10_2 := hs10_20
     refine Tr.callB J J J J Body182 (scalar_bit_at b hb (255 - p.1) oM) (fun _ _ => trivial) (fun hs10_50 => ?_) (fun hs10_50 => ?_)
     ·
      have hs10_5 := nd_t hs10_50
      have hs10_5 := hs10_50
      refine Tr.build (cs := [.bool true, .bool true]) J J J (fun w => by kernel_rfl) ?_
      refine Tr.nil (at_n (Sat.block (Sat.seq (Sat.region (Tr.build (cs := [.bool true, .bool true]) J J J (fun w => by kernel_rfl) ?_)))))
      refine Tr.eql_rec (q := (true == true && true == true)) (r := true) J J J J pair_eg (fun w => pair_eq true true true true w) J (Tr.assign J J J (Tr.nil (at_n (Sat.cond_t J J (Sat.region (Tr.loadAll J J J Y77 J Sz77 Z4 zF ?_))))))
      refine Tr.callL (L := [⟨n13, (wdc (Wd.dbl p.2)).cells, 168, 128⟩]) J J J J J Body180 (wide_addD n13 n12 (Wd.dbl p.2) (Wd.add fD (Wd.of P) (Wd.of Q))) (pm_cons rM pm_nil) (lent_ok J) (fun w h => ⟨own_blk h Z0, sees_own h Z1, own_ne (b1 := ⟨n13, (wdc (Wd.dbl p.2)).cells, 168, 128⟩) (b2 := ⟨n12, (wdc (Wd.add fD (Wd.of P) (Wd.of Q))).cells, 168, 128⟩) h (pm_cons rM (pm_cons rM pm_nil))⟩) ?_
      rintro v53 out53 rfl
      simp only [List.cons_append, List.nil_append]
      refine Tr.nil (bl_n (bl_n (at_n ?_)))
      (exact ⟨Wd.add fD (Wd.dbl p.2) (Wd.add fD (Wd.of P) (Wd.of Q)), (by rw [lin_tt hj hP hQ hs10_2 hs10_5]; exact cv.rep_add (cv.rep_dbl hw (cv.on_lin hP hQ _ _)) (cv.rep_add (cv.rep_of P) (cv.rep_of Q) hP hQ) (cv.on_add (cv.on_lin hP hQ _ _) (cv.on_lin hP hQ _ _)) (cv.on_add hP hQ)), weak_perm (wk1 rfl (wk1 rfl (wk1 rfl (wk1 rfl (wk1 rfl (wk1 rfl (wk1 rfl (wk1 rfl (wk1 rfl wk0))))))))) (pm_cons rM (pm_cons rM (pm_cons rM (pm_cons rM (pm_cons rM (pm_cons rM (pm_cons rM (pm_cons rM pm_nil))))))))⟩)
     ·
      have hs10_5 := nd_f hs10_50
      have hs10_5 := hs10_50
      refine Tr.build (cs := [.bool true, .bool false]) J J J (fun w => by kernel_rfl) ?_
      refine Tr.nil (at_n (Sat.block (Sat.seq (Sat.region (Tr.build (cs := [.bool true, .bool true]) J J J (fun w => by kernel_rfl) ?_)))))
      refine Tr.eql_rec (q := (true == true && false == true)) (r := false) J J J J pair_eg (fun w => pair_eq true false true true w) J (Tr.assign J J J (Tr.nil (at_n (Sat.cond_f J J (Sat.seq (Sat.region (Tr.build (cs := [.bool true, .bool false]) J J J (fun w => by kernel_rfl) ?_)))))))
      refine Tr.eql_rec (q := (true == true && false == false)) (r := true) J J J J pair_eg (fun w => pair_eq true false true false w) J (Tr.assign J J J (Tr.nil (at_n (Sat.cond_t J J (Sat.region (Tr.loadAll J J J Y77 J Sz77 Z4 zF ?_))))))
      refine Tr.callL (L := [⟨n13, (wdc (Wd.dbl p.2)).cells, 168, 128⟩]) J J J J J Body180 (wide_addD n13 n10 (Wd.dbl p.2) (Wd.of P)) (pm_cons rM pm_nil) (lent_ok J) (fun w h => ⟨own_blk h Z0, sees_own h Z3, own_ne (b1 := ⟨n13, (wdc (Wd.dbl p.2)).cells, 168, 128⟩) (b2 := ⟨n10, (wdc (Wd.of P)).cells, 168, 128⟩) h (pm_cons rM (pm_cons rM pm_nil))⟩) ?_
      rintro v58 out58 rfl
      simp only [List.cons_append, List.nil_append]
      refine Tr.nil (bl_n (bl_n (at_n ?_)))
      (exact ⟨Wd.add fD (Wd.dbl p.2) (Wd.of P), (by rw [lin_tf hj hP hQ hs10_2 hs10_5]; exact cv.rep_add (cv.rep_dbl hw (cv.on_lin hP hQ _ _)) (cv.rep_of P) (cv.on_add (cv.on_lin hP hQ _ _) (cv.on_lin hP hQ _ _)) hP), weak_perm (wk1 rfl (wk1 rfl (wk1 rfl (wk1 rfl (wk1 rfl (wk1 rfl (wk1 rfl (wk1 rfl (wk1 rfl wk0))))))))) (pm_cons rM (pm_cons rM (pm_cons rM (pm_cons rM (pm_cons rM (pm_cons rM (pm_cons rM (pm_cons rM pm_nil))))))))⟩)
    ·
     have hs10_2 := nd_f hs10_20
     have hs10_2 := hs10_20
     refine Tr.callB J J J J Body182 (scalar_bit_at b hb (255 - p.1) oM) (fun _ _ => trivial) (fun hs10_50 => ?_) (fun hs10_50 => ?_)
     ·
      have hs10_5 := nd_t hs10_50
      have hs10_5 := hs10_50
      refine Tr.build (cs := [.bool false, .bool true]) J J J (fun w => by kernel_rfl) ?_
      refine Tr.nil (at_n (Sat.block (Sat.seq (Sat.region (Tr.build (cs := [.bool true, .bool true]) J J J (fun w => by kernel_rfl) ?_)))))
      refine Tr.eql_rec (q := (false == true && true == true)) (r := false) J J J J pair_eg (fun w => pair_eq false true true true w) J (Tr.assign J J J (Tr.nil (at_n (Sat.cond_f J J (Sat.seq (Sat.region (Tr.build (cs := [.bool true, .bool false]) J J J (fun w => by kernel_rfl) ?_)))))))
      refine Tr.eql_rec (q := (false == true && true == false)) (r := false) J J J J pair_eg (fun w => pair_eq false true true false w) J (Tr.assign J J J (Tr.nil (at_n (Sat.cond_f J J (Sat.seq (Sat.region (Tr.build (cs := [.bool false, .bool true]) J J J (fun w => by kernel_rfl) ?_)))))))
      refine Tr.eql_rec (q := (false == false && true == true)) (r := true) J J J J pair_eg (fun w => pair_eq false true false true w) J (Tr.assign J J J (Tr.nil (at_n (Sat.cond_t J J (Sat.region (Tr.loadAll J J J Y77 J Sz77 Z4 zF ?_))))))
      refine Tr.callL (L := [⟨n13, (wdc (Wd.dbl p.2)).cells, 168, 128⟩]) J J J J J Body180 (wide_addD n13 n11 (Wd.dbl p.2) (Wd.of Q)) (pm_cons rM pm_nil) (lent_ok J) (fun w h => ⟨own_blk h Z0, sees_own h Z2, own_ne (b1 := ⟨n13, (wdc (Wd.dbl p.2)).cells, 168, 128⟩) (b2 := ⟨n11, (wdc (Wd.of Q)).cells, 168, 128⟩) h (pm_cons rM (pm_cons rM pm_nil))⟩) ?_
      rintro v63 out63 rfl
      simp only [List.cons_append, List.nil_append]
      refine Tr.nil (bl_n (bl_n (at_n ?_)))
      (exact ⟨Wd.add fD (Wd.dbl p.2) (Wd.of Q), (by rw [lin_ft hj hP hQ hs10_2 hs10_5]; exact cv.rep_add (cv.rep_dbl hw (cv.on_lin hP hQ _ _)) (cv.rep_of Q) (cv.on_add (cv.on_lin hP hQ _ _) (cv.on_lin hP hQ _ _)) hQ), weak_perm (wk1 rfl (wk1 rfl (wk1 rfl (wk1 rfl (wk1 rfl (wk1 rfl (wk1 rfl (wk1 rfl (wk1 rfl wk0))))))))) (pm_cons rM (pm_cons rM (pm_cons rM (pm_cons rM (pm_cons rM (pm_cons rM (pm_cons rM (pm_cons rM pm_nil))))))))⟩)
     ·
      have hs10_5 := nd_f hs10_50
      have hs10_5 := hs10_50
      refine Tr.build (cs := [.bool false, .bool false]) J J J (fun w => by kernel_rfl) ?_
      refine Tr.nil (at_n (Sat.block (Sat.seq (Sat.region (Tr.build (cs := [.bool true, .bool true]) J J J (fun w => by kernel_rfl) ?_)))))
      refine Tr.eql_rec (q := (false == true && false == true)) (r := false) J J J J pair_eg (fun w => pair_eq false false true true w) J (Tr.assign J J J (Tr.nil (at_n (Sat.cond_f J J (Sat.seq (Sat.region (Tr.build (cs := [.bool true, .bool false]) J J J (fun w => by kernel_rfl) ?_)))))))
      refine Tr.eql_rec (q := (false == true && false == false)) (r := false) J J J J pair_eg (fun w => pair_eq false false true false w) J (Tr.assign J J J (Tr.nil (at_n (Sat.cond_f J J (Sat.seq (Sat.region (Tr.build (cs := [.bool false, .bool true]) J J J (fun w => by kernel_rfl) ?_)))))))
      refine Tr.eql_rec (q := (false == false && false == true)) (r := false) J J J J pair_eg (fun w => pair_eq false false false true w) J (Tr.assign J J J (Tr.nil (at_n (Sat.cond_f J J (Sat.skip (bl_n (bl_n (at_n ?_))))))))
      (exact ⟨Wd.dbl p.2, (by rw [lin_ff hj hP hQ hs10_2 hs10_5]; exact (cv.rep_dbl hw (cv.on_lin hP hQ _ _))), weak_perm (wk1 rfl (wk1 rfl (wk1 rfl (wk1 rfl (wk1 rfl (wk1 rfl (wk1 rfl (wk1 rfl (wk1 rfl wk0))))))))) (pm_cons rM (pm_cons rM (pm_cons rM (pm_cons rM (pm_cons rM (pm_cons rM (pm_cons rM (pm_cons rM pm_nil))))))))⟩)
   ·
    intro u hj
    have hu := hj
    refine Sat.region (Tr.move J J J (Tr.sub_i64 J J J J oM (Tr.assign J J J (Tr.nil (at_n ?_)))))
    exact ⟨(p.1 + 1, u), ⟨by simp only []; omega, hu⟩, by simp only []; omega, weak_perm (wk1 rfl (wk1 rfl (wk1 rfl (wk1 rfl (wk1 rfl (wk1 rfl (wk1 rfl (wk1 rfl (wk1 (congrArg (fun z => some (i64 z)) (show ((255 - p.1 : Nat) : Int) - 1 = 255 - ((p.1 + 1 : Nat) : Int) by omega)) wk0))))))))) (pm_cons rM (pm_cons rM (pm_cons rM (pm_cons rM (pm_cons rM (pm_cons rM (pm_cons rM (pm_cons rM pm_nil))))))))⟩
  ·
   have hje : p.1 = 256 := by omega
   have hfin : p.2.rep (cv.lin (le a) (le b) P Q) := by rw [hje, lin_last] at hw; exact hw
   refine Sat.exit (at_x (at_x (bl_h (at_n (Sat.seq (Sat.region (Tr.callV J J J J Body183 (wide_pointR n13 p.2 _ hfin) (fun w h => sees_own h Z0) ?_)))))))
   refine Tr.storeAll J J J J (Point.isCell zP) Sz79 (Point.length zP) (by exact mem5) (Point.length zZ) (by exact upd5) ?_
   refine Tr.nil (at_n (Sat.ret (en_r ?_)))
   refine ⟨_, [], res_cell J J Y79 J Sz79 (by exact mem5) (by exact Point.length zP), sP, sP, ?_, rfl⟩
   rfl

theorem ptc_y (P : Pt Fp) : (ptc P).fY = fb P.y := rfl
theorem le_zero32 : le (List.replicate 32 0) = 0 := by kernel_rfl
theorem curve_Mul2z (a : List UInt8) (P : Pt Fp) (ha : a.length = 32) (hP : cv.on P) : Meets Tryz.prog 109 [agg (bytesV a), agg (ptc P).cells, agg (bytesV (List.replicate 32 0)), agg (ptc (zero : Pt Fp)).cells] [] (fun _ => True) (fun v out => v = agg (ptc (cv.mul (le a) P)).cells ∧ out = []) := by
  have h := curve_Mul2 a (List.replicate 32 0) P zero ha rfl hP cv.on_zero
  rwa [le_zero32, lin_one] at h

theorem curve_Mul (a : List UInt8) (P : Pt Fp) (ha : a.length = 32) (hP : cv.on P) : Meets Tryz.prog 159 [agg (bytesV a), agg (ptc P).cells] [] (fun _ => True) (fun v out => v = agg (ptc (cv.mul (le a) P)).cells ∧ out = []) := by
 intro W hW
 refine calls_of (hp0 := []) Tryz.func159 J 10 Tryz.ntmps159 J (HRep.nil _) (Sat.seq (Sat.region (Tr.boxA J J ?_)))
 intro n2 hn2 hf2
 refine Tr.boxA J J ?_
 intro n3 hn3 hf3
 refine Tr.alloc (cs := Point.zero.cells) J Point.zr J ?_
 intro n4 hn4 hf4
 refine Tr.nil (at_n (Sat.seq (Sat.draw [(1, 0), (1, 1), (0, 2), (3, 3), (3, 4), (4, 5)] Mixed zK (Tr.loadAll J J J Y77 J Sz77 Z2 (by (simp [ha]; done)) ?_))))
 refine Tr.loadAll J J J Y79 J Sz79 Z1 (Point.length zP) ?_
 refine Tr.build (cs := bytesV (List.replicate 32 0)) J J J (fun w => by kernel_rfl) ?_
 refine Tr.callV J J J J Body178 (curve_Zero) (fun _ _ => trivial) (Tr.callV J J J J Body109 (curve_Mul2z a P ha hP) (fun _ _ => trivial) (Tr.storeAll J J J J (Point.isCell zP) Sz79 (Point.length zP) Z0 (Point.length zZ) zU ?_))
 refine Tr.nil (at_n (Sat.ret (en_r ?_)))
 refine ⟨_, [], res_cell J J Y79 J Sz79 Z0 (by exact Point.length zP), sP, sP, ?_, rfl⟩
 rfl

theorem curve_Neg (P : Pt Fp) (hP : cv.on P) : Meets Tryz.prog 111 [agg (ptc P).cells] [] (fun _ => True) (fun v out => v = agg (ptc (neg P)).cells ∧ out = []) := by
 intro W hW
 refine calls_of (hp0 := []) Tryz.func111 J 13 Tryz.ntmps111 J (HRep.nil _) (Sat.seq (Sat.region (Tr.boxA J J ?_)))
 intro n1 hn1 hf1
 refine Tr.alloc (cs := Point.zero.cells) J Point.zr J ?_
 intro n2 hn2 hf2
 refine Tr.nil (at_n (Sat.seq (Sat.seq (Sat.region (Tr.loadAll J J J Y79 J Sz79 Z1 (Point.length zP) ?_)))))
 refine Tr.callV J J J J Body177 (curve_Check_on P hP) (fun _ _ => trivial) (Tr.nei J J J J (show (!decide _) = false from congrArg not (decide_eq_true (rfl))) (Tr.nil (at_n (Sat.cond_f J (rfl) (Sat.skip (at_n (Sat.seq (Sat.draw [(0, 0), (1, 1), (0, 3), (1, 4), (3, 2), (0, 5), (4, 6)] Mixed zK (Tr.fld J J J Y79 J Sz77 dE _ J (Tr.loadN (bytesV _) J J J Y77 J Sz77 Z1 (Point.row_fX zP) (Point.rl_fX zP) ?_))))))))))
 refine Tr.fld J J J Y79 J Sz77 dE _ J (Tr.loadN (bytesV _) J J J Y77 J Sz77 Z1 (Point.row_fY zP) (Point.rl_fY zP) ?_)
 refine Tr.callV J J J J Body176 (f_neg _) (fun _ _ => trivial) (Tr.build (cs := (ptc (neg P)).cells) J J J (fun w => by kernel_rfl) ?_)
 refine Tr.storeAll J J J J (Point.isCell zP) Sz79 (Point.length zP) Z0 (Point.length zZ) zU ?_
 refine Tr.nil (at_n (Sat.ret (en_r ?_)))
 refine ⟨_, [], res_cell J J Y79 J Sz79 Z0 (by exact Point.length zP), sP, sP, ?_, rfl⟩
 rfl

theorem curve_Bytes (P : Pt Fp) (hP : cv.on P) : Meets Tryz.prog 158 [agg (ptc P).cells] [] (fun _ => True) (fun v out => v = .tuple #[agg (bytesV (pb P)), i64 0] ∧ out = []) := by
 intro W hW
 refine calls_of (hp0 := []) Tryz.func158 J 22 Tryz.ntmps158 J (HRep.nil _) (Sat.seq (Sat.region (Tr.boxA J J ?_)))
 intro n1 hn1 hf1
 refine Tr.alloc (cs := (bytesV (List.replicate 32 0))) J Zr23 J ?_
 intro n2 hn2 hf2
 refine Tr.assign J J J (Tr.nil (at_n (Sat.seq (Sat.seq (Sat.region (Tr.loadAll J J J Y79 J Sz79 Z1 (Point.length zP) ?_))))))
 refine Tr.callV J J J J Body177 (curve_Check_on P hP) (fun _ _ => trivial) (Tr.assign J J J (Tr.nil (at_n (Sat.seq (Sat.region (Tr.move J J J (Tr.nei J J J J (show (!decide _) = false from congrArg not (decide_eq_true (rfl))) (Tr.nil (at_n (Sat.cond_f J (rfl) (Sat.skip (at_n (Sat.seq (Sat.region (Tr.fld J J J Y79 J Sz77 dE _ J (Tr.loadN (bytesV _) J J J Y77 J Sz77 Z1 (Point.row_fY zP) (Point.rl_fY zP) ?_))))))))))))))))
 refine Tr.alloc (cs := (bytesV (List.replicate 32 0))) J Zr23 J ?_
 intro n5 hn5 hf5
 refine Tr.storeAll J J J J zE Sz23 (by (simp [fb_length, ptc_y]; done)) Z0 sP zU ?_
 refine Tr.nil (at_n (Sat.join (ι := Unit) (fun _u => ⟨[(2, ptr n2 0), (5, ptr n5 0)], [⟨n5, bytesV (pb P), 23, 32⟩, ⟨n2, bytesV (List.replicate 32 0), 23, 32⟩]⟩) (fun _u => True) ?_ ?_))
 ·
  refine Sat.seq (Sat.region (Tr.fld J J J Y79 J Sz77 dE _ J (Tr.loadN (bytesV _) J J J Y77 J Sz77 Z2 (Point.row_fX zP) (Point.rl_fX zP) ?_)))
  refine Tr.callV J J J J Body215 (f_odd P.x) (fun _ _ => trivial) (Tr.nil (at_n (Sat.condP J (fun hc1 => ?_) (fun hc1 => ?_))))
  ·
   refine Sat.region (Tr.idxArr1 J J J J Y23 Sz5 31 J dE (Tr.load1 J J J Y5 J Z0 (by rfl) ?_))
   refine Tr.or_u8 J J J (show evIn _ _ = some (u8 128) from rfl) (Tr.idxArr1 J J J J Y23 Sz5 31 J dE (Tr.store1 J J J J J Sz5 Z0 (by (simp [fb_length, ptc_y]; done)) (by exact set_bytes _ _ _) zU ?_))
   refine Tr.nil (at_n ?_)
   (rw [show pb P = (fb P.y).set 31 ((fb P.y).getD 31 0 ||| 128) from if_pos hc1]; exact ⟨(), trivial, weak_of (wk1 rfl (wk1 rfl wk0)) (wh1 Z0 (wh1 Z1 wh0)) nD⟩)
  ·
   refine Sat.skip (at_n ?_)
   (rw [show pb P = fb P.y from if_neg hc1]; exact ⟨(), trivial, weak_of (wk1 rfl (wk1 rfl wk0)) (wh1 Z0 (wh1 Z1 wh0)) nD⟩)
 ·
  intro _u hj
  skip
  refine Sat.seq (Sat.region (Tr.loadAll J J J Y23 J Sz23 Z0 (by (simp [pb_length]; done)) ?_))
  refine Tr.storeAll J J J J zE Sz23 (by (simp [pb_length]; done)) Z1 sP zV ?_
  refine Tr.assign J J J (Tr.nil (at_n (Sat.ret (en_r ?_))))
  refine ⟨_, [], res_cell_tmp J J J Y23 J Sz23 Z1 (by simp [pb_length]), sP, sP, ?_, rfl⟩
  rfl

def rdV (b : List UInt8) : Value := match rdP b with
  | some P => .tuple #[agg (ptc P).cells, i64 0]
  | none => .tuple #[agg Point.zero.cells, i64 4]
theorem rdV_none {b : List UInt8} (h : rdP b = none) : rdV b = .tuple #[agg Point.zero.cells, i64 4] := by rw [rdV, h]
theorem rdV_some {b : List UInt8} {P : Pt Fp} (h : rdP b = some P) : rdV b = .tuple #[agg (ptc P).cells, i64 0] := by rw [rdV, h]
theorem rd_n1 {b : List UInt8} (h : ¬ fb (fe (le (lowB b))) = lowB b) : rdP b = none := by rw [rdP, if_neg h]
theorem rd_n2 {b : List UInt8} {r : Fp × Bool} (hx : xOf (fe (le (lowB b))) = r) (h : r.2 = false) : rdP b = none := by
  rw [rdP]
  split
  · rw [hx, if_neg (by rw [h]; simp)]
  · rfl
theorem rd_n3 {b : List UInt8} {r : Fp × Bool} (hx : xOf (fe (le (lowB b))) = r) (h1 : topB b = true) (h : fb r.1 = List.replicate 32 0) : rdP b = none := by
  have h2 : r.1 = 0 := fb_inj.1 (h.trans fb_zero.symm)
  rw [rdP]
  split
  · rw [hx, if_neg (fun e => e.2 ⟨h1, h2⟩)]
  · rfl
theorem rd_s1 {b : List UInt8} {r : Fp × Bool} (hc : fb (fe (le (lowB b))) = lowB b) (hx : xOf (fe (le (lowB b))) = r) (h2 : r.2 = true) (h1 : topB b = true) (h : ¬ fb r.1 = List.replicate 32 0) : rdP b = some ⟨-r.1, fe (le (lowB b))⟩ := by
  rw [rdP, if_pos hc, hx, if_pos ⟨h2, fun e => h (by rw [e.2, fb_zero])⟩, if_pos h1]
theorem rd_s2 {b : List UInt8} {r : Fp × Bool} (hc : fb (fe (le (lowB b))) = lowB b) (hx : xOf (fe (le (lowB b))) = r) (h2 : r.2 = true) (h1 : topB b = false) : rdP b = some ⟨r.1, fe (le (lowB b))⟩ := by
  rw [rdP, if_pos hc, hx, if_pos ⟨h2, fun e => by rw [h1] at e; cases e.1⟩, if_neg (by rw [h1]; decide)]
theorem topB_t {b : List UInt8} (h : ¬ ((b.getD 31 0 &&& 128).toNat : Int) = 0) : topB b = true := by rw [topB, decide_eq_false h]; rfl
theorem topB_f {b : List UInt8} (h : ((b.getD 31 0 &&& 128).toNat : Int) = 0) : topB b = false := by rw [topB, decide_eq_true h]; rfl

theorem curve_Read (b : List UInt8) (hb : b.length = 32) : Meets Tryz.prog 108 [agg (bytesV b)] [] (fun _ => True) (fun v out => v = rdV b ∧ out = []) := by
 intro W hW
 have hll := lowB_length hb
 obtain ⟨Y, hY⟩ : ∃ Y, fe (le (lowB b)) = Y := ⟨_, rfl⟩
 have hcan := field_Canon (lowB b) hll
 have hmul := field_Mul (lowB b) (lowB b) hll hll
 have hinv := f_inv (fD * (Y * Y) + 1)
 have hxo : xOf Y = fRoot ((Y * Y - 1) * finv (fD * (Y * Y) + 1)) := rfl
 revert hinv hxo
 generalize finv (fD * (Y * Y) + 1) = iz
 intro hinv hxo
 have hroot := field_Root (fb ((Y * Y - 1) * iz)) ((Y * Y - 1) * iz) (fb_length _) (fe_fb _)
 revert hroot hxo
 generalize fRoot ((Y * Y - 1) * iz) = xr
 intro hxo hroot
 rw [← hY] at hxo
 rw [hY] at hcan hmul
 refine calls_of (hp0 := []) Tryz.func108 J 60 Tryz.ntmps108 J (HRep.nil _) (Sat.seq (Sat.region (Tr.boxA J J ?_)))
 intro n1 hn1 hf1
 refine Tr.alloc (cs := Point.zero.cells) J Point.zr J ?_
 intro n2 hn2 hf2
 refine Tr.assign J J J (Tr.nil (at_n (Sat.seq (Sat.region (Tr.idxArr1 J J J J Y23 Sz5 31 J dE (Tr.load1 J J J Y5 J Z1 zG ?_))))))
 refine Tr.and_u8 J J J (show evIn _ _ = some (u8 128) from rfl) (two (fun r hr k => Tr.nei J J J J hr k) (fun hs1_30 => ?_) (fun hs1_30 => ?_))
 ·
  have hs1_3 := nd_t hs1_30
  refine Tr.assign J J J (Tr.nil (at_n (Sat.seq (Sat.region (Tr.loadAll J J J Y23 J Sz23 Z1 (by (simp [hb]; done)) ?_)))))
  refine Tr.alloc (cs := (bytesV (List.replicate 32 0))) J Zr77 J ?_
  intro n5 hn5 hf5
  refine Tr.storeAll J J J J zE Sz77 (by (simp [hb]; done)) Z0 sP zU ?_
  refine Tr.nil (at_n (Sat.seq (Sat.region (Tr.idxArr1 J J J J Y77 Sz5 31 J dE (Tr.load1 J J J Y5 J Z0 zG ?_)))))
  refine Tr.and_u8 J J J (show evIn _ _ = some (u8 127) from rfl) (Tr.idxArr1 J J J J Y77 Sz5 31 J dE (Tr.store1 J J J J J Sz5 Z0 (by (simp [hb]; done)) (by exact set_bytes _ _ _) zU ?_))
  refine Tr.nil (at_n (Sat.seq (Sat.seq (Sat.region (Tr.loadAll J J J Y77 J Sz77 Z0 (by (simp [hb]; done)) ?_)))))
  refine Tr.callV J J J J Body168 (hcan) (fun _ _ => trivial) (Tr.not J J J (Tr.nil (at_n (Sat.cond J (fun hc0 => ?_) (fun hc0 => ?_)))))
  ·
   have hcn : ¬ fb Y = lowB b := of_decide_eq_false (by simpa using hc0)
   refine Sat.seq (Sat.region (Tr.build (cs := Point.zero.cells) J J J (fun w => by kernel_rfl) ?_))
   refine Tr.storeAll J J J J (Point.isCell zZ) Sz79 (Point.length zZ) Z1 (Point.length zZ) zV ?_
   refine Tr.assign J J J (Tr.nil (at_n (Sat.ret (at_r (en_r ?_)))))
   refine ⟨_, [], res_cell_tmp J J J Y79 J Sz79 Z1 (by exact Point.length zZ), sP, sP, ?_, rfl⟩
   exact (rdV_none (rd_n1 (by rw [hY]; exact hcn))).symm
  ·
   have hcy : fb Y = lowB b := of_decide_eq_true (by simpa using hc0)
   refine Sat.skip (at_n (Sat.seq (Sat.region (Tr.loadAll J J J Y77 J Sz77 Z0 (by (simp [hb]; done)) ?_))))
   refine Tr.loadAll J J J Y77 J Sz77 Z0 (by (simp [hb]; done)) ?_
   refine Tr.callV J J J J Body169 (hmul) (fun _ _ => trivial) (Tr.alloc (cs := (bytesV (List.replicate 32 0))) J Zr77 J ?_)
   intro n6 hn6 hf6
   refine Tr.storeAll J J J J zE Sz77 zF Z0 sP zU ?_
   refine Tr.nil (at_n (Sat.seq (Sat.draw [(1, 0), (3, 1), (3, 2), (2, 3), (4, 4)] Mixed zK (Tr.loadAll J J J Y77 J Sz77 Z0 zF ?_))))
   refine Tr.callV J J J J Body171 (f_one) (fun _ _ => trivial) (Tr.callV J J J J Body170 (f_sub _ _) (fun _ _ => trivial) (Tr.alloc (cs := (bytesV (List.replicate 32 0))) J Zr77 J ?_))
   intro n7 hn7 hf7
   refine Tr.storeAll J J J J zE Sz77 zF Z0 sP zU ?_
   refine Tr.nil (at_n (Sat.seq (Sat.draw [(1, 1), (3, 0), (3, 2), (3, 3), (3, 4), (2, 5), (4, 6)] Mixed zK (Tr.loadAll J J J Y77 J Sz77 Z1 zF ?_))))
   refine Tr.callV J J J J Body173 (curve_D) (fun _ _ => trivial) (Tr.callV J J J J Body169 (f_mul _ _) (fun _ _ => trivial) (Tr.callV J J J J Body171 (f_one) (fun _ _ => trivial) (Tr.callV J J J J Body172 (f_add _ _) (fun _ _ => trivial) (Tr.alloc (cs := (bytesV (List.replicate 32 0))) J Zr77 J ?_))))
   intro n8 hn8 hf8
   refine Tr.storeAll J J J J zE Sz77 zF Z0 sP zU ?_
   refine Tr.nil (at_n (Sat.seq (Sat.draw [(1, 0), (1, 1), (3, 2), (3, 3), (3, 4), (0, 5), (0, 6), (0, 7), (2, 8), (4, 9), (0, 10)] Mixed zK (Tr.loadAll J J J Y77 J Sz77 Z1 zF ?_))))
   refine Tr.loadAll J J J Y77 J Sz77 Z0 zF ?_
   refine Tr.callV J J J J Body175 (hinv) (fun _ _ => trivial) (Tr.callV J J J J Body169 (f_mul _ _) (fun _ _ => trivial) (Tr.callV J J J J Body174 (hroot) (fun _ _ => trivial) (Tr.move J J J (Tr.extract J J J J (Tr.extractB J J J J (fun hs9_70 => ?_) (fun hs9_70 => ?_))))))
   ·
    have hs9_7 := hs9_70
    refine Tr.alloc (cs := (bytesV (List.replicate 32 0))) J Zr77 J ?_
    intro n9 hn9 hf9
    refine Tr.storeAll J J J J zE Sz77 zF Z0 sP zU ?_
    refine Tr.assign J J J (Tr.nil (at_n (Sat.seq (Sat.seq (Sat.region (Tr.move J J J (Tr.not J J J (Tr.move J J J (Tr.move J J J (Tr.move J J J (Tr.loadAll J J J Y77 J Sz77 Z0 zF ?_)))))))))))
    refine Tr.build (cs := bytesV (List.replicate 32 0)) J J J (fun w => by kernel_rfl) ?_
    refine two (fun r hr k => Tr.eql_bytes J J J J Tryz.eqGuardType77 Y77 Y5 Sz5 zF sP hr k) (fun hs10_70 => ?_) (fun hs10_70 => ?_)
    ·
     have hs10_7 := of_decide_eq_true hs10_70
     refine Tr.pick J J J J J J (Tr.pick J J J J J J (Tr.nil (at_n (Sat.cond_t J J (Sat.seq (Sat.region (Tr.build (cs := Point.zero.cells) J J J (fun w => by kernel_rfl) ?_)))))))
     refine Tr.storeAll J J J J (Point.isCell zZ) Sz79 (Point.length zZ) (by exact mem5) (Point.length zZ) (by exact upd5) ?_
     refine Tr.assign J J J (Tr.nil (at_n (Sat.ret (at_r (en_r ?_)))))
     refine ⟨_, [], res_cell_tmp J J J Y79 J Sz79 (by exact mem5) (by exact Point.length zZ), sP, sP, ?_, rfl⟩
     exact (rdV_none (rd_n3 hxo (topB_t hs1_3) hs10_7)).symm
    ·
     have hs10_7 := of_decide_eq_false hs10_70
     refine Tr.pick J J J J J J (Tr.pick J J J J J J (Tr.nil (at_n (Sat.cond_f J J (Sat.skip (at_n (Sat.seq (Sat.seq (Sat.region (Tr.move J J J (Tr.nil (at_n (Sat.cond_t J J (Sat.region (Tr.loadAll J J J Y77 J Sz77 Z0 zF ?_)))))))))))))))
     refine Tr.callV J J J J Body176 (f_neg _) (fun _ _ => trivial) (Tr.storeAll J J J J zE Sz77 zF Z0 zF zU ?_)
     refine Tr.nil (at_n (Sat.seq (Sat.region ?_)))
     rw [show b.set 31 (b.getD 31 0 &&& 127) = fb Y from hcy.symm]
     refine Tr.loadAll J J J Y77 J Sz77 Z0 zF ?_
     refine Tr.loadAll J J J Y77 J Sz77 Z4 zF ?_
     refine Tr.build (cs := (⟨fb (-xr.1), fb Y⟩ : Point).cells) J J J (fun w => by kernel_rfl) ?_
     refine Tr.storeAll J J J J (Point.isCell (by exact ⟨fb32 _, fb32 _⟩)) Sz79 (Point.length (by exact ⟨fb32 _, fb32 _⟩)) (by exact mem5) (Point.length zZ) (by exact upd5) ?_
     refine Tr.assign J J J (Tr.nil (at_n (Sat.ret (en_r ?_))))
     refine ⟨_, [], res_cell_tmp J J J Y79 J Sz79 (by exact mem5) (by exact Point.length (by exact ⟨fb32 _, fb32 _⟩)), sP, sP, ?_, rfl⟩
     (rw [rdV_some (rd_s1 (by rw [hY]; exact hcy) hxo hs9_7 (topB_t hs1_3) hs10_7), hY]; rfl)
   ·
    have hs9_7 := hs9_70
    refine Tr.alloc (cs := (bytesV (List.replicate 32 0))) J Zr77 J ?_
    intro n9 hn9 hf9
    refine Tr.storeAll J J J J zE Sz77 zF Z0 sP zU ?_
    refine Tr.assign J J J (Tr.nil (at_n (Sat.seq (Sat.seq (Sat.region (Tr.move J J J (Tr.not J J J (Tr.move J J J (Tr.skp J J (Tr.skp J J (Tr.skp J J (Tr.skp J J (Tr.skp J J (Tr.skp J J (Tr.pick J J J J J J (Tr.nil (at_n (Sat.cond_t J J (Sat.seq (Sat.region (Tr.build (cs := Point.zero.cells) J J J (fun w => by kernel_rfl) ?_)))))))))))))))))))))
    refine Tr.storeAll J J J J (Point.isCell zZ) Sz79 (Point.length zZ) (by exact mem5) (Point.length zZ) (by exact upd5) ?_
    refine Tr.assign J J J (Tr.nil (at_n (Sat.ret (at_r (en_r ?_)))))
    refine ⟨_, [], res_cell_tmp J J J Y79 J Sz79 (by exact mem5) (by exact Point.length zZ), sP, sP, ?_, rfl⟩
    exact (rdV_none (rd_n2 hxo hs9_7)).symm
 ·
  have hs1_3 := nd_f hs1_30
  refine Tr.assign J J J (Tr.nil (at_n (Sat.seq (Sat.region (Tr.loadAll J J J Y23 J Sz23 Z1 (by (simp [hb]; done)) ?_)))))
  refine Tr.alloc (cs := (bytesV (List.replicate 32 0))) J Zr77 J ?_
  intro n5 hn5 hf5
  refine Tr.storeAll J J J J zE Sz77 (by (simp [hb]; done)) Z0 sP zU ?_
  refine Tr.nil (at_n (Sat.seq (Sat.region (Tr.idxArr1 J J J J Y77 Sz5 31 J dE (Tr.load1 J J J Y5 J Z0 zG ?_)))))
  refine Tr.and_u8 J J J (show evIn _ _ = some (u8 127) from rfl) (Tr.idxArr1 J J J J Y77 Sz5 31 J dE (Tr.store1 J J J J J Sz5 Z0 (by (simp [hb]; done)) (by exact set_bytes _ _ _) zU ?_))
  refine Tr.nil (at_n (Sat.seq (Sat.seq (Sat.region (Tr.loadAll J J J Y77 J Sz77 Z0 (by (simp [hb]; done)) ?_)))))
  refine Tr.callV J J J J Body168 (hcan) (fun _ _ => trivial) (Tr.not J J J (Tr.nil (at_n (Sat.cond J (fun hc0 => ?_) (fun hc0 => ?_)))))
  ·
   have hcn : ¬ fb Y = lowB b := of_decide_eq_false (by simpa using hc0)
   refine Sat.seq (Sat.region (Tr.build (cs := Point.zero.cells) J J J (fun w => by kernel_rfl) ?_))
   refine Tr.storeAll J J J J (Point.isCell zZ) Sz79 (Point.length zZ) Z1 (Point.length zZ) zV ?_
   refine Tr.assign J J J (Tr.nil (at_n (Sat.ret (at_r (en_r ?_)))))
   refine ⟨_, [], res_cell_tmp J J J Y79 J Sz79 Z1 (by exact Point.length zZ), sP, sP, ?_, rfl⟩
   exact (rdV_none (rd_n1 (by rw [hY]; exact hcn))).symm
  ·
   have hcy : fb Y = lowB b := of_decide_eq_true (by simpa using hc0)
   refine Sat.skip (at_n (Sat.seq (Sat.region (Tr.loadAll J J J Y77 J Sz77 Z0 (by (simp [hb]; done)) ?_))))
   refine Tr.loadAll J J J Y77 J Sz77 Z0 (by (simp [hb]; done)) ?_
   refine Tr.callV J J J J Body169 (hmul) (fun _ _ => trivial) (Tr.alloc (cs := (bytesV (List.replicate 32 0))) J Zr77 J ?_)
   intro n6 hn6 hf6
   refine Tr.storeAll J J J J zE Sz77 zF Z0 sP zU ?_
   refine Tr.nil (at_n (Sat.seq (Sat.draw [(1, 0), (3, 1), (3, 2), (2, 3), (4, 4)] Mixed zK (Tr.loadAll J J J Y77 J Sz77 Z0 zF ?_))))
   refine Tr.callV J J J J Body171 (f_one) (fun _ _ => trivial) (Tr.callV J J J J Body170 (f_sub _ _) (fun _ _ => trivial) (Tr.alloc (cs := (bytesV (List.replicate 32 0))) J Zr77 J ?_))
   intro n7 hn7 hf7
   refine Tr.storeAll J J J J zE Sz77 zF Z0 sP zU ?_
   refine Tr.nil (at_n (Sat.seq (Sat.draw [(1, 1), (3, 0), (3, 2), (3, 3), (3, 4), (2, 5), (4, 6)] Mixed zK (Tr.loadAll J J J Y77 J Sz77 Z1 zF ?_))))
   refine Tr.callV J J J J Body173 (curve_D) (fun _ _ => trivial) (Tr.callV J J J J Body169 (f_mul _ _) (fun _ _ => trivial) (Tr.callV J J J J Body171 (f_one) (fun _ _ => trivial) (Tr.callV J J J J Body172 (f_add _ _) (fun _ _ => trivial) (Tr.alloc (cs := (bytesV (List.replicate 32 0))) J Zr77 J ?_))))
   intro n8 hn8 hf8
   refine Tr.storeAll J J J J zE Sz77 zF Z0 sP zU ?_
   refine Tr.nil (at_n (Sat.seq (Sat.draw [(1, 0), (1, 1), (3, 2), (3, 3), (3, 4), (0, 5), (0, 6), (0, 7), (2, 8), (4, 9), (0, 10)] Mixed zK (Tr.loadAll J J J Y77 J Sz77 Z1 zF ?_))))
   refine Tr.loadAll J J J Y77 J Sz77 Z0 zF ?_
   refine Tr.callV J J J J Body175 (hinv) (fun _ _ => trivial) (Tr.callV J J J J Body169 (f_mul _ _) (fun _ _ => trivial) (Tr.callV J J J J Body174 (hroot) (fun _ _ => trivial) (Tr.move J J J (Tr.extract J J J J (Tr.extractB J J J J (fun hs9_70 => ?_) (fun hs9_70 => ?_))))))
   ·
    have hs9_7 := hs9_70
    refine Tr.alloc (cs := (bytesV (List.replicate 32 0))) J Zr77 J ?_
    intro n9 hn9 hf9
    refine Tr.storeAll J J J J zE Sz77 zF Z0 sP zU ?_
    refine Tr.assign J J J (Tr.nil (at_n (Sat.seq (Sat.seq (Sat.region (Tr.move J J J (Tr.not J J J (Tr.move J J J (Tr.move J J J (Tr.move J J J (Tr.skp J J (Tr.skp J J (Tr.skp J J (Tr.pick J J J J J J (Tr.pick J J J J J J (Tr.nil (at_n (Sat.cond_f J J (Sat.skip (at_n (Sat.seq (Sat.seq (Sat.region (Tr.move J J J (Tr.nil (at_n (Sat.cond_f J J (Sat.skip (at_n (Sat.seq (Sat.region ?_)))))))))))))))))))))))))))))))
    rw [show b.set 31 (b.getD 31 0 &&& 127) = fb Y from hcy.symm]
    refine Tr.loadAll J J J Y77 J Sz77 Z0 zF ?_
    refine Tr.loadAll J J J Y77 J Sz77 Z4 zF ?_
    refine Tr.build (cs := (⟨fb xr.1, fb Y⟩ : Point).cells) J J J (fun w => by kernel_rfl) ?_
    refine Tr.storeAll J J J J (Point.isCell (by exact ⟨fb32 _, fb32 _⟩)) Sz79 (Point.length (by exact ⟨fb32 _, fb32 _⟩)) (by exact mem5) (Point.length zZ) (by exact upd5) ?_
    refine Tr.assign J J J (Tr.nil (at_n (Sat.ret (en_r ?_))))
    refine ⟨_, [], res_cell_tmp J J J Y79 J Sz79 (by exact mem5) (by exact Point.length (by exact ⟨fb32 _, fb32 _⟩)), sP, sP, ?_, rfl⟩
    (rw [rdV_some (rd_s2 (by rw [hY]; exact hcy) hxo hs9_7 (topB_f hs1_3)), hY]; rfl)
   ·
    have hs9_7 := hs9_70
    refine Tr.alloc (cs := (bytesV (List.replicate 32 0))) J Zr77 J ?_
    intro n9 hn9 hf9
    refine Tr.storeAll J J J J zE Sz77 zF Z0 sP zU ?_
    refine Tr.assign J J J (Tr.nil (at_n (Sat.seq (Sat.seq (Sat.region (Tr.move J J J (Tr.not J J J (Tr.move J J J (Tr.skp J J (Tr.skp J J (Tr.skp J J (Tr.skp J J (Tr.skp J J (Tr.skp J J (Tr.pick J J J J J J (Tr.nil (at_n (Sat.cond_t J J (Sat.seq (Sat.region (Tr.build (cs := Point.zero.cells) J J J (fun w => by kernel_rfl) ?_)))))))))))))))))))))
    refine Tr.storeAll J J J J (Point.isCell zZ) Sz79 (Point.length zZ) (by exact mem5) (Point.length zZ) (by exact upd5) ?_
    refine Tr.assign J J J (Tr.nil (at_n (Sat.ret (at_r (en_r ?_)))))
    refine ⟨_, [], res_cell_tmp J J J Y79 J Sz79 (by exact mem5) (by exact Point.length zZ), sP, sP, ?_, rfl⟩
    exact (rdV_none (rd_n2 hxo hs9_7)).symm

end Go.Proofs.YtpacobmjjjillaaGreat
end

section
namespace Go.Proofs.YtpacobmjjjillaaGreat
open Go Hw
set_option linter.unusedVariables false
set_option linter.unusedSimpArgs false

open Ed

/-- SHA-512 -/
def sha512 (l : List UInt8) : List UInt8 := sumUp (allW kW startW l) 64
theorem sha512_length (l : List UInt8) : (sha512 l).length = 64 := sumUp_length _ _
theorem sha_StartS (s : List UInt64) (h : Hid (startW = s)) : Meets Tryz.prog 204 [] [] (fun _ => True) (fun v out => v = agg (wordsV s) ∧ out = []) := by
  rw [← h.out]; exact sha_Start

theorem sha_Sum512 (p : Option Addr) (n c : Nat) (ss : List Sl) (ls : List (List UInt8)) (hss : ss.length = n) (hls : ls.length = n) (hsl : ∀ j, j < n → (ss.getD j Sl.nil).n = (ls.getD j []).length ∧ ((ss.getD j Sl.nil).p = none → (ss.getD j Sl.nil).n = 0)) (F : List UInt8) (hF : ls.flatten = F) (htot : F.length ≤ 90000) (hn : n ≤ 1000000) (s : List UInt8) (hs : Hid (sha512 F = s))  : Meets Tryz.prog 160 [.slice p n c] [] (fun W => SeesP W p (ss.map Sl.v) ∧ ∀ j, j < n → SeesP W (ss.getD j Sl.nil).p (bytesV (ls.getD j []))) (fun v out => v = agg (bytesV s) ∧ out = []) := by
 intro W hW
 have hs64 : s.length = 64 := by rw [← hs.out]; exact sha512_length F
 obtain ⟨k, hk⟩ : ∃ k, Hid (kW = k) := ⟨_, ⟨rfl⟩⟩
 obtain ⟨st, hst⟩ : ∃ k, Hid (startW = k) := ⟨_, ⟨rfl⟩⟩
 obtain ⟨r, hr⟩ : ∃ r, Hid (allW k st F = r) := ⟨_, ⟨rfl⟩⟩
 have hk80 : k.length = 80 := by rw [← hk.out]; rfl
 have hst8 : st.length = 8 := by rw [← hst.out]; rfl
 have hr8 : r.length = 8 := by rw [← hr.out, allW_length]; exact hst8
 have hs2 : Hid (sumUp r 64 = s) := ⟨by rw [← hs.out, sha512, hk.out, hst.out, hr.out]⟩
 refine calls_of (hp0 := []) Tryz.func160 J 7 Tryz.ntmps160 J (HRep.nil _) (Sat.seq (Sat.region (Tr.alloc (cs := (bytesV (List.replicate 64 0))) J Zr26 J ?_)))
 intro n2 hn2 hf2
 refine Tr.nil (at_n (Sat.seq (Sat.region (Tr.callV J J J J Body204 (sha_StartS st hst) (fun _ _ => trivial) (Tr.move J J J (Tr.callV J J J J Body127 (sha_whole st hst8 k hk hk80 p n c ss ls hss hls hsl F hF htot hn) (fun w h => ⟨seesP_ext h J hW.1, fun j hj => seesP_ext h J (hW.2 j hj)⟩) ?_))))))
 rw [hr.out]
 refine Tr.callV J J J J Body126 (sha_sum r hr8 s hs2) (fun _ _ => trivial) (Tr.storeAll J J J J zE Sz26 (by (simp [hs64]; done)) Z0 sP zU ?_)
 refine Tr.nil (at_n (Sat.ret (en_r ?_)))
 refine ⟨_, [], res_cell J J Y26 J Sz26 Z0 (by simp [hs64]), sP, sP, ?_, rfl⟩
 rfl

theorem sign_residue (p : Option Addr) (n c : Nat) (ss : List Sl) (ls : List (List UInt8)) (hss : ss.length = n) (hls : ls.length = n) (hsl : ∀ j, j < n → (ss.getD j Sl.nil).n = (ls.getD j []).length ∧ ((ss.getD j Sl.nil).p = none → (ss.getD j Sl.nil).n = 0)) (F : List UInt8) (hF : ls.flatten = F) (htot : F.length ≤ 90000) (hn : n ≤ 1000000) (s : List UInt8) (hs : Hid (sha512 F = s))  : Meets Tryz.prog 105 [.slice p n c] [] (fun W => SeesP W p (ss.map Sl.v) ∧ ∀ j, j < n → SeesP W (ss.getD j Sl.nil).p (bytesV (ls.getD j []))) (fun v out => v = agg (bytesV (leb 32 (le s % L))) ∧ out = []) := by
 intro W hW
 have hs64 : s.length = 64 := by rw [← hs.out]; exact sha512_length F
 refine calls_of (hp0 := []) Tryz.func105 J 14 Tryz.ntmps105 J (HRep.nil _) (Sat.seq (Sat.region (Tr.alloc (cs := (bytesV (List.replicate 32 0))) J Zr77 J ?_)))
 intro n2 hn2 hf2
 refine Tr.nil (at_n (Sat.seq (Sat.region (Tr.move J J J (Tr.callV J J J J Body160 (sha_Sum512 p n c ss ls hss hls hsl F hF htot hn s hs) (fun w h => ⟨seesP_ext h J hW.1, fun j hj => seesP_ext h J (hW.2 j hj)⟩) (Tr.alloc (cs := (bytesV (List.replicate 64 0))) J Zr26 J ?_))))))
 intro n3 hn3 hf3
 refine Tr.storeAll J J J J zE Sz26 (by (simp [hs64]; done)) Z0 sP zU ?_
 refine Tr.nil (at_n (Sat.seq (Sat.region (Tr.sliceArr J J J Y26 Sz5 (Tr.callV J J J J Body161 (scalar_rest n3 0 64 64 s hs64 dE) (fun w h => sees_own h Z0) ?_)))))
 refine Tr.move J J J (Tr.extract J J J J (Tr.extract J J J J (Tr.alloc (cs := (bytesV (List.replicate 32 0))) J Zr77 J ?_)))
 intro n4 hn4 hf4
 refine Tr.storeAll J J J J zE Sz77 (by (simp [leb_length]; done)) Z0 sP zU ?_
 refine Tr.assign J J J (Tr.nil (at_n (Sat.seq (Sat.region (Tr.loadAll J J J Y77 J Sz77 Z0 (by (simp [leb_length]; done)) ?_)))))
 refine Tr.storeAll J J J J zE Sz77 (by (simp [leb_length]; done)) Z2 sP (by exact upd2) ?_
 refine Tr.nil (at_n (Sat.ret (en_r ?_)))
 refine ⟨_, [], res_cell J J Y77 J Sz77 Z2 (by simp [leb_length]), sP, sP, ?_, rfl⟩
 rfl

theorem sign_multiple (a : List UInt8) (ha : a.length = 32) : Meets Tryz.prog 103 [agg (bytesV a)] [] (fun _ => True) (fun v out => v = agg (bytesV (pb (cv.mul (le a) bP))) ∧ out = []) := by
 intro W hW
 obtain ⟨Q, hQ⟩ : ∃ Q, cv.mul (le a) bP = Q := ⟨_, rfl⟩
 have hQo : cv.on Q := by rw [← hQ]; exact cv.on_mul bP_on _
 have hmul := curve_Mul a bP ha bP_on
 rw [hQ] at hmul ⊢
 refine calls_of (hp0 := []) Tryz.func103 J 13 Tryz.ntmps103 J (HRep.nil _) (Sat.seq (Sat.region (Tr.boxA J J ?_)))
 intro n1 hn1 hf1
 refine Tr.alloc (cs := (bytesV (List.replicate 32 0))) J Zr23 J ?_
 intro n2 hn2 hf2
 refine Tr.nil (at_n (Sat.seq (Sat.draw [(1, 0), (3, 1), (3, 2), (3, 3), (0, 4), (0, 5), (0, 6), (2, 7), (4, 8), (0, 9)] Mixed zK (Tr.loadAll J J J Y77 J Sz77 Z1 (by (simp [ha]; done)) ?_))))
 refine Tr.callV J J J J Body110 (curve_Base) (fun _ _ => trivial) (Tr.callV J J J J Body159 (hmul) (fun _ _ => trivial) (Tr.callV J J J J Body158 (curve_Bytes Q hQo) (fun _ _ => trivial) (Tr.move J J J (Tr.extract J J J J (Tr.extract J J J J (Tr.alloc (cs := (bytesV (List.replicate 32 0))) J Zr23 J ?_))))))
 intro n3 hn3 hf3
 refine Tr.storeAll J J J J zE Sz23 (by (simp [pb_length]; done)) Z0 sP zU ?_
 refine Tr.assign J J J (Tr.nil (at_n (Sat.seq (Sat.region (Tr.loadAll J J J Y23 J Sz23 Z0 (by (simp [pb_length]; done)) ?_)))))
 refine Tr.storeAll J J J J zE Sz23 (by (simp [pb_length]; done)) Z1 sP zV ?_
 refine Tr.nil (at_n (Sat.ret (en_r ?_)))
 refine ⟨_, [], res_cell J J Y23 J Sz23 Z1 (by simp [pb_length]), sP, sP, ?_, rfl⟩
 rfl

/-- the secret number of 32 bytes -/
def clampB (l : List UInt8) : List UInt8 := (l.set 0 (l.getD 0 0 &&& 248)).set 31 (((l.getD 31 0) &&& 127) ||| 64)
theorem clampB_length {l : List UInt8} (h : l.length = 32) : (clampB l).length = 32 := by simp [clampB, h]
theorem clamp_all (l z : List UInt8) (h : l.length = 32) : ((l ++ z).set 0 ((l ++ z).getD 0 0 &&& 248)).set 31 (((((l ++ z).set 0 ((l ++ z).getD 0 0 &&& 248)).getD 31 0) &&& 127) ||| 64) = clampB l ++ z := by
  have g : ∀ i, i < 32 → (l ++ z).getD i 0 = l.getD i 0 := fun i hi => by
    rw [List.getD_eq_getElem?_getD, List.getElem?_append_left oM, ← List.getD_eq_getElem?_getD]
  have g2 : ((l ++ z).set 0 ((l ++ z).getD 0 0 &&& 248)).getD 31 0 = l.getD 31 0 := by
    rw [List.getD_eq_getElem?_getD, List.getElem?_set_ne dE, ← List.getD_eq_getElem?_getD, g 31 dE]
  rw [g2, g 0 dE, List.set_append_left _ _ oM, List.set_append_left _ _ (by simp; omega)]
  rfl
def secB (h : List UInt8) : secrets := ⟨clampB (h.take 32), h.drop 32⟩
theorem secB_ok {h : List UInt8} (hl : h.length = 64) : (secB h).ok := ⟨clampB_length (by rw [List.length_take, hl]; rfl), by show (h.drop 32).length = 32; rw [List.length_drop, hl]⟩
theorem sec_first (l : List UInt8) : ({ secrets.zero with fNumber := l } : secrets).cells = bytesV (l ++ List.replicate 32 0) := by
  show bytesV l ++ bytesV (List.replicate 32 0) = _
  simp [bytesV]
theorem sec_last (l : List UInt8) : bytesV (clampB l ++ List.replicate 32 0) = (⟨clampB l, List.replicate 32 0⟩ : secrets).cells := by
  show _ = bytesV (clampB l) ++ bytesV (List.replicate 32 0)
  simp [bytesV]
theorem d64 {s : List UInt8} (h : s.length = 64) : (s.drop 32).take 32 = s.drop 32 := List.take_of_length_le (by rw [List.length_drop, h]; decide)

theorem sign_expand (seed : List UInt8) (h32 : seed.length = 32) (s : List UInt8) (hs : Hid (sha512 seed = s)) : Meets Tryz.prog 104 [agg (bytesV seed)] [] (fun _ => True) (fun v out => v = agg (secB s).cells ∧ out = []) := by
 intro W hW
 have hs64 : s.length = 64 := by rw [← hs.out]; exact sha512_length seed
 have ht32 : (s.take 32).length = 32 := by rw [List.length_take, hs64]; rfl
 have hd32 : (s.drop 32).length = 32 := by rw [List.length_drop, hs64]
 refine calls_of (hp0 := []) Tryz.func104 J 29 Tryz.ntmps104 J (HRep.nil _) (Sat.seq (Sat.region (Tr.boxA J J ?_)))
 intro n1 hn1 hf1
 refine Tr.alloc (cs := secrets.zero.cells) J secrets.zr J ?_
 intro n2 hn2 hf2
 refine Tr.nil (at_n (Sat.seq (Sat.region (Tr.sliceArr J J J Y23 Sz5 (Tr.mkRow2 (z := .slice none 0 0) [.slice (some ⟨n1, 0, none⟩) 32 32] [.slice (some ⟨n1, 0, none⟩) 32 32] rfl J Y133 Sz39 Zr39 J J (by intro v hv; rw [List.mem_singleton.1 hv]; rfl) dE J ?_)))))
 intro q5
 refine Tr.callV J J J J Body160 (sha_Sum512 (some ⟨q5, 0, none⟩) 1 1 [⟨some ⟨n1, 0, none⟩, 32, 32⟩] [seed] rfl J (fun j hj => (by obtain rfl : j = 0 := oM; exact ⟨by simp [h32], fun e => by cases e⟩)) seed sP oM dE s hs) (fun w h => ⟨SeesP.of (sees_own h Z0), fun j hj => (by obtain rfl : j = 0 := oM; exact SeesP.of (sees_own h Z2))⟩) ?_
 refine Tr.alloc (cs := (bytesV (List.replicate 64 0))) J Zr26 J ?_
 intro n3 hn3 hf3
 refine Tr.storeAll J J J J zE Sz26 (by (simp [hs64]; done)) Z0 sP zU ?_
 refine Tr.nil (at_n (Sat.seq (Sat.region (Tr.sliceArrHi 32 J J J J J dE dE Y26 Sz5 (Tr.s2a J J J Y77 oM (Tr.loadN (bytesV (s.take 32)) J J J Y77 J Sz77 Z0 (by rw [List.drop_zero, ← List.map_take]) (by rw [List.length_map]; exact ht32) ?_))))))
 refine Tr.fld J J J Tryz.underlying114 J Sz77 dE _ J (Tr.storeN (bytesV _) J J J J J zE Sz77 (by simp [hs64]) Z2 (by rw [secrets.length (by exact secrets.zero_ok)]; simp [hs64]) (secrets.upd_fNumber (by exact secrets.zero_ok) _ (by simp [ht32])) (by exact upd2) ?_)
 refine Tr.nil (at_n (Sat.seq (Sat.region ?_)))
 rw [sec_first]
 refine Tr.fld J J J Tryz.underlying114 J Sz77 dE _ J (Tr.idxArr1 J J J J Y77 Sz5 0 J dE (Tr.load1 J J J Y5 J Z2 (get_bytes (by simp [ht32])) ?_))
 refine Tr.and_u8 J J J (show evIn _ _ = some (u8 248) from rfl) (Tr.fld J J J Tryz.underlying114 J Sz77 dE _ J (Tr.idxArr1 J J J J Y77 Sz5 0 J dE (Tr.store1 J J J J J Sz5 Z2 (by rw [bytesV, List.length_map]; simp [ht32]) (by exact set_bytes _ 0 _) (by exact upd2) ?_)))
 refine Tr.nil (at_n (Sat.seq (Sat.region (Tr.fld J J J Tryz.underlying114 J Sz77 dE _ J (Tr.idxArr1 J J J J Y77 Sz5 31 J dE (Tr.load1 J J J Y5 J Z2 (get_bytes (by simp [ht32])) ?_))))))
 refine Tr.and_u8 J J J (show evIn _ _ = some (u8 127) from rfl) (Tr.or_u8 J J J (show evIn _ _ = some (u8 64) from rfl) (Tr.fld J J J Tryz.underlying114 J Sz77 dE _ J (Tr.idxArr1 J J J J Y77 Sz5 31 J dE (Tr.store1 J J J J J Sz5 Z2 (by rw [bytesV, List.length_map]; simp [ht32]) (by exact set_bytes _ 31 _) (by exact upd2) ?_))))
 refine Tr.nil (at_n (Sat.seq (Sat.region ?_)))
 rw [clamp_all _ _ ht32, sec_last]
 refine Tr.sliceArrLo 32 J J J J J dE Y26 Sz5 (Tr.s2a J J J Y23 oM (Tr.loadN (bytesV (s.drop 32)) J J J Y23 J Sz23 Z0 (by show ((s.map u8).drop 32).take 32 = _; rw [← List.map_drop, ← List.map_take, d64 hs64]) (by rw [List.length_map]; exact hd32) ?_))
 refine Tr.fld J J J Tryz.underlying114 J Sz23 dE _ J (Tr.storeN (bytesV _) J J J J J zE Sz23 (by simp [hs64]) Z2 (by rw [secrets.length (by exact ⟨clampB_length ht32, rfl⟩)]; simp [hs64]) (secrets.upd_fRest (by exact ⟨clampB_length ht32, rfl⟩) _ (by simp [hd32])) (by exact upd2) ?_)
 refine Tr.nil (at_n (Sat.seq (Sat.region (Tr.loadAll J J J Tryz.underlying114 J Sz114 Z2 (secrets.length (by exact secB_ok hs64)) ?_))))
 refine Tr.storeAll J J J J (secrets.isCell (by exact secB_ok hs64)) Sz114 (secrets.length (by exact secB_ok hs64)) Z2 (secrets.length (by exact secB_ok hs64)) (by exact upd2) ?_
 refine Tr.nil (at_n (Sat.ret (en_r ?_)))
 refine ⟨_, [], res_cell J J Tryz.underlying114 J Sz114 Z2 (by exact secrets.length (by exact secB_ok hs64)), sP, sP, ?_, rfl⟩
 rfl

theorem sign_Key (seed : List UInt8) (h32 : seed.length = 32) (s : List UInt8) (hs : Hid (sha512 seed = s)) : Meets Tryz.prog 58 [agg (bytesV seed)] [] (fun _ => True) (fun v out => v = agg (bytesV (pb (cv.mul (le (clampB (s.take 32))) bP))) ∧ out = []) := by
 intro W hW
 have hs64 : s.length = 64 := by rw [← hs.out]; exact sha512_length seed
 have hc32 : (clampB (s.take 32)).length = 32 := clampB_length (by rw [List.length_take, hs64]; rfl)
 have hm := sign_multiple (clampB (s.take 32)) hc32
 refine calls_of (hp0 := []) Tryz.func58 J 7 Tryz.ntmps58 J (HRep.nil _) (Sat.seq (Sat.region (Tr.boxA J J ?_)))
 intro n1 hn1 hf1
 refine Tr.alloc (cs := (bytesV (List.replicate 32 0))) J Zr25 J ?_
 intro n2 hn2 hf2
 refine Tr.nil (at_n (Sat.seq (Sat.region (Tr.loadAll J J J Y23 J Sz23 Z1 (by (simp [h32]; done)) ?_))))
 refine Tr.callV J J J J Body104 (sign_expand seed h32 s hs) (fun _ _ => trivial) (Tr.fieldN (bytesV (clampB (s.take 32))) J J J Tryz.underlying114 J Y77 J Sz77 (secrets.row_fNumber (secB_ok hs64)) (Tr.callV J J J J Body103 (hm) (fun _ _ => trivial) (Tr.storeAll J J J J zE Sz25 (by (simp [pb_length]; done)) Z0 sP zU ?_)))
 refine Tr.nil (at_n (Sat.ret (en_r ?_)))
 refine ⟨_, [], res_cell J J Y25 J Sz25 Z0 (by simp [pb_length]), sP, sP, ?_, rfl⟩
 rfl

end Go.Proofs.YtpacobmjjjillaaGreat
end

section
namespace Go.Proofs.YtpacobmjjjillaaGreat
open Go Hw
set_option linter.unusedVariables false
set_option linter.unusedSimpArgs false

open Ed

/-- the residue of a hash -/
def sgR (s : List UInt8) : List UInt8 := leb 32 (le s % L)
theorem sgR_length (s : List UInt8) : (sgR s).length = 32 := leb_length _ _
def sgF (s1 : List UInt8) : List UInt8 := pb (cv.mul (le (sgR s1)) bP)
def sgK (s : List UInt8) : List UInt8 := pb (cv.mul (le (clampB (s.take 32))) bP)
theorem sgF_length (s : List UInt8) : (sgF s).length = 32 := pb_length _
theorem sgK_length (s : List UInt8) : (sgK s).length = 32 := pb_length _
def sgS (s s1 s2 : List UInt8) : List UInt8 := leb 32 ((le (sgR s2) * le (clampB (s.take 32)) + le (sgR s1)) % L)
theorem sgS_length (s s1 s2 : List UInt8) : (sgS s s1 s2).length = 32 := leb_length _ _
theorem upd_first {f : List UInt8} (h : f.length = 32) : upd (bytesV (List.replicate 64 0)) 0 (bytesV f) = bytesV (f ++ List.replicate 32 0) := by
  simp [upd, bytesV, h]
theorem upd_last {f g : List UInt8} (h : f.length = 32) (hg : g.length = 32) : upd (bytesV (f ++ List.replicate 32 0)) 32 (bytesV g) = bytesV (f ++ g) := by
  simp [upd, bytesV, h, hg]

theorem sign_residueR (p : Option Addr) (n c : Nat) (ss : List Sl) (ls : List (List UInt8)) (hss : ss.length = n) (hls : ls.length = n) (hsl : ∀ j, j < n → (ss.getD j Sl.nil).n = (ls.getD j []).length ∧ ((ss.getD j Sl.nil).p = none → (ss.getD j Sl.nil).n = 0)) (F : List UInt8) (hF : ls.flatten = F) (htot : F.length ≤ 90000) (hn : n ≤ 1000000) (s : List UInt8) (hs : Hid (sha512 F = s)) (r : List UInt8) (hr : Hid (sgR s = r))  : Meets Tryz.prog 105 [.slice p n c] [] (fun W => SeesP W p (ss.map Sl.v) ∧ ∀ j, j < n → SeesP W (ss.getD j Sl.nil).p (bytesV (ls.getD j []))) (fun v out => v = agg (bytesV r) ∧ out = []) := by
  have h := sign_residue p n c ss ls hss hls hsl F hF htot hn s hs
  rwa [show leb 32 (le s % L) = r from hr.out] at h

theorem take_sees {l : List UInt8} {n i : Nat} {v : Value} (h : (bytesV (l.take n))[i]? = some v) : (bytesV l)[i]? = some v := by
  rw [bytesV, List.map_take, List.getElem?_take] at h
  split at h
  · exact h
  · cases h

theorem sign_Sign (seed : List UInt8) (h32 : seed.length = 32) (sb : Sl) (bb : List UInt8) (hbn : bb.length ≤ 80000) (s s1 s2 : List UInt8) (hs : Hid (sha512 seed = s)) (hs1 : Hid (sha512 (s.drop 32 ++ bb) = s1)) (hs2 : Hid (sha512 (sgF s1 ++ (sgK s ++ bb)) = s2)) : Meets Tryz.prog 59 [agg (bytesV seed), sb.v] [] (fun W => BytesAt W sb bb) (fun v out => v = agg (bytesV (sgF s1 ++ sgS s s1 s2)) ∧ out = []) := by
 intro W hW
 have hs64 : s.length = 64 := by rw [← hs.out]; exact sha512_length seed
 have hexp := sign_expand seed h32 s hs
 obtain ⟨sc, hsc⟩ : ∃ sc, secB s = sc := ⟨_, rfl⟩
 rw [hsc] at hexp
 have hok : sc.ok := by rw [← hsc]; exact secB_ok hs64
 have hnum : clampB (s.take 32) = sc.fNumber := by rw [← hsc]; rfl
 have hrst : s.drop 32 = sc.fRest := by rw [← hsc]; rfl
 have hnl := hok.l_fNumber
 have hrl := hok.l_fRest
 obtain ⟨r1, hr1⟩ : ∃ r, Hid (sgR s1 = r) := ⟨_, ⟨rfl⟩⟩
 obtain ⟨r2, hr2⟩ : ∃ r, Hid (sgR s2 = r) := ⟨_, ⟨rfl⟩⟩
 have hr1l : r1.length = 32 := by rw [← hr1.out]; exact sgR_length s1
 have hr2l : r2.length = 32 := by rw [← hr2.out]; exact sgR_length s2
 have hm1 := sign_multiple sc.fNumber hnl
 have hm2 := sign_multiple r1 hr1l
 obtain ⟨K1, hK1⟩ : ∃ l, Hid (sgK s = l) := ⟨_, ⟨rfl⟩⟩
 obtain ⟨F1, hF1⟩ : ∃ l, Hid (sgF s1 = l) := ⟨_, ⟨rfl⟩⟩
 obtain ⟨S1, hS1⟩ : ∃ l, Hid (sgS s s1 s2 = l) := ⟨_, ⟨rfl⟩⟩
 have hF1l : F1.length = 32 := by rw [← hF1.out]; exact sgF_length s1
 have hK1l : K1.length = 32 := by rw [← hK1.out]; exact sgK_length s
 have hSl : S1.length = 32 := by rw [← hS1.out]; exact sgS_length s s1 s2
 rw [show pb (cv.mul (le sc.fNumber) bP) = K1 from by rw [← hK1.out, sgK, hnum]] at hm1
 rw [show pb (cv.mul (le r1) bP) = F1 from by rw [← hF1.out, sgF, hr1.out]] at hm2
 have hma := scalar_muladd r2 sc.fNumber r1 hr2l hnl hr1l
 rw [show leb 32 ((le r2 * le sc.fNumber + le r1) % L) = S1 from by rw [← hS1.out, sgS, hr1.out, hr2.out, hnum]] at hma
 rw [hF1.out, hS1.out]
 rw [hF1.out, hK1.out] at hs2
 rw [hrst] at hs1
 clear hsc hnum hrst
 refine calls_of (hp0 := []) Tryz.func59 J 39 Tryz.ntmps59 J (HRep.nil _) (Sat.seq (Sat.region (Tr.boxA J J ?_)))
 intro n2 hn2 hf2
 refine Tr.alloc (cs := (bytesV (List.replicate 64 0))) J Zr27 J ?_
 intro n4 hn4 hf4
 refine Tr.nil (at_n (Sat.seq (Sat.region (Tr.loadAll J J J Y23 J Sz23 Z1 (by (simp [h32]; done)) ?_))))
 refine Tr.callV J J J J Body104 (hexp) (fun _ _ => trivial) (Tr.alloc (cs := secrets.zero.cells) J secrets.zr J ?_)
 intro n5 hn5 hf5
 refine Tr.storeAll J J J J (secrets.isCell (by exact hok)) Sz114 (secrets.length (by exact hok)) Z0 (secrets.length (by exact secrets.zero_ok)) zU ?_
 refine Tr.nil (at_n (Sat.seq (Sat.region (Tr.fld J J J Tryz.underlying114 J Sz77 dE _ J (Tr.loadN (bytesV _) J J J Y77 J Sz77 Z0 (secrets.row_fNumber (by exact hok)) (secrets.rl_fNumber (by exact hok)) ?_)))))
 refine Tr.callV J J J J Body103 (hm1) (fun _ _ => trivial) (Tr.alloc (cs := (bytesV (List.replicate 32 0))) J Zr23 J ?_)
 intro n6 hn6 hf6
 refine Tr.storeAll J J J J zE Sz23 (by (simp [hK1l]; done)) Z0 sP zU ?_
 refine Tr.nil (at_n (Sat.seq (Sat.region (Tr.fld J J J Tryz.underlying114 J Sz23 dE _ J (Tr.sliceArr J J J Y23 Sz5 (Tr.move J J J (Tr.mkRow2 (z := .slice none 0 0) [.slice (some ⟨n5, 32, none⟩) 32 32, sb.v] [.slice (some ⟨n5, 32, none⟩) 32 32, sb.v] rfl J Y133 Sz39 Zr39 J J (by intro v hv; simp only [List.mem_cons, List.not_mem_nil, or_false] at hv; rcases hv with rfl | rfl <;> rfl) dE J ?_)))))))
 intro q19
 refine Tr.callV J J J J Body105 (sign_residueR (some ⟨q19, 0, none⟩) 2 2 [⟨some ⟨n5, 32, none⟩, 32, 32⟩, sb] [sc.fRest, bb] rfl J (fun j hj => (by
   rcases (show j = 0 ∨ j = 1 by omega) with rfl | rfl
   · exact ⟨by show 32 = List.length _; exact hrl.symm, fun e => by cases e⟩
   · exact ⟨by show sb.n = bb.length; exact hW.len.symm, fun e => by have h1 := hW.nil e; have h2 := hW.cap; show sb.n = 0; omega⟩)) (sc.fRest ++ bb) sP (by simp [hrl]; omega) dE s1 hs1 r1 hr1) (fun w h => ⟨SeesP.of (sees_own h Z0), (fun j hj => (by
   rcases (show j = 0 ∨ j = 1 by omega) with rfl | rfl
   · exact SeesP.of (by have h9 := sees_subC (sees_own h Z2) (secrets.see_fRest hok); exact h9)
   · exact seesP_ext h rfl hW.see))⟩) ?_
 refine Tr.alloc (cs := (bytesV (List.replicate 32 0))) J Zr77 J ?_
 intro n7 hn7 hf7
 refine Tr.storeAll J J J J zE Sz77 (by (simp [hr1l]; done)) Z0 sP zU ?_
 refine Tr.nil (at_n (Sat.seq (Sat.region (Tr.loadAll J J J Y77 J Sz77 Z0 (by (simp [hr1l]; done)) ?_))))
 refine Tr.callV J J J J Body103 (hm2) (fun _ _ => trivial) (Tr.alloc (cs := (bytesV (List.replicate 32 0))) J Zr23 J ?_)
 intro n8 hn8 hf8
 refine Tr.storeAll J J J J zE Sz23 (by (simp [hF1l]; done)) Z0 sP zU ?_
 refine Tr.nil (at_n (Sat.seq (Sat.draw [(0, 0), (0, 1), (0, 2), (0, 5), (1, 6), (1, 7), (2, 3), (3, 4), (3, 8), (2, 9), (4, 10)] Mixed zK (Tr.sliceArr J J J Y23 Sz5 (Tr.sliceArr J J J Y23 Sz5 (Tr.move J J J (Tr.fld J J J Tryz.underlying114 J Sz77 dE _ J (Tr.loadN (bytesV _) J J J Y77 J Sz77 Z4 (secrets.row_fNumber (by exact hok)) (secrets.rl_fNumber (by exact hok)) ?_))))))))
 refine Tr.loadAll J J J Y77 J Sz77 Z1 (by (simp [hr1l]; done)) ?_
 refine Tr.mkRow2 (z := .slice none 0 0) [.slice (some ⟨n8, 0, none⟩) 32 32, .slice (some ⟨n6, 0, none⟩) 32 32, sb.v] [.slice (some ⟨n8, 0, none⟩) 32 32, .slice (some ⟨n6, 0, none⟩) 32 32, sb.v] rfl J Y133 Sz39 Zr39 J J (by intro v hv; simp only [List.mem_cons, List.not_mem_nil, or_false] at hv; rcases hv with rfl | rfl | rfl <;> rfl) dE J ?_
 intro q26
 refine Tr.callV J J J J Body105 (sign_residueR (some ⟨q26, 0, none⟩) 3 3 [⟨some ⟨n8, 0, none⟩, 32, 32⟩, ⟨some ⟨n6, 0, none⟩, 32, 32⟩, sb] [F1, K1, bb] rfl J (fun j hj => (by
   rcases (show j = 0 ∨ j = 1 ∨ j = 2 by omega) with rfl | rfl | rfl
   · exact ⟨by show 32 = List.length _; exact hF1l.symm, fun e => by cases e⟩
   · exact ⟨by show 32 = List.length _; exact hK1l.symm, fun e => by cases e⟩
   · exact ⟨by show sb.n = bb.length; exact hW.len.symm, fun e => by have h1 := hW.nil e; have h2 := hW.cap; show sb.n = 0; omega⟩)) (F1 ++ (K1 ++ bb)) sP (by simp [hF1l, hK1l]; omega) dE s2 hs2 r2 hr2) (fun w h => ⟨SeesP.of (sees_own h Z0), (fun j hj => (by
   rcases (show j = 0 ∨ j = 1 ∨ j = 2 by omega) with rfl | rfl | rfl
   · exact SeesP.of (sees_own (cs := bytesV F1) h Z1)
   · exact SeesP.of (sees_own (cs := bytesV K1) h Z4)
   · exact seesP_ext h rfl hW.see))⟩) ?_
 refine Tr.callV J J J J Body106 (hma) (fun _ _ => trivial) (Tr.alloc (cs := (bytesV (List.replicate 32 0))) J Zr77 J ?_)
 intro n9 hn9 hf9
 refine Tr.storeAll J J J J zE Sz77 (by (simp [hSl]; done)) Z0 sP zU ?_
 refine Tr.nil (at_n (Sat.seq (Sat.region (Tr.alloc (cs := (bytesV (List.replicate 64 0))) J Zr27 J ?_))))
 intro n10 hn10 hf10
 refine Tr.nil (at_n (Sat.seq (Sat.draw [(0, 0), (0, 1), (4, 2)] Mixed zK (Tr.sliceArrHi 32 J J J J J dE dE Y27 Sz5 (Tr.sliceArr J J J Y23 Sz5 (Tr.copyP (bytesV F1) 32 J J J J J Y39 Sz5 (fun w h => SeesP.of (sees_own h Z3)) (fun e => by cases e) (by rw [bytesV, List.length_map]; exact hF1l) J (by rw [bytesV, ← List.map_take, List.take_of_length_le (Nat.le_of_eq hF1l)]) (bytesV_cell _) Z0 sP (by exact upd_first hF1l) zU ?_))))))
 refine Tr.nil (at_n (Sat.seq (Sat.draw [(0, 0), (0, 1), (4, 2)] Mixed zK (Tr.sliceArrLo 32 J J J J J dE Y27 Sz5 (Tr.sliceArr J J J Y77 Sz5 (Tr.copyP (bytesV S1) 32 J J J J J Y39 Sz5 (fun w h => SeesP.of (sees_own h Z1)) (fun e => by cases e) (by rw [bytesV, List.length_map]; exact hSl) J (by rw [bytesV, ← List.map_take, List.take_of_length_le (Nat.le_of_eq hSl)]) (bytesV_cell _) Z0 (by (simp; omega)) (by exact upd_last hF1l hSl) zU ?_))))))
 refine Tr.nil (at_n (Sat.seq (Sat.region (Tr.loadAll J J J Y27 J Sz27 Z0 (by (simp [hF1l, hSl]; done)) ?_))))
 refine Tr.storeAll J J J J zE Sz27 (by (simp [hF1l, hSl]; done)) (by (repeat (first | exact List.mem_cons_self | refine List.mem_cons_of_mem _ ?_))) sP (by (repeat (first | exact upd0 | apply Upd.tail))) ?_
 refine Tr.nil (at_n (Sat.ret (en_r ?_)))
 refine ⟨_, [], res_cell J J Y27 J Sz27 (by (repeat (first | exact List.mem_cons_self | refine List.mem_cons_of_mem _ ?_))) (by simp [hF1l, hSl]), sP, sP, ?_, rfl⟩
 rfl

theorem curve_Read_none (b : List UInt8) (hb : b.length = 32) (h : rdP b = none) : Meets Tryz.prog 108 [agg (bytesV b)] [] (fun _ => True) (fun v out => v = .tuple #[agg Point.zero.cells, i64 4] ∧ out = []) := by
  have := curve_Read b hb
  rwa [rdV_none h] at this
theorem curve_Read_some (b : List UInt8) (P : Pt Fp) (hb : b.length = 32) (h : rdP b = some P) : Meets Tryz.prog 108 [agg (bytesV b)] [] (fun _ => True) (fun v out => v = .tuple #[agg (ptc P).cells, i64 0] ∧ out = []) := by
  have := curve_Read b hb
  rwa [rdV_some h] at this
open Classical in
noncomputable def goodB (k bb sg : List UInt8) : Bool := decide (le (sg.drop 32) < L ∧ ∃ A R, rdP k = some A ∧ rdP (sg.take 32) = some R ∧ cv.lin (le (sg.drop 32)) (le (sgR (sha512 (sg.take 32 ++ (k ++ bb))))) bP (neg A) = R)
theorem good_dec {k bb sg : List UInt8} {A R Q : Pt Fp} (h1 : le (sg.drop 32) < L) (h2 : rdP k = some A) (h3 : rdP (sg.take 32) = some R) (h4 : cv.lin (le (sg.drop 32)) (le (sgR (sha512 (sg.take 32 ++ (k ++ bb))))) bP (neg A) = Q) : @decide (ptc Q = ptc R) (Classical.propDecidable _) = goodB k bb sg := by
  rw [goodB, Bool.eq_iff_iff]
  simp only [decide_eq_true_eq, ptc_inj]
  constructor
  · intro h
    exact ⟨h1, A, R, h2, h3, h4.trans h⟩
  · rintro ⟨_, A', R', e1, e2, e3⟩
    rw [h2] at e1; rw [h3] at e2
    cases e1; cases e2
    exact h4.symm.trans e3
theorem good_no {k bb sg : List UInt8} (h : ¬ (le (sg.drop 32) < L ∧ (∃ A, rdP k = some A) ∧ ∃ R, rdP (sg.take 32) = some R)) : goodB k bb sg = false := by
  rw [goodB, decide_eq_false_iff_not]
  intro e
  refine h ?_
  obtain ⟨h1, A, R, h2, h3, _⟩ := e
  exact ⟨h1, ⟨A, h2⟩, ⟨R, h3⟩⟩

theorem sign_Good_c (k : List UInt8) (hk : k.length = 32) (sb : Sl) (bb : List UInt8) (hbn : bb.length ≤ 80000) (sg : List UInt8) (hsg : sg.length = 64) (hc : ¬ le (sg.drop 32) < L) : Meets Tryz.prog 60 [agg (bytesV k), sb.v, agg (bytesV sg)] [] (fun W => BytesAt W sb bb) (fun v out => v = .bool false ∧ out = []) := by
 intro W hW
 have hd32 : (sg.drop 32).length = 32 := by rw [List.length_drop, hsg]
 have ht32 : (sg.take 32).length = 32 := by rw [List.length_take, hsg]; rfl
 refine calls_of (hp0 := []) Tryz.func60 J 45 Tryz.ntmps60 J (HRep.nil _) (Sat.seq (Sat.region (Tr.boxA J J ?_)))
 intro n3 hn3 hf3
 refine Tr.boxA J J ?_
 intro n5 hn5 hf5
 refine Tr.assign J J J (Tr.nil (at_n (Sat.seq (Sat.region (Tr.sliceArrLo 32 J J J J J dE Y27 Sz5 (Tr.s2a J J J Y77 oM (Tr.loadN (bytesV (sg.drop 32)) J J J Y77 J Sz77 Z0 (by show ((sg.map u8).drop 32).take 32 = _; rw [← List.map_drop, ← List.map_take, d64 hsg]) (by rw [List.length_map]; exact hd32) ?_)))))))
 refine Tr.alloc (cs := (bytesV (List.replicate 32 0))) J Zr77 J ?_
 intro n7 hn7 hf7
 refine Tr.storeAll J J J J zE Sz77 (by (simp [hsg]; done)) Z0 sP zU ?_
 refine Tr.nil (at_n (Sat.seq (Sat.seq (Sat.region (Tr.loadAll J J J Y77 J Sz77 Z0 (by (simp [hsg]; done)) ?_)))))
 refine Tr.callV J J J J Body107 (scalar_canon (sg.drop 32) hd32) (fun _ _ => trivial) (Tr.not J J J (Tr.nil (at_n (Sat.cond_t J (by rw [decide_eq_false hc]; rfl) ?_))))
 refine Sat.seq (Sat.region (Tr.assign J J J (Tr.nil (at_n (Sat.ret (at_r (en_r ?_)))))))
 refine ⟨_, [], res_tmp J J, sP, sP, ?_, rfl⟩
 rfl

theorem sign_Good_k (k : List UInt8) (hk : k.length = 32) (sb : Sl) (bb : List UInt8) (hbn : bb.length ≤ 80000) (sg : List UInt8) (hsg : sg.length = 64) (hc : le (sg.drop 32) < L) (h1 : rdP k = none) : Meets Tryz.prog 60 [agg (bytesV k), sb.v, agg (bytesV sg)] [] (fun W => BytesAt W sb bb) (fun v out => v = .bool false ∧ out = []) := by
 intro W hW
 have hd32 : (sg.drop 32).length = 32 := by rw [List.length_drop, hsg]
 have ht32 : (sg.take 32).length = 32 := by rw [List.length_take, hsg]; rfl
 refine calls_of (hp0 := []) Tryz.func60 J 45 Tryz.ntmps60 J (HRep.nil _) (Sat.seq (Sat.region (Tr.boxA J J ?_)))
 intro n3 hn3 hf3
 refine Tr.boxA J J ?_
 intro n5 hn5 hf5
 refine Tr.assign J J J (Tr.nil (at_n (Sat.seq (Sat.region (Tr.sliceArrLo 32 J J J J J dE Y27 Sz5 (Tr.s2a J J J Y77 oM (Tr.loadN (bytesV (sg.drop 32)) J J J Y77 J Sz77 Z0 (by show ((sg.map u8).drop 32).take 32 = _; rw [← List.map_drop, ← List.map_take, d64 hsg]) (by rw [List.length_map]; exact hd32) ?_)))))))
 refine Tr.alloc (cs := (bytesV (List.replicate 32 0))) J Zr77 J ?_
 intro n7 hn7 hf7
 refine Tr.storeAll J J J J zE Sz77 (by (simp [hsg]; done)) Z0 sP zU ?_
 refine Tr.nil (at_n (Sat.seq (Sat.seq (Sat.region (Tr.loadAll J J J Y77 J Sz77 Z0 (by (simp [hsg]; done)) ?_)))))
 refine Tr.callV J J J J Body107 (scalar_canon (sg.drop 32) hd32) (fun _ _ => trivial) (Tr.not J J J (Tr.nil (at_n (Sat.cond_f J (by rw [decide_eq_true hc]; rfl) ?_))))
 refine Sat.skip (at_n (Sat.seq (Sat.region (Tr.loadAll J J J Y25 J Sz25 Z2 (by (simp [hk]; done)) ?_))))
 refine Tr.callV J J J J Body108 (curve_Read_none k hk h1) (fun _ _ => trivial) (Tr.move J J J (Tr.extract J J J J (Tr.extract J J J J (Tr.alloc (cs := Point.zero.cells) J Point.zr J ?_))))
 intro n8 hn8 hf8
 refine Tr.storeAll J J J J (Point.isCell zZ) Sz79 (Point.length zZ) Z0 (Point.length zZ) zU ?_
 refine Tr.assign J J J (Tr.nil (at_n (Sat.seq (Sat.seq (Sat.region (Tr.move J J J (Tr.nei J J J J (show (!decide _) = true from congrArg not (decide_eq_false dE)) (Tr.nil (at_n (Sat.cond_t J (rfl) (Sat.seq (Sat.region (Tr.assign J J J (Tr.nil (at_n (Sat.ret (at_r (en_r ?_))))))))))))))))))
 refine ⟨_, [], res_tmp J J, sP, sP, ?_, rfl⟩
 rfl

theorem sign_Good_r (k : List UInt8) (hk : k.length = 32) (sb : Sl) (bb : List UInt8) (hbn : bb.length ≤ 80000) (sg : List UInt8) (hsg : sg.length = 64) (hc : le (sg.drop 32) < L) (A : Pt Fp) (h1 : rdP k = some A) (h2 : rdP (sg.take 32) = none) : Meets Tryz.prog 60 [agg (bytesV k), sb.v, agg (bytesV sg)] [] (fun W => BytesAt W sb bb) (fun v out => v = .bool false ∧ out = []) := by
 intro W hW
 have hd32 : (sg.drop 32).length = 32 := by rw [List.length_drop, hsg]
 have ht32 : (sg.take 32).length = 32 := by rw [List.length_take, hsg]; rfl
 refine calls_of (hp0 := []) Tryz.func60 J 45 Tryz.ntmps60 J (HRep.nil _) (Sat.seq (Sat.region (Tr.boxA J J ?_)))
 intro n3 hn3 hf3
 refine Tr.boxA J J ?_
 intro n5 hn5 hf5
 refine Tr.assign J J J (Tr.nil (at_n (Sat.seq (Sat.region (Tr.sliceArrLo 32 J J J J J dE Y27 Sz5 (Tr.s2a J J J Y77 oM (Tr.loadN (bytesV (sg.drop 32)) J J J Y77 J Sz77 Z0 (by show ((sg.map u8).drop 32).take 32 = _; rw [← List.map_drop, ← List.map_take, d64 hsg]) (by rw [List.length_map]; exact hd32) ?_)))))))
 refine Tr.alloc (cs := (bytesV (List.replicate 32 0))) J Zr77 J ?_
 intro n7 hn7 hf7
 refine Tr.storeAll J J J J zE Sz77 (by (simp [hsg]; done)) Z0 sP zU ?_
 refine Tr.nil (at_n (Sat.seq (Sat.seq (Sat.region (Tr.loadAll J J J Y77 J Sz77 Z0 (by (simp [hsg]; done)) ?_)))))
 refine Tr.callV J J J J Body107 (scalar_canon (sg.drop 32) hd32) (fun _ _ => trivial) (Tr.not J J J (Tr.nil (at_n (Sat.cond_f J (by rw [decide_eq_true hc]; rfl) ?_))))
 refine Sat.skip (at_n (Sat.seq (Sat.region (Tr.loadAll J J J Y25 J Sz25 Z2 (by (simp [hk]; done)) ?_))))
 refine Tr.callV J J J J Body108 (curve_Read_some k A hk h1) (fun _ _ => trivial) (Tr.move J J J (Tr.extract J J J J (Tr.extract J J J J (Tr.alloc (cs := Point.zero.cells) J Point.zr J ?_))))
 intro n8 hn8 hf8
 refine Tr.storeAll J J J J (Point.isCell zP) Sz79 (Point.length zP) Z0 (Point.length zZ) zU ?_
 refine Tr.assign J J J (Tr.nil (at_n (Sat.seq (Sat.seq (Sat.region (Tr.move J J J (Tr.nei J J J J (show (!decide _) = false from congrArg not (decide_eq_true (rfl))) (Tr.nil (at_n (Sat.cond_f J (rfl) (Sat.skip (at_n (Sat.seq (Sat.region (Tr.sliceArrHi 32 J J J J J dE dE Y27 Sz5 (Tr.s2a J J J Y23 oM (Tr.loadN (bytesV (sg.take 32)) J J J Y23 J Sz23 Z2 (by rw [List.drop_zero, ← List.map_take]) (by rw [List.length_map]; exact ht32) ?_)))))))))))))))))
 refine Tr.callV J J J J Body108 (curve_Read_none (sg.take 32) ht32 h2) (fun _ _ => trivial) (Tr.move J J J (Tr.extract J J J J (Tr.extract J J J J (Tr.alloc (cs := Point.zero.cells) J Point.zr J ?_))))
 intro n10 hn10 hf10
 refine Tr.storeAll J J J J (Point.isCell zZ) Sz79 (Point.length zZ) Z0 (Point.length zZ) zU ?_
 refine Tr.assign J J J (Tr.nil (at_n (Sat.seq (Sat.seq (Sat.region (Tr.move J J J (Tr.nei J J J J (show (!decide _) = true from congrArg not (decide_eq_false dE)) (Tr.nil (at_n (Sat.cond_t J (rfl) (Sat.seq (Sat.region (Tr.assign J J J (Tr.nil (at_n (Sat.ret (at_r (en_r ?_))))))))))))))))))
 refine ⟨_, [], res_tmp J J, sP, sP, ?_, rfl⟩
 rfl

theorem sign_Good_ok (k : List UInt8) (hk : k.length = 32) (sb : Sl) (bb : List UInt8) (hbn : bb.length ≤ 80000) (sg : List UInt8) (hsg : sg.length = 64) (hc : le (sg.drop 32) < L) (A R : Pt Fp) (h1 : rdP k = some A) (h2 : rdP (sg.take 32) = some R) (s r : List UInt8) (hs : Hid (sha512 (sg.take 32 ++ (k ++ bb)) = s)) (hr : Hid (sgR s = r)) (hrl : r.length = 32) : Meets Tryz.prog 60 [agg (bytesV k), sb.v, agg (bytesV sg)] [] (fun W => BytesAt W sb bb) (fun v out => v = .bool (goodB k bb sg) ∧ out = []) := by
 intro W hW
 have hd32 : (sg.drop 32).length = 32 := by rw [List.length_drop, hsg]
 have ht32 : (sg.take 32).length = 32 := by rw [List.length_take, hsg]; rfl
 have hA := rdP_on h1
 obtain ⟨Q, hQ⟩ : ∃ Q, cv.lin (le (sg.drop 32)) (le (sgR (sha512 (sg.take 32 ++ (k ++ bb))))) bP (neg A) = Q := ⟨_, rfl⟩
 have hmul := curve_Mul2 (sg.drop 32) r bP (neg A) hd32 hrl bP_on (cv.on_neg hA)
 rw [show cv.lin (le (sg.drop 32)) (le r) bP (neg A) = Q from by rw [← hr.out, ← hs.out]; exact hQ] at hmul
 refine calls_of (hp0 := []) Tryz.func60 J 45 Tryz.ntmps60 J (HRep.nil _) (Sat.seq (Sat.region (Tr.boxA J J ?_)))
 intro n3 hn3 hf3
 refine Tr.boxA J J ?_
 intro n5 hn5 hf5
 refine Tr.assign J J J (Tr.nil (at_n (Sat.seq (Sat.region (Tr.sliceArrLo 32 J J J J J dE Y27 Sz5 (Tr.s2a J J J Y77 oM (Tr.loadN (bytesV (sg.drop 32)) J J J Y77 J Sz77 Z0 (by show ((sg.map u8).drop 32).take 32 = _; rw [← List.map_drop, ← List.map_take, d64 hsg]) (by rw [List.length_map]; exact hd32) ?_)))))))
 refine Tr.alloc (cs := (bytesV (List.replicate 32 0))) J Zr77 J ?_
 intro n7 hn7 hf7
 refine Tr.storeAll J J J J zE Sz77 (by (simp [hsg]; done)) Z0 sP zU ?_
 refine Tr.nil (at_n (Sat.seq (Sat.seq (Sat.region (Tr.loadAll J J J Y77 J Sz77 Z0 (by (simp [hsg]; done)) ?_)))))
 refine Tr.callV J J J J Body107 (scalar_canon (sg.drop 32) hd32) (fun _ _ => trivial) (Tr.not J J J (Tr.nil (at_n (Sat.cond_f J (by rw [decide_eq_true hc]; rfl) ?_))))
 refine Sat.skip (at_n (Sat.seq (Sat.region (Tr.loadAll J J J Y25 J Sz25 Z2 (by (simp [hk]; done)) ?_))))
 refine Tr.callV J J J J Body108 (curve_Read_some k A hk h1) (fun _ _ => trivial) (Tr.move J J J (Tr.extract J J J J (Tr.extract J J J J (Tr.alloc (cs := Point.zero.cells) J Point.zr J ?_))))
 intro n8 hn8 hf8
 refine Tr.storeAll J J J J (Point.isCell zP) Sz79 (Point.length zP) Z0 (Point.length zZ) zU ?_
 refine Tr.assign J J J (Tr.nil (at_n (Sat.seq (Sat.seq (Sat.region (Tr.move J J J (Tr.nei J J J J (show (!decide _) = false from congrArg not (decide_eq_true (rfl))) (Tr.nil (at_n (Sat.cond_f J (rfl) (Sat.skip (at_n (Sat.seq (Sat.region (Tr.sliceArrHi 32 J J J J J dE dE Y27 Sz5 (Tr.s2a J J J Y23 oM (Tr.loadN (bytesV (sg.take 32)) J J J Y23 J Sz23 Z2 (by rw [List.drop_zero, ← List.map_take]) (by rw [List.length_map]; exact ht32) ?_)))))))))))))))))
 refine Tr.callV J J J J Body108 (curve_Read_some (sg.take 32) R ht32 h2) (fun _ _ => trivial) (Tr.move J J J (Tr.extract J J J J (Tr.extract J J J J (Tr.alloc (cs := Point.zero.cells) J Point.zr J ?_))))
 intro n10 hn10 hf10
 refine Tr.storeAll J J J J (Point.isCell zP) Sz79 (Point.length zP) Z0 (Point.length zZ) zU ?_
 refine Tr.assign J J J (Tr.nil (at_n (Sat.seq (Sat.seq (Sat.region (Tr.move J J J (Tr.nei J J J J (show (!decide _) = false from congrArg not (decide_eq_true (rfl))) (Tr.nil (at_n (Sat.cond_f J (rfl) (Sat.skip (at_n (Sat.seq (Sat.draw [(1, 0), (0, 2), (0, 3), (0, 4), (1, 7), (1, 10), (3, 1), (2, 5), (3, 6), (3, 8), (3, 9), (0, 11), (0, 12)] Mixed zK (Tr.loadAll J J J Y77 J Sz77 Z2 (by (simp [hsg]; done)) ?_)))))))))))))))
 refine Tr.sliceArrHi 32 J J J J J dE dE Y27 Sz5 (Tr.sliceArr J J J Y25 Sz5 (Tr.move J J J (Tr.loadAll J J J Y79 J Sz79 Z1 (Point.length zP) ?_)))
 refine Tr.loadAll J J J Y79 J Sz79 Z0 (Point.length zP) ?_
 refine Tr.callV J J J J Body110 (curve_Base) (fun _ _ => trivial) (Tr.mkRow2 (z := .slice none 0 0) [.slice (some ⟨n5, 0, none⟩) 32 64, .slice (some ⟨n3, 0, none⟩) 32 32, sb.v] [.slice (some ⟨n5, 0, none⟩) 32 64, .slice (some ⟨n3, 0, none⟩) 32 32, sb.v] rfl J Y133 Sz39 Zr39 J J (by intro v hv; simp only [List.mem_cons, List.not_mem_nil, or_false] at hv; rcases hv with rfl | rfl | rfl <;> rfl) dE J ?_)
 intro q38
 refine Tr.callV J J J J Body105 (sign_residueR (some ⟨q38, 0, none⟩) 3 3 [⟨some ⟨n5, 0, none⟩, 32, 64⟩, ⟨some ⟨n3, 0, none⟩, 32, 32⟩, sb] [sg.take 32, k, bb] rfl J (fun j hj => (by
   rcases (show j = 0 ∨ j = 1 ∨ j = 2 by omega) with rfl | rfl | rfl
   · exact ⟨by show 32 = List.length _; exact ht32.symm, fun e => by cases e⟩
   · exact ⟨by show 32 = List.length _; exact hk.symm, fun e => by cases e⟩
   · exact ⟨by show sb.n = bb.length; exact hW.len.symm, fun e => by have h1 := hW.nil e; have h2 := hW.cap; show sb.n = 0; omega⟩)) (sg.take 32 ++ (k ++ bb)) sP (by simp [hsg, hk]; omega) dE s hs r hr) (fun w h => ⟨SeesP.of (sees_own h Z0), (fun j hj => (by
   rcases (show j = 0 ∨ j = 1 ∨ j = 2 by omega) with rfl | rfl | rfl
   · exact SeesP.of (by have h9 := sees_own (cs := bytesV sg) h Z4; exact fun i v hv => h9 i v (take_sees hv))
   · exact SeesP.of (sees_own (cs := bytesV k) h (by exact mem5))
   · exact seesP_ext h rfl hW.see))⟩) ?_
 refine Tr.callV J J J J Body111 (curve_Neg A hA) (fun _ _ => trivial) (Tr.callV J J J J Body109 (hmul) (fun _ _ => trivial) (Tr.eql_rec J J J J Point.eg (fun w => Point.eq_runC (ptc_ok _) (ptc_ok _) w) (good_dec hc h1 h2 hQ) (Tr.assign J J J (Tr.nil (at_n (Sat.ret (en_r ?_)))))))
 refine ⟨_, [], res_tmp J J, sP, sP, ?_, rfl⟩
 rfl

theorem sign_Good (k : List UInt8) (hk : k.length = 32) (sb : Sl) (bb : List UInt8) (hbn : bb.length ≤ 80000) (sg : List UInt8) (hsg : sg.length = 64) : Meets Tryz.prog 60 [agg (bytesV k), sb.v, agg (bytesV sg)] [] (fun W => BytesAt W sb bb) (fun v out => v = .bool (goodB k bb sg) ∧ out = []) := by
  by_cases hc : le (sg.drop 32) < L
  · cases h1 : rdP k with
    | none =>
      rw [good_no (fun e => by obtain ⟨_, ⟨A, h⟩, _⟩ := e; rw [h1] at h; cases h)]
      exact sign_Good_k k hk sb bb hbn sg hsg hc h1
    | some A =>
      cases h2 : rdP (sg.take 32) with
      | none =>
        rw [good_no (fun e => by obtain ⟨_, _, ⟨R, h⟩⟩ := e; rw [h2] at h; cases h)]
        exact sign_Good_r k hk sb bb hbn sg hsg hc A h1 h2
      | some R => exact sign_Good_ok k hk sb bb hbn sg hsg hc A R h1 h2 _ _ ⟨rfl⟩ ⟨rfl⟩ (sgR_length _)
  · rw [good_no (fun e => hc e.1)]
    exact sign_Good_c k hk sb bb hbn sg hsg hc
end Go.Proofs.YtpacobmjjjillaaGreat
end

section
namespace Hw
open Go
set_option linter.unusedSimpArgs false
set_option linter.unusedVariables false
set_option maxRecDepth 100000

/-- the low k bytes of a number, and zeros up to N -/
def padW (N n k : Nat) : List UInt8 := leb k n ++ List.replicate (N - k) 0
theorem padW_length (N n k : Nat) (h : k ≤ N) : (padW N n k).length = N := by simp [padW, leb_length]; omega
theorem padW_zero (N n : Nat) : padW N n 0 = List.replicate N 0 := by simp [padW, leb]
theorem leb_getD (k n i : Nat) (h : i < k) : (leb k n).getD i 0 = UInt8.ofNat (n / 256 ^ i) := by
  rw [List.getD_eq_getElem?_getD, leb_get k n i h]; rfl
theorem ofNat8 {m n : Nat} (h : m % 256 = n % 256) : UInt8.ofNat m = UInt8.ofNat n := by
  apply UInt8.toNat_inj.1
  rw [UInt8.toNat_ofNat', UInt8.toNat_ofNat']; exact h
theorem byte_low (A m k i : Nat) (h : i < k) : (A + 256 ^ k * m) / 256 ^ i % 256 = A / 256 ^ i % 256 := by
  have e : 256 ^ k * m = 256 ^ i * (256 * (256 ^ (k - i - 1) * m)) := by
    rw [← Nat.mul_assoc, ← Nat.mul_assoc, ← Nat.pow_succ, ← Nat.pow_add]
    congr 2; omega
  rw [e, Nat.add_mul_div_left _ _ (Nat.pow_pos dE), Nat.add_mul_mod_self_left]
theorem leb_succ' (k n : Nat) : leb (k + 1) n = leb k n ++ [UInt8.ofNat (n / 256 ^ k)] := by
  apply List.ext_getElem?
  intro i
  rcases Nat.lt_trichotomy i k with h | h | h
  · rw [leb_get _ _ i oM, List.getElem?_append_left (by rw [leb_length]; exact h), leb_get _ _ i h]
  · subst h
    rw [leb_get _ _ i oM, List.getElem?_append_right (by rw [leb_length]; omega), leb_length, Nat.sub_self]; rfl
  · rw [List.getElem?_eq_none (by rw [leb_length]; omega), List.getElem?_eq_none (by simp [leb_length]; omega)]
theorem byteOf_nat (n : Nat) : byteOf (n : Int) = UInt8.ofNat n := by
  apply ofNat8
  omega
theorem set_end {α : Type} (l : List α) (x y : α) (r : List α) (k : Nat) (h : l.length = k) : (l ++ x :: r).set k y = l ++ [y] ++ r := by
  subst h; simp
theorem wordOf_id (n : Int) (h : 0 ≤ n ∧ n < 18446744073709551616) : ((wordOf n).toNat : Int) = n := by
  rw [wordOf, UInt64.toNat_ofNat']; omega
theorem zero_set (n : UInt64) (k : Nat) (hk : k < 8) : (padW 32 n.toNat k).set k (shr64 n (8 * k)).toUInt8 = padW 32 n.toNat (k + 1) := by
  have e : List.replicate (32 - k) (0 : UInt8) = 0 :: List.replicate (32 - (k + 1)) 0 := by
    rw [show 32 - k = (32 - (k + 1)) + 1 by omega]; rfl
  rw [padW, e, set_end _ _ _ _ _ (leb_length k _), padW, leb_succ']
  congr 3
  apply UInt8.toNat_inj.1
  rw [UInt64.toNat_toUInt8, shr64_toNat, UInt8.toNat_ofNat', pow256]
theorem pad_small (n : UInt64) : padW 32 n.toNat 8 = leb 32 n.toNat := by
  have h := n.toNat_lt
  apply List.ext_getElem?
  intro i
  rw [padW]
  rcases Nat.lt_or_ge i 8 with hi | hi
  · rw [List.getElem?_append_left (by rw [leb_length]; exact hi), leb_get _ _ _ hi, leb_get _ _ _ oM]
  · rw [List.getElem?_append_right (by rw [leb_length]; exact hi), leb_length]
    rcases Nat.lt_or_ge i 32 with h2 | h2
    · rw [leb_get _ _ _ h2, List.getElem?_replicate, if_pos oM, Nat.div_eq_of_lt]; rfl
      refine Nat.lt_of_lt_of_le h ?_
      rw [pow256]; exact Nat.pow_le_pow_right dE oM
    · rw [List.getElem?_replicate, if_neg oM, List.getElem?_eq_none (by rw [leb_length]; exact h2)]
theorem leb_zero32 : leb 32 0 = List.replicate 32 0 := by decide
theorem mod_bit (n k : Nat) : n % 2 ^ (k + 1) = n % 2 ^ k + (if n.testBit k then 2 ^ k else 0) := by
  rw [Nat.pow_succ, Nat.mod_mul, Nat.testBit_eq_decide_div_mod_eq]
  by_cases h : n / 2 ^ k % 2 = 1
  · rw [if_pos (decide_eq_true h), h, Nat.mul_one]
  · rw [if_neg (by simpa using h), show n / 2 ^ k % 2 = 0 by omega, Nat.mul_zero]
end Hw
end

section
namespace Ed
open Hw Go
set_option linter.unusedVariables false

def BB : Nat := 115792089237316195423570985008687907853269984665640564039457584007913129639936
def pk (x y z t : Nat) : Nat := (x + BB * (y + BB * (z + BB * t))) + 1
def ux (s : Nat) : Nat := (s - 1) % BB
def uy (s : Nat) : Nat := (s - 1) / BB % BB
def uz (s : Nat) : Nat := (s - 1) / BB / BB % BB
def ut (s : Nat) : Nat := (s - 1) / BB / BB / BB
def wdN (s : Nat) : Wd Fp := ⟨fe (ux s), fe (uy s), fe (uz s), fe (ut s)⟩
def subN (a b : Nat) : Nat := (a + (PF - b % PF)) % PF
def finN (e f g h : Nat) : Nat := pk (e * f % PF) (g * h % PF) (f * g % PF) (e * h % PF)
def dblN (s : Nat) : Nat :=
  finN (subN (ux s * ux s + uy s * uy s) ((ux s + uy s) * (ux s + uy s))) ((uz s * uz s + uz s * uz s + subN (ux s * ux s) (uy s * uy s)) % PF) (subN (ux s * ux s) (uy s * uy s)) ((ux s * ux s + uy s * uy s) % PF)
def twoDN : Nat := 2 * fD.val
def addN (s p : Nat) : Nat :=
  finN (subN ((uy s + ux s) * (uy p + ux p)) (subN (uy s) (ux s) * subN (uy p) (ux p))) (subN (uz s * uz p + uz s * uz p) (ut s * twoDN % PF * ut p)) ((uz s * uz p + uz s * uz p + ut s * twoDN % PF * ut p) % PF) (((uy s + ux s) * (uy p + ux p) + subN (uy s) (ux s) * subN (uy p) (ux p)) % PF)
theorem fe_neg (n : Nat) : fe (PF - n % PF) = - fe n := by
  have h : fe (PF - n % PF) + fe n = 0 := by
    rw [← fe_add]
    refine Fin.ext ?_
    rw [fe_val]
    show _ = 0
    have h1 : n % PF < PF := Nat.mod_lt _ dE
    have e : (PF - n % PF + n) = PF * (n / PF + 1) := by
      have := Nat.mod_add_div n PF
      rw [Nat.mul_add, Nat.mul_one]
      generalize PF * (n / PF) = q at *
      omega
    rw [e, Nat.mul_mod_right]
  grind
theorem fe_subN (a b : Nat) : fe (subN a b) = fe a - fe b := by
  rw [subN, fe_mod, fe_add, fe_neg]; grind
theorem pk_lt (e : Nat) : e % PF < BB := Nat.lt_trans (Nat.mod_lt _ dE) dE
theorem wd_pk (x y z t : Nat) (hx : x < BB) (hy : y < BB) (hz : z < BB) : wdN (pk x y z t) = ⟨fe x, fe y, fe z, fe t⟩ := by
  have e1 : ux (pk x y z t) = x := by
    rw [ux, pk, Nat.add_sub_cancel, Nat.add_mul_mod_self_left, Nat.mod_eq_of_lt hx]
  have d1 : (pk x y z t - 1) / BB = y + BB * (z + BB * t) := by
    rw [pk, Nat.add_sub_cancel, Nat.add_mul_div_left _ _ dE, Nat.div_eq_of_lt hx, Nat.zero_add]
  have d2 : (pk x y z t - 1) / BB / BB = z + BB * t := by
    rw [d1, Nat.add_mul_div_left _ _ dE, Nat.div_eq_of_lt hy, Nat.zero_add]
  have e2 : uy (pk x y z t) = y := by rw [uy, d1, Nat.add_mul_mod_self_left, Nat.mod_eq_of_lt hy]
  have e3 : uz (pk x y z t) = z := by rw [uz, d2, Nat.add_mul_mod_self_left, Nat.mod_eq_of_lt hz]
  have e4 : ut (pk x y z t) = t := by rw [ut, d2, Nat.add_mul_div_left _ _ dE, Nat.div_eq_of_lt hz, Nat.zero_add]
  rw [wdN, e1, e2, e3, e4]
theorem wd_fin (e f g h : Nat) : wdN (finN e f g h) = Wd.fin (fe e) (fe f) (fe g) (fe h) := by
  rw [finN, wd_pk _ _ _ _ (pk_lt _) (pk_lt _) (pk_lt _)]
  simp only [Wd.fin, fe_mod, fe_mul]
theorem wd_dbl (s : Nat) : wdN (dblN s) = Wd.dbl (wdN s) := by
  rw [dblN, wd_fin]
  simp only [Wd.dbl, wdN, fe_subN, fe_mod, fe_add, fe_mul]
theorem fe_twoD : fe twoDN = fD + fD := by
  rw [twoDN, Nat.two_mul, fe_add, fe_of]
theorem wd_add (s p : Nat) : wdN (addN s p) = Wd.add fD (wdN s) (wdN p) := by
  rw [addN, wd_fin]
  simp only [Wd.add, wdN, fe_subN, fe_mod, fe_add, fe_mul, fe_twoD]
def force (s : Nat) (f : Nat → Nat) : Nat := Nat.casesOn (motive := fun _ => Nat) s (f 0) (fun m => f (m + 1))
theorem force_eq (s : Nat) (f : Nat → Nat) : force s f = f s := by cases s <;> rfl
def stepN (p : Nat) (s : Nat) (b : Bool) : Nat := force s fun s => bif b then addN (dblN s) p else dblN s
def loopN (p : Nat) (bs : List Bool) (s : Nat) : Nat := bs.foldl (stepN p) s
theorem stepN_t (p s : Nat) : stepN p s true = addN (dblN s) p := by rw [stepN, force_eq]; rfl
theorem stepN_f (p s : Nat) : stepN p s false = dblN s := by rw [stepN, force_eq]; rfl
theorem loopN_eq (p : Nat) (bs : List Bool) : ∀ s : Nat, wdN (loopN p bs s) = mulW fD (wdN p) bs (wdN s) := by
  induction bs with
  | nil => intro s; rfl
  | cons b bs ih =>
    intro s
    rw [loopN, List.foldl_cons, ← loopN, ih]
    cases b
    · rw [stepN_f, wd_dbl, mulW_f]
    · rw [stepN_t, wd_add, wd_dbl, mulW_t]
/-- the base point, packed -/
def bN : Nat := pk bP.x.val bP.y.val 1 (bP.x * bP.y).val
theorem bN_wd : wdN bN = Wd.of bP := by
  rw [bN, wd_pk _ _ _ _ (Nat.lt_trans bP.x.isLt dE) (Nat.lt_trans bP.y.isLt dE) dE, fe_of, fe_of, fe_of]
  rfl
def zN : Nat := pk 0 1 1 0
theorem zN_wd : wdN zN = Wd.of zero := by
  rw [zN, wd_pk _ _ _ _ dE dE dE]
  have e : (Wd.of zero : Wd Fp) = ⟨0, 1, 1, 0 * 1⟩ := rfl
  rw [e]
  have h : (0 : Fp) * 1 = 0 := by kernel_rfl
  rw [h]; rfl
/-- n times the base point, packed -/
def fastN (n : Nat) : Nat := loopN bN (toBits 256 n) zN
theorem fastN_rep {n : Nat} (hn : n < 2 ^ 256) : (wdN (fastN n)).rep (cv.mul n bP) := by
  have h0 : (wdN zN).rep (cv.mul 0 bP) := by rw [zN_wd]; exact cv.rep_of zero
  have h := cv.mulW_rep bP_on (cv.rep_of bP) (toBits 256 n) (wdN zN) 0 h0
  rw [toBits_v, Nat.zero_mul, Nat.zero_add, Nat.mod_eq_of_lt hn] at h
  have e : wdN (fastN n) = mulW cv.d (Wd.of bP) (toBits 256 n) (wdN zN) := by
    rw [fastN, loopN_eq, bN_wd]; rfl
  rw [e]; exact h
theorem fastN_pt {n : Nat} (hn : n < 2 ^ 256) {X Y : Fp} (hx : (wdN (fastN n)).x * finv (wdN (fastN n)).z = X) (hy : (wdN (fastN n)).y * finv (wdN (fastN n)).z = Y) : cv.mul n bP = ⟨X, Y⟩ := by
  have h : (⟨(wdN (fastN n)).x * finv (wdN (fastN n)).z, (wdN (fastN n)).y * finv (wdN (fastN n)).z⟩ : Pt Fp) = cv.mul n bP := cv.rep_pt (fastN_rep hn)
  rw [hx, hy] at h
  exact h.symm
theorem order_x : ux (fastN L) % PF = 0 := by kernel_rfl
theorem order_y : uy (fastN L) = uz (fastN L) := by kernel_rfl
theorem bP_order : cv.mul L bP = zero := by
  have h := fastN_rep (n := L) dE
  have h1 : fe (ux (fastN L)) = (cv.mul L bP).x * fe (uz (fastN L)) := h.x
  have h2 : fe (uy (fastN L)) = (cv.mul L bP).y * fe (uz (fastN L)) := h.y
  have h3 : fe (uz (fastN L)) ≠ 0 := h.z
  have hx : fe (ux (fastN L)) = 0 := Fin.ext order_x
  rw [hx] at h1
  rw [order_y] at h2
  generalize fe (uz (fastN L)) = z at *
  generalize cv.mul L bP = Q at *
  obtain ⟨x, y⟩ := Q
  simp only at h1 h2
  have e1 : x = 0 := by
    rcases cv.zero_or h1.symm with e | e
    · exact e
    · exact absurd e h3
  have e2 : y = 1 := by
    refine cv.cancel h3 ?_
    have e3 : z * y = y * z := by grind
    have e4 : z * 1 = z := by grind
    rw [e3, e4]; exact h2.symm
  rw [e1, e2]; rfl
theorem fp_cases {a : Fp} (h : a * a = 1) : a = 1 ∨ a = -1 := by
  have h1 : (a - 1) * (a + 1) = 0 := by grind
  rcases cv.zero_or h1 with e | e
  · exact .inl (by grind)
  · exact .inr (by grind)
theorem sq_cases {a b : Fp} (h : a * a = b * b) : a = b ∨ a = -b := by
  have h1 : (a - b) * (a + b) = 0 := by grind
  rcases cv.zero_or h1 with e | e
  · exact .inl (by grind)
  · exact .inr (by grind)
def unit2 : Fp := fpow (fe 2) ((PF - 1) / 4)
theorem unit2_sq : unit2 * unit2 = -1 := by kernel_rfl
theorem fpow_one' (a : Fp) : fpow a 1 = a := by
  rw [show (1 : Nat) = 0 + 1 from rfl, fpow_succ dE, fpow_zero]; grind
theorem fpow_sq2 (x : Fp) : x * x = fpow x 2 := by
  rw [show (2 : Nat) = 2 * 1 from rfl, fpow_two dE, fpow_one']
theorem root_pow (x : Fp) : fpow (x * x) ((PF + 3) / 8) * fpow (x * x) ((PF + 3) / 8) = x * x * fpow x ((PF - 1) / 2) := by
  rw [← fpow_two dE, fpow_sq2, fpow_mul dE dE dE, ← fpow_add dE]
  rfl
theorem half_cases {x : Fp} (h : x ≠ 0) : fpow x ((PF - 1) / 2) = 1 ∨ fpow x ((PF - 1) / 2) = -1 := by
  refine fp_cases ?_
  rw [← fpow_two dE]
  exact ferm h
theorem fRoot1_sq (x : Fp) : fRoot1 (x * x) * fRoot1 (x * x) = x * x := by
  have h0 := root_pow x
  have hu := unit2_sq
  unfold fRoot1
  change (if fpow (x * x) ((PF + 3) / 8) * fpow (x * x) ((PF + 3) / 8) = x * x then fpow (x * x) ((PF + 3) / 8) else fpow (x * x) ((PF + 3) / 8) * unit2) * (if fpow (x * x) ((PF + 3) / 8) * fpow (x * x) ((PF + 3) / 8) = x * x then fpow (x * x) ((PF + 3) / 8) else fpow (x * x) ((PF + 3) / 8) * unit2) = x * x
  have hc : fpow (x * x) ((PF + 3) / 8) * fpow (x * x) ((PF + 3) / 8) = x * x ∨ fpow (x * x) ((PF + 3) / 8) * fpow (x * x) ((PF + 3) / 8) = -(x * x) := by
    by_cases hx : x = 0
    · left
      rw [h0, hx]; grind
    · rcases half_cases hx with e | e
      · left; rw [h0, e]; grind
      · right; rw [h0, e]; grind
  revert hc
  generalize fpow (x * x) ((PF + 3) / 8) = r
  generalize unit2 = u at *
  intro hc
  clear h0
  by_cases h1 : r * r = x * x
  · rw [if_pos h1]; exact h1
  · rw [if_neg h1]
    rcases hc with e | e
    · exact absurd e h1
    · have : r * u * (r * u) = r * r * (u * u) := by grind
      rw [this, e, hu]; grind
theorem val_neg {x : Fp} (h : x ≠ 0) : (-x).val + x.val = PF := by
  have h1 : fe ((-x).val + x.val) = 0 := by
    rw [fe_add, fe_of, fe_of]; grind
  have h2 : ((-x).val + x.val) % PF = 0 := congrArg Fin.val h1
  have h3 := (-x).isLt
  have h4 := x.isLt
  have h5 : x.val ≠ 0 := fun e => h (Fin.ext e)
  have h6 : PF ∣ (-x).val + x.val := Nat.dvd_of_mod_eq_zero h2
  obtain ⟨k, hk⟩ := h6
  generalize (-x).val = a at *
  generalize x.val = b at *
  clear h h1 h2
  have hP : 0 < PF := by decide
  generalize PF = q at *
  have h7 : k = 1 := by
    rcases Nat.lt_or_ge k 1 with h | h
    · obtain rfl : k = 0 := by omega
      rw [Nat.mul_zero] at hk; omega
    · rcases Nat.lt_or_ge 1 k with h9 | h9
      · have : q * 2 ≤ q * k := Nat.mul_le_mul_left _ h9
        omega
      · omega
  rw [h7, Nat.mul_one] at hk
  exact hk
theorem neg_neg' (x : Fp) : - -x = x := by grind
/-- the even one of x and -x -/
theorem fRoot_eq (x : Fp) : fRoot (x * x) = ((if x.val % 2 = 1 then -x else x), true) := by
  have h1 := fRoot1_sq x
  have h2 := sq_cases h1
  unfold fRoot
  generalize fRoot1 (x * x) = r at *
  rw [if_pos h1]
  congr 1
  by_cases hx : x = 0
  · have : r = 0 := by rcases h2 with e | e <;> rw [e, hx] <;> grind
    rw [this, hx]
  · have hv := val_neg hx
    have hodd : PF % 2 = 1 := by decide
    rcases h2 with e | e
    · rw [e]
    · rw [e]
      have hn : -x ≠ 0 := fun e2 => hx (by grind)
      by_cases h3 : x.val % 2 = 1
      · rw [if_pos h3, if_neg oM]
      · rw [if_neg h3, if_pos oM, neg_neg']
theorem on_xsq {x y : Fp} (h : cv.on ⟨x, y⟩) : (y * y - 1) * finv (fD * (y * y) + 1) = x * x := by
  have h1 := finv_mul (cv.below_ne y)
  have h2 := (cv.on_iff ⟨x, y⟩).1 h
  have h3 : y * y - x * x = 1 + fD * (x * x * (y * y)) := h2
  have h4 : (cv.d * (y * y) + 1) * finv (cv.d * (y * y) + 1) = 1 := h1
  change (fD * (y * y) + 1) * finv (fD * (y * y) + 1) = 1 at h4
  generalize finv (fD * (y * y) + 1) = u at *
  generalize fD = d at *
  have h5 : y * y - 1 = x * x * (d * (y * y) + 1) := by grind
  rw [h5]
  have : x * x * (d * (y * y) + 1) * u = x * x * ((d * (y * y) + 1) * u) := by grind
  rw [this, h4]; grind
theorem xOf_eq {x y : Fp} (h : cv.on ⟨x, y⟩) : xOf y = ((if x.val % 2 = 1 then -x else x), true) := by
  rw [xOf, on_xsq h, fRoot_eq]
theorem fb_top (x : Fp) : ((fb x).getD 31 0).toNat < 128 := by
  have h : (fb x).getD 31 0 = UInt8.ofNat (x.val / 256 ^ 31) := leb_getD 32 x.val 31 dE
  have h1 := x.isLt
  have h2 : x.val / 256 ^ 31 < 128 := by
    rw [Nat.div_lt_iff_lt_mul dE]
    exact Nat.lt_of_lt_of_le h1 dE
  rw [h, UInt8.toNat_ofNat']
  omega
theorem byte_clear : ∀ b : UInt8, b.toNat < 128 → (b &&& 127) = b ∧ ((b ||| 128) &&& 127) = b ∧ (b &&& 128) = 0 ∧ ((b ||| 128) &&& 128) = 128 := by
  intro b hb
  have h : ∀ n, n < 128 → ((UInt8.ofNat n) &&& 127) = UInt8.ofNat n ∧ ((UInt8.ofNat n ||| 128) &&& 127) = UInt8.ofNat n ∧ (UInt8.ofNat n &&& 128) = 0 ∧ ((UInt8.ofNat n ||| 128) &&& 128) = 128 := by decide
  have h2 := h b.toNat hb
  rwa [UInt8.ofNat_toNat] at h2
theorem set_same (l : List UInt8) (i : Nat) (hi : i < l.length) : l.set i (l.getD i 0) = l := by
  apply List.ext_getElem sP
  intro j h1 h2
  rw [List.getElem_set]
  split
  · rename_i e
    subst e
    rw [List.getD_eq_getElem?_getD, List.getElem?_eq_getElem hi]; rfl
  · rfl
theorem getD_set (l : List UInt8) (i : Nat) (v : UInt8) (hi : i < l.length) : (l.set i v).getD i 0 = v := by
  rw [List.getD_eq_getElem?_getD, List.getElem?_set_self hi, Option.getD_some]
theorem lowB_pb (P : Pt Fp) : lowB (pb P) = fb P.y := by
  have h := byte_clear _ (fb_top P.y)
  have hl := fb_length P.y
  unfold lowB pb
  split
  · rw [getD_set _ _ _ oM, h.2.1, List.set_set, set_same _ _ oM]
  · rw [h.1, set_same _ _ oM]
theorem topB_pb (P : Pt Fp) : topB (pb P) = decide (P.x.val % 2 = 1) := by
  have h := byte_clear _ (fb_top P.y)
  have hl := fb_length P.y
  unfold topB pb
  split
  · rename_i e
    rw [getD_set _ _ _ oM, h.2.2.2, decide_eq_true e]; rfl
  · rename_i e
    rw [h.2.2.1, decide_eq_false e]; rfl
theorem rdP_pb {P : Pt Fp} (h : cv.on P) : rdP (pb P) = some P := by
  obtain ⟨x, y⟩ := P
  have hx := xOf_eq h
  unfold rdP
  rw [lowB_pb, topB_pb, fe_fb, if_pos rfl, hx]
  simp only
  by_cases h1 : x.val % 2 = 1
  · have hx0 : x ≠ 0 := fun e => by rw [e] at h1; revert h1; decide
    have hn : -x ≠ 0 := fun e2 => hx0 (by grind)
    rw [if_pos h1, if_pos ⟨trivial, fun e => hn e.2⟩, if_pos (decide_eq_true h1), neg_neg']
  · rw [if_neg h1, if_pos ⟨trivial, fun e => h1 (of_decide_eq_true e.1)⟩, if_neg (fun e => h1 (of_decide_eq_true e))]
end Ed
end

section
namespace Go.Proofs.YtpacobmjjjillaaGreat
open Go Hw Ed
set_option linter.unusedVariables false
set_option maxRecDepth 100000
theorem L_prm : Prm L := prm_order
theorem bP_y1 : Nat.beq bP.y.val 1 = false := by kernel_rfl
theorem bP_ne : bP ≠ zero := fun e => by
  have h : bP.y.val = 1 := by rw [e]; rfl
  have h2 := bP_y1
  rw [h] at h2
  cases h2
theorem order_gen {P : Pt Fp} (hP : cv.on P) {q : Nat} (hL : Prm q) (ho : cv.mul q P = zero) (hne : P ≠ zero) {m : Nat} (h : cv.mul m P = zero) : q ∣ m := by
  refine Classical.byContradiction fun hn => hne ?_
  have h1 := hL.fermat hn
  have h2 : cv.mul (m ^ (q - 1) % q) P = cv.mul (m ^ (q - 1)) P := cv.mul_order hP ho _
  rw [h1, cv.mul_one] at h2
  rw [h2]
  have e : m ^ (q - 1) = m ^ (q - 2) * m := by
    rw [← Nat.pow_succ]
    congr 1
    have := hL.1
    omega
  rw [e, cv.mul_mul hP, h, cv.mul_zero]
theorem order_dvd {m : Nat} (h : cv.mul m bP = zero) : L ∣ m := order_gen bP_on L_prm bP_order bP_ne h
theorem sgK_read (s : List UInt8) : rdP (sgK s) = some (cv.mul (le (clampB (s.take 32))) bP) := rdP_pb (cv.on_mul bP_on _)
theorem sgF_read (s : List UInt8) : rdP (sgF s) = some (cv.mul (le (sgR s)) bP) := rdP_pb (cv.on_mul bP_on _)
theorem sgS_lt (s s1 s2 : List UInt8) : le (sgS s s1 s2) < L := by
  have h := Nat.mod_lt (le (sgR s2) * le (clampB (s.take 32)) + le (sgR s1)) L_pos
  rw [sgS, le_leb32 (Nat.lt_trans h L_lt)]; exact h
theorem sgS_eq (s s1 s2 : List UInt8) : le (sgS s s1 s2) = (le (sgR s2) * le (clampB (s.take 32)) + le (sgR s1)) % L := by
  have h := Nat.mod_lt (le (sgR s2) * le (clampB (s.take 32)) + le (sgR s1)) L_pos
  rw [sgS, le_leb32 (Nat.lt_trans h L_lt)]
theorem lin_self (k n r : Nat) : cv.lin ((k * n + r) % L) k bP (neg (cv.mul n bP)) = cv.mul r bP := by
  have hn := cv.on_mul bP_on n
  have hk := cv.on_mul hn k
  have hr := cv.on_mul bP_on r
  rw [Cv.lin, cv.mul_order bP_on bP_order, Nat.add_comm, cv.mul_add bP_on, cv.mul_mul bP_on, cv.mul_neg hn, cv.add_assoc hr hk (cv.on_neg hk), cv.add_neg hk, cv.add_zero]
theorem sg_take (s s1 s2 : List UInt8) : (sgF s1 ++ sgS s s1 s2).take 32 = sgF s1 := by
  rw [List.take_left' (sgF_length s1)]
theorem sg_drop (s s1 s2 : List UInt8) : (sgF s1 ++ sgS s s1 s2).drop 32 = sgS s s1 s2 := by
  rw [List.drop_left' (sgF_length s1)]
theorem good_self (s s1 bb : List UInt8) {s2 : List UInt8} (h : sha512 (sgF s1 ++ (sgK s ++ bb)) = s2) : goodB (sgK s) bb (sgF s1 ++ sgS s s1 s2) = true := by
  unfold goodB
  simp only [decide_eq_true_eq]
  rw [sg_take, sg_drop, h]
  refine ⟨sgS_lt s s1 s2, _, _, sgK_read s, sgF_read s1, ?_⟩
  rw [sgS_eq]
  exact lin_self _ _ _
end Go.Proofs.YtpacobmjjjillaaGreat
end

section
namespace Go.Proofs.YtpacobmjjjillaaGreat
open Go Hw
set_option linter.unusedVariables false
set_option linter.unusedSimpArgs false

open Ed

theorem own_bytes {W : World} {q n c : Nat} {l : List UInt8} (hs : SeesP W (some ⟨q, 0, none⟩) (bytesV l)) (hl : l.length = n) (hc : n ≤ c) (hm : n ≤ maxLen) : BytesAt W ⟨some ⟨q, 0, none⟩, n, c⟩ l := ⟨hl, hc, hs, hm, fun e => by cases e⟩
end Go.Proofs.YtpacobmjjjillaaGreat
end

section
namespace Hw
open Go Go.RowKit
set_option linter.unusedSimpArgs false
set_option linter.unusedVariables false

/-- words as the program holds them -/
def wdsV (w : List Nat) : List Value := intsV (w.map Int.ofNat)
theorem wdsV_length (w : List Nat) : (wdsV w).length = w.length := by simp [wdsV, intsV]
theorem get_wds {w : List Nat} {o : Nat} (h : o < w.length) : (wdsV w)[o]? = some (i64 ((w.getD o 0 : Nat) : Int)) := by
  rw [wdsV, get_ints (by simpa using h)]
  congr 2
  rw [List.getD_eq_getElem?_getD, List.getD_eq_getElem?_getD, List.getElem?_map, List.getElem?_eq_getElem h]
  rfl
theorem set_wds (w : List Nat) (o v : Nat) : (wdsV w).set o (i64 (v : Int)) = wdsV (w.set o v) := by
  simp [wdsV, intsV, List.map_set]
theorem wdsV_cell (w : List Nat) : ∀ u ∈ wdsV w, isCell u = true := by
  intro u hu
  simp only [wdsV, intsV, List.mem_map] at hu
  obtain ⟨x, _, rfl⟩ := hu
  rfl
section
variable {C : Cx} {ops : Array Oper} {rest : List (Nat × Oper)} {sl : List (Nat × Value)} {hp : List Blk} {Q : St → Prop} {c d : Nat} {ty : TypeId} {pos : String} {af : Array Edge} {g : Option (Nat × Bool)}
variable {xT yT : TypeId} {x y : Operand}
theorem Tr.addN (a b : Nat) (hg : guardOk ops sl g = true) (hk : okD c d C.N = true) (hx : evIn sl x = some (i64 (a : Int))) (hy : evIn sl y = some (i64 (b : Int))) (hr : a + b ≤ 9223372036854775807)
    (k : Tr C ops rest ⟨(d, i64 ((a + b : Nat) : Int)) :: sl, hp⟩ Q) : Tr C ops ((c, ⟨some d, .binOp .add xT x y yT, ty, pos, af, g⟩) :: rest) ⟨sl, hp⟩ Q := by
  refine .add_i64 hg hk hx hy oM ?_
  rwa [show ((a : Int) + b) = ((a + b : Nat) : Int) by omega]
theorem Tr.subN (a b : Nat) (hg : guardOk ops sl g = true) (hk : okD c d C.N = true) (hx : evIn sl x = some (i64 (a : Int))) (hy : evIn sl y = some (i64 (b : Int))) (hr : b ≤ a ∧ a ≤ 9223372036854775807)
    (k : Tr C ops rest ⟨(d, i64 ((a - b : Nat) : Int)) :: sl, hp⟩ Q) : Tr C ops ((c, ⟨some d, .binOp .sub xT x y yT, ty, pos, af, g⟩) :: rest) ⟨sl, hp⟩ Q := by
  refine .sub_i64 hg hk hx hy oM ?_
  rwa [show ((a : Int) - b) = ((a - b : Nat) : Int) by omega]
theorem Tr.mulN (a b : Nat) (hg : guardOk ops sl g = true) (hk : okD c d C.N = true) (hx : evIn sl x = some (i64 (a : Int))) (hy : evIn sl y = some (i64 (b : Int))) (hr : a * b ≤ 9223372036854775807)
    (k : Tr C ops rest ⟨(d, i64 ((a * b : Nat) : Int)) :: sl, hp⟩ Q) : Tr C ops ((c, ⟨some d, .binOp .mul xT x y yT, ty, pos, af, g⟩) :: rest) ⟨sl, hp⟩ Q := by
  have e : ((a : Int) * b) = ((a * b : Nat) : Int) := (Int.natCast_mul a b).symm
  refine .mul_i64 hg hk hx hy (by rw [e]; omega) ?_
  rwa [e]
theorem Tr.remN (a b : Nat) (hg : guardOk ops sl g = true) (hk : okD c d C.N = true) (hx : evIn sl x = some (i64 (a : Int))) (hy : evIn sl y = some (i64 (b : Int))) (hr : 1 ≤ b)
    (k : Tr C ops rest ⟨(d, i64 ((a % b : Nat) : Int)) :: sl, hp⟩ Q) : Tr C ops ((c, ⟨some d, .binOp .rem xT x y yT, ty, pos, af, g⟩) :: rest) ⟨sl, hp⟩ Q := by
  refine .rem_i64 hg hk hx hy oM ?_
  rwa [show ((a : Int) % b) = ((a % b : Nat) : Int) from rfl]
theorem Tr.quoN (a b : Nat) (hg : guardOk ops sl g = true) (hk : okD c d C.N = true) (hx : evIn sl x = some (i64 (a : Int))) (hy : evIn sl y = some (i64 (b : Int))) (hr : 1 ≤ b ∧ a ≤ 9223372036854775807)
    (k : Tr C ops rest ⟨(d, i64 ((a / b : Nat) : Int)) :: sl, hp⟩ Q) : Tr C ops ((c, ⟨some d, .binOp .quo xT x y yT, ty, pos, af, g⟩) :: rest) ⟨sl, hp⟩ Q := by
  refine .quo_i64 hg hk hx hy oM ?_
  rwa [show ((a : Int) / b) = ((a / b : Nat) : Int) from rfl]
theorem Tr.shrN (a n : Nat) {ky : IntKind} {b : Int} (hg : guardOk ops sl g = true) (hk : okD c d C.N = true) (hx : evIn sl x = some (i64 (a : Int))) (hy : evIn sl y = some (.int ky b)) (hn : b = n) (hr : n ≤ 64)
    (k : Tr C ops rest ⟨(d, i64 ((a / 2 ^ n : Nat) : Int)) :: sl, hp⟩ Q) : Tr C ops ((c, ⟨some d, .binOp .shr xT x y yT, ty, pos, af, g⟩) :: rest) ⟨sl, hp⟩ Q :=
  .bin hg hk hx hy (fun w => by
    subst hn
    simp only [binOp, Op.shift, IntKind.bits]
    rw [if_neg oM, Int.toNat_natCast, Nat.min_eq_left hr]
    have e : ((2 : Int) ^ n) = ((2 ^ n : Nat) : Int) := by simp
    rw [e, Int.fdiv_eq_ediv_of_nonneg _ (Int.natCast_nonneg _)]
    rfl) k
theorem Tr.shlN (a n : Nat) {ky : IntKind} {b : Int} (hg : guardOk ops sl g = true) (hk : okD c d C.N = true) (hx : evIn sl x = some (i64 (a : Int))) (hy : evIn sl y = some (.int ky b)) (hn : b = n) (hn2 : n ≤ 64) (hr : a * 2 ^ n ≤ 9223372036854775807)
    (k : Tr C ops rest ⟨(d, i64 ((a * 2 ^ n : Nat) : Int)) :: sl, hp⟩ Q) : Tr C ops ((c, ⟨some d, .binOp .shl xT x y yT, ty, pos, af, g⟩) :: rest) ⟨sl, hp⟩ Q :=
  .bin hg hk hx hy (fun w => by
    subst hn
    simp only [binOp, Op.shift, IntKind.bits]
    rw [if_neg oM, Int.toNat_natCast, Nat.min_eq_left hn2]
    have e : ((a : Int) * 2 ^ n) = ((a * 2 ^ n : Nat) : Int) := by simp
    rw [e, i64_wrap oM]; rfl) k
theorem Tr.quo_u8 {p : UInt8} {b : Int} (hg : guardOk ops sl g = true) (hk : okD c d C.N = true) (hx : evIn sl x = some (u8 p)) (hy : evIn sl y = some (.int .u8 b)) (n : Nat) (hn : b = n) (h0 : 0 < n)
    (k : Tr C ops rest ⟨(d, u8 (UInt8.ofNat (p.toNat / n))) :: sl, hp⟩ Q) : Tr C ops ((c, ⟨some d, .binOp .quo xT x y yT, ty, pos, af, g⟩) :: rest) ⟨sl, hp⟩ Q :=
  .bin hg hk hx hy (fun w => by
    subst hn
    simp [binOp, Op.intDiv, show ¬ n = 0 by omega]
    exact IntKind.wrap_u8 _) k
end
end Hw
end

section
namespace Go.Proofs.YtpacobmjjjillaaGreat
open Go Hw
set_option linter.unusedVariables false
set_option linter.unusedSimpArgs false

theorem rolW_64 (x : UInt64) (n : Nat) (h : n ≤ 64) : shr64 x n ||| shl64 x (64 - n) = rolW x (64 - n) := by
  rw [rolW, show 64 - (64 - n) = n by omega, UInt64.or_comm]
theorem W8.of_l {st : List UInt64} (h : st.length = 8) : (W8.of st).l = st := by
  match st, h with
  | [a, b, c, d, e, f, g, i], _ => rfl
theorem addUp_gets (st xs : List UInt64) : ∀ i j, i ≤ st.length → j < st.length → (addUp st xs i).getD j 0 = if j < i then st.getD j 0 + xs.getD j 0 else st.getD j 0
  | 0, j, _, hj => by rw [if_neg oM]; rfl
  | i + 1, j, hi, hj => by
    have hl := addUp_length st xs i
    rw [addUp, List.getD_eq_getElem?_getD, List.getElem?_set]
    split
    · rename_i e
      subst e
      rw [if_pos oM, if_pos oM, Option.getD_some, addUp_get st xs i i (Nat.le_refl _)]
    · rename_i e
      rw [← List.getD_eq_getElem?_getD, addUp_gets st xs i j oM hj]
      by_cases h : j < i
      · rw [if_pos h, if_pos oM]
      · rw [if_neg h, if_neg oM]
theorem addUp_comm {st xs : List UInt64} (h : st.length = 8) (hx : xs.length = 8) : addUp xs st 8 = addUp st xs 8 := by
  have h1 := addUp_length xs st 8
  have h2 := addUp_length st xs 8
  apply List.ext_getElem oM
  intro j ha hb
  have e1 := addUp_gets xs st 8 j oM oM
  have e2 := addUp_gets st xs 8 j oM oM
  rw [if_pos oM] at e1 e2
  rw [List.getD_eq_getElem?_getD, List.getElem?_eq_getElem ha, Option.getD_some] at e1
  rw [List.getD_eq_getElem?_getD, List.getElem?_eq_getElem hb, Option.getD_some] at e2
  rw [e1, e2, UInt64.add_comm]
/-- the words of a piece, one by one -/
def schT (p : List UInt8) (A : List UInt64) (t : Nat) : List UInt64 := if t ≤ 16 then schA p (8 * t) else schB A (t - 16)
theorem schT_lo {p : List UInt8} {A : List UInt64} {t : Nat} (h : t ≤ 16) : schT p A t = schA p (8 * t) := if_pos h
theorem schT_hi {p : List UInt8} {A : List UInt64} {t : Nat} (hA : schA p 128 = A) (h : 16 ≤ t) : schT p A t = schB A (t - 16) := by
  unfold schT
  split
  · obtain rfl : t = 16 := by omega
    exact hA
  · rfl
theorem schT_step {p : List UInt8} {A : List UInt64} {j : Nat} (hA : schA p 128 = A) : schT p A (16 + j + 1) = (schB A j).set (16 + j) ((schB A j).getD j 0 + sig0 ((schB A j).getD (j + 1) 0) + (schB A j).getD (j + 9) 0 + sig1 ((schB A j).getD (j + 14) 0)) := by
  rw [schT_hi hA oM, show 16 + j + 1 - 16 = j + 1 by omega]; rfl
theorem schA_step (p : List UInt8) (t i : Nat) (hi : i < 8) : schA p (8 * t + (i + 1)) = (schA p (8 * t + i)).set t (shl64 ((schA p (8 * t + i)).getD t 0) 8 ||| (p.getD (8 * t + i) 0).toUInt64) := by
  have e : (8 * t + i) / 8 = t := by omega
  show schA p ((8 * t + i) + 1) = _
  rw [schA, e]

theorem r2_K (k : List UInt64) (hk : Hid (kW = k)) : Meets Tryz.prog 239 [] [] (fun _ => True) (fun v out => v = agg (wordsV k) ∧ out = []) := by
 intro W hW
 rw [← hk.out]
 refine calls_of (hp0 := []) Tryz.func239 J 2 Tryz.ntmps239 J (HRep.nil _) (Sat.seq (Sat.region (Tr.alloc (cs := (wordsV (List.replicate 80 0))) J Zr209 J ?_)))
 intro n0 hn0 hf0
 refine Tr.nil (at_n (Sat.seq (Sat.region (Tr.build (cs := wordsV kW) J J J (fun w => by kernel_rfl) ?_))))
 refine Tr.storeAll J J J J zB Sz209 (by (simp [kW]; done)) Z0 sP zU ?_
 refine Tr.nil (at_n (Sat.ret (en_r ?_)))
 refine ⟨_, [], res_cell J J Y209 J Sz209 Z0 (by simp [kW]), sP, sP, ?_, rfl⟩
 rfl

theorem r2_Start (k : List UInt64) (hk : Hid (startW = k)) : Meets Tryz.prog 208 [] [] (fun _ => True) (fun v out => v = agg (wordsV k) ∧ out = []) := by
 intro W hW
 rw [← hk.out]
 refine calls_of (hp0 := []) Tryz.func208 J 2 Tryz.ntmps208 J (HRep.nil _) (Sat.seq (Sat.region (Tr.alloc (cs := (wordsV (List.replicate 8 0))) J Zr135 J ?_)))
 intro n0 hn0 hf0
 refine Tr.nil (at_n (Sat.seq (Sat.region (Tr.build (cs := wordsV startW) J J J (fun w => by kernel_rfl) ?_))))
 refine Tr.storeAll J J J J zB Sz135 (by (simp [startW]; done)) Z0 sP zU ?_
 refine Tr.nil (at_n (Sat.ret (en_r ?_)))
 refine ⟨_, [], res_cell J J Y135 J Sz135 Z0 (by simp [startW]), sP, sP, ?_, rfl⟩
 rfl

theorem r2_rot (x : UInt64) (n : Nat) (hn : n ≤ 63) : Meets Tryz.prog 240 [u64 x, i64 (n : Int)] [] (fun _ => True) (fun v out => v = u64 (rolW x (64 - n)) ∧ out = []) := by
 intro W hW
 refine calls_of (hp0 := []) Tryz.func240 J 15 Tryz.ntmps240 J (HRep.nil _) (Sat.seq (Sat.region (Tr.assign J J (show evIn _ _ = some (u64 0) from rfl) (Tr.nil (at_n (Sat.seq (Sat.region (Tr.move J J J (Tr.move J J J (Tr.conv J J J Y3 Y35 (cv_i64_u64 _) (Tr.shr_u64 J J J J n (by rw [wordOf_id _ oM]) oM ?_)))))))))))
 refine Tr.move J J J (Tr.move J J J (Tr.subN 64 n J J J J oM (Tr.conv J J J Y3 Y35 (cv_i64_u64 _) (Tr.shl_u64 J J J J (64 - n) (by rw [wordOf_id _ oM]) oM ?_))))
 refine Tr.or_u64 J J J J (Tr.assign J J J (Tr.nil (at_n (Sat.ret (en_r ?_)))))
 refine ⟨_, [], res_tmp J J, sP, sP, ?_, rfl⟩
 rw [rolW_64 x n oM]

theorem r2_piece (st : List UInt64) (hst : st.length = 8) (p : List UInt8) (hp : p.length = 128) (q o c : Nat) (A w k : List UInt64) (R : W8) (hA : Hid (schA p 128 = A)) (hwp : Hid (schB A 64 = w)) (hk : Hid (kW = k)) (hk80 : k.length = 80) (hR : Hid (rnds k w (W8.of st) 80 = R)) : Meets Tryz.prog 213 [agg (wordsV st), .slice (some ⟨q, o, none⟩) 128 c] [] (fun W => Sees W q o (bytesV p)) (fun v out => v = agg (wordsV (addUp st R.l 8)) ∧ out = []) := by
 intro W hW
 have hA80 : A.length = 80 := by rw [← hA.out]; exact schA_length p 128
 have hw80 : w.length = 80 := by rw [← hwp.out, schB_length]; exact hA80
 have hRl := W8.l_length R
 have hlw := hw80
 have hcm := addUp_comm hst hRl
 refine calls_of (hp0 := []) Tryz.func213 J 176 Tryz.ntmps213 J (HRep.nil _) (Sat.seq (Sat.region (Tr.boxA J J ?_)))
 intro n2 hn2 hf2
 refine Tr.alloc (cs := (wordsV (List.replicate 8 0))) J Zr135 J ?_
 intro n4 hn4 hf4
 refine Tr.nil (at_n (Sat.seq (Sat.region (Tr.callV J J J J Body239 (r2_K k hk) (fun _ _ => trivial) (Tr.alloc (cs := (wordsV (List.replicate 80 0))) J Zr209 J ?_)))))
 intro n5 hn5 hf5
 refine Tr.storeAll J J J J zB Sz209 (by (simp [hk80]; done)) Z0 sP zU ?_
 refine Tr.nil (at_n (Sat.seq (Sat.region (Tr.alloc (cs := (wordsV (List.replicate 80 0))) J Zr209 J ?_))))
 intro n6 hn6 hf6
 refine Tr.nil (at_n (Sat.seq (Sat.seq (Sat.region (Tr.assign J J J (Tr.nil (at_n (Sat.block (Sat.loop (ι := Nat) (fun t => ⟨[(1, .slice (some ⟨q, o, none⟩) 128 c), (2, ptr n2 0), (4, ptr n4 0), (5, ptr n5 0), (6, ptr n6 0), (7, i64 (t : Int))], [⟨n6, wordsV (schT p A t), 209, 80⟩, ⟨n5, wordsV k, 209, 80⟩, ⟨n4, wordsV (List.replicate 8 0), 135, 8⟩, ⟨n2, wordsV st, 135, (wordsV st).length⟩]⟩) (fun t => t ≤ 80) (fun t => 80 - t) (0) ?_ ?_ ?_)))))))))
 · omega
 · exact weak_of (wk1 rfl (wk1 rfl (wk1 rfl (wk1 rfl (wk1 rfl (wk1 rfl wk0)))))) (wh1 (by rw [schT_lo oM]; exact mem0) (wh1 Z1 (wh1 Z2 (wh1 Z3 wh0)))) nD
 ·
  rintro t ht
  refine Sat.seq (Sat.seq (Sat.region (Tr.move J J J (Tr.lss J J J J J (Tr.nil (at_n (Sat.condP J (fun hc0 => ?_) (fun hc0 => ?_))))))))
  ·
   refine Sat.skip (at_n (Sat.seq (Sat.block (Sat.seq (Sat.seq (Sat.region (Tr.move J J J (Tr.lss J J J J J (Tr.nil (at_n (Sat.condP J (fun hc1 => ?_) (fun hc1 => ?_))))))))))))
   ·
    refine Sat.seq (Sat.seq (Sat.region (Tr.assign J J J (Tr.nil (at_n (Sat.block (Sat.loop (ι := Nat) (fun i => ⟨[(1, .slice (some ⟨q, o, none⟩) 128 c), (2, ptr n2 0), (4, ptr n4 0), (5, ptr n5 0), (6, ptr n6 0), (7, i64 (t : Int)), (8, i64 (i : Int))], [⟨n6, wordsV (schA p (8 * t + i)), 209, 80⟩, ⟨n5, wordsV k, 209, 80⟩, ⟨n4, wordsV (List.replicate 8 0), 135, 8⟩, ⟨n2, wordsV st, 135, (wordsV st).length⟩]⟩) (fun i => i ≤ 8) (fun i => 8 - i) (0) ?_ ?_ ?_)))))))
    · omega
    · exact weak_of (wk1 rfl (wk1 rfl (wk1 rfl (wk1 rfl (wk1 rfl (wk1 rfl (wk1 rfl wk0))))))) (wh1 (by rw [Nat.add_zero, ← schT_lo (p := p) (A := A) (by omega : t ≤ 16)]; exact mem0) (wh1 Z1 (wh1 Z2 (wh1 Z3 wh0)))) nD
    ·
     rintro i hi
     have hlw := schA_length p (8 * t + i)
     refine Sat.seq (Sat.seq (Sat.region (Tr.move J J J (Tr.lss J J J J J (Tr.nil (at_n (Sat.condP J (fun hc2 => ?_) (fun hc2 => ?_))))))))
     ·
      refine Sat.skip (at_n (Sat.seq (Sat.block (Sat.draw [(0, 0), (0, 1), (0, 2), (1, 3), (0, 4), (0, 5), (0, 6), (0, 7), (0, 8), (0, 9), (0, 10), (1, 11), (0, 12), (0, 13), (0, 14), (4, 15)] Mixed zK (Tr.move J J J (Tr.move J J J (Tr.idxArr1 J J J J Y209 Sz22 _ J oM (Tr.load1 J J J Y22 J Z0 (by exact get_words oM) ?_))))))))
      refine Tr.shl_u64 J J J J 8 J dE (Tr.move J J J (Tr.move J J J (Tr.mulN 8 t J J J J oM (Tr.move J J J (Tr.addN (8 * t) i J J J J oM (Tr.idxSlO J J J J Y39 Sz5 (8 * t + i) oM oM (Tr.loadE J J J Y5 J sP (hW (8 * t + i) _ (get_bytes oM)) (Tr.conv J J J Y5 Y22 (cv_u8_u64 _) (Tr.or_u64 J J J J (Tr.idxArr1 J J J J Y209 Sz22 _ J oM (Tr.store1 J J J J J Sz22 Z0 (by (simp [hlw]; omega)) (by exact set_words _ _ _) zU ?_)))))))))))
      refine Tr.nil (bl_n (at_n (Sat.region (Tr.move J J J (Tr.add_i64 J J J J oM (Tr.assign J J J (Tr.nil (at_n ?_))))))))
      exact ⟨i + 1, by omega, by omega, weak_of (wk1 rfl (wk1 rfl (wk1 rfl (wk1 rfl (wk1 rfl (wk1 rfl (wk1 rfl wk0))))))) (wh1 (by rw [schA_step p t i oM]; exact mem0) (wh1 Z1 (wh1 Z2 (wh1 Z3 wh0)))) nD⟩
     ·
      refine Sat.exit (at_x (at_x (bl_h (at_n (Sat.exit (at_x (bl_h (at_n (Sat.region (Tr.move J J J (Tr.add_i64 J J J J oM (Tr.assign J J J (Tr.nil (at_n ?_))))))))))))))
      exact ⟨t + 1, by omega, by omega, weak_of (wk1 rfl (wk1 rfl (wk1 rfl (wk1 rfl (wk1 rfl (wk1 rfl wk0)))))) (wh1 (by (rw [schT_lo (by omega : t + 1 ≤ 16), show 8 * (t + 1) = 8 * t + i by omega]; exact mem0)) (wh1 Z1 (wh1 Z2 (wh1 Z3 wh0)))) nD⟩
   ·
    obtain ⟨j, rfl⟩ : ∃ j, t = 16 + j := ⟨t - 16, by omega⟩
    rw [schT_hi hA.out (show 16 ≤ 16 + j by omega), show 16 + j - 16 = j by omega]
    have hlw : (schB A j).length = 80 := by rw [schB_length]; exact hA80
    refine Sat.skip (at_n (Sat.seq (Sat.draw [(0, 0), (0, 1), (0, 2), (1, 3), (0, 4), (0, 5), (0, 6), (1, 7), (0, 8), (0, 9)] Mixed zK (Tr.move J J J (Tr.sub_i64 J J J J oM (Tr.idxArr1 J J J J Y209 Sz22 (j + 1) oM oM (Tr.load1 J J J Y22 J Z0 (by exact get_words oM) ?_)))))))
    refine Tr.move J J J (Tr.sub_i64 J J J J oM (Tr.idxArr1 J J J J Y209 Sz22 (j + 14) oM oM (Tr.load1 J J J Y22 J Z0 (by exact get_words oM) ?_)))
    refine Tr.assign J J J (Tr.assign J J J (Tr.nil (at_n (Sat.draw [(0, 0), (0, 1), (0, 2), (0, 3), (1, 4), (0, 5), (0, 7), (0, 10), (0, 11), (0, 14), (0, 15), (0, 16), (1, 17), (0, 19), (0, 21), (0, 24), (0, 25), (3, 6), (3, 8), (0, 9), (0, 12), (0, 13), (0, 18), (3, 20), (3, 22), (0, 23), (0, 26), (0, 27), (0, 28), (4, 29)] Mixed zK (Tr.move J J J (Tr.move J J J (Tr.sub_i64 J J J J oM (Tr.idxArr1 J J J J Y209 Sz22 j oM oM (Tr.load1 J J J Y22 J Z0 (by exact get_words oM) ?_)))))))))
    refine Tr.move J J J (Tr.move J J J (Tr.move J J J (Tr.shr_u64 J J J J 7 J dE (Tr.move J J J (Tr.sub_i64 J J J J oM (Tr.idxArr1 J J J J Y209 Sz22 (j + 9) oM oM (Tr.load1 J J J Y22 J Z0 (by exact get_words oM) ?_)))))))
    refine Tr.move J J J (Tr.move J J J (Tr.move J J J (Tr.shr_u64 J J J J 6 J dE (Tr.callV J J J J Body240 (r2_rot _ 1 dE) (fun _ _ => trivial) (Tr.callV J J J J Body240 (r2_rot _ 8 dE) (fun _ _ => trivial) (Tr.xor_u64 J J J J (Tr.xor_u64 J J J J (Tr.add_u64 J J J J (Tr.add_u64 J J J J (Tr.callV J J J J Body240 (r2_rot _ 19 dE) (fun _ _ => trivial) (Tr.callV J J J J Body240 (r2_rot _ 61 dE) (fun _ _ => trivial) (Tr.xor_u64 J J J J (Tr.xor_u64 J J J J (Tr.add_u64 J J J J (Tr.idxArr1 J J J J Y209 Sz22 (16 + j) oM oM (Tr.store1 J J J J J Sz22 Z0 (by (simp [hlw]; omega)) (by exact set_words _ _ _) zU ?_))))))))))))))))
    refine Tr.nil (bl_n (at_n (Sat.region (Tr.move J J J (Tr.add_i64 J J J J oM (Tr.assign J J J (Tr.nil (at_n ?_))))))))
    exact ⟨16 + j + 1, by omega, by omega, weak_of (wk1 rfl (wk1 rfl (wk1 rfl (wk1 rfl (wk1 rfl (wk1 rfl wk0)))))) (wh1 (by (rw [schT_step hA.out]; exact mem0)) (wh1 Z1 (wh1 Z2 (wh1 Z3 wh0)))) nD⟩
  ·
   obtain rfl : t = 80 := by omega
   rw [show schT p A 80 = w from by rw [schT_hi hA.out dE]; exact hwp.out]
   refine Sat.exit (at_x (at_x (bl_h (at_n (Sat.seq (Sat.region (Tr.loadAll J J J Y135 J Sz135 Z3 (by (simp [hst]; done)) ?_)))))))
   refine Tr.alloc (cs := (wordsV (List.replicate 8 0))) J Zr135 J ?_
   intro n11 hn11 hf11
   refine Tr.storeAll J J J J zB Sz135 (by (simp [hst]; done)) Z0 sP zU ?_
   refine Tr.nil (at_n (Sat.seq (Sat.seq (Sat.region (Tr.assign J J J (Tr.nil (at_n (Sat.block (Sat.loop (ι := Nat) (fun t => ⟨[(2, ptr n2 0), (4, ptr n4 0), (5, ptr n5 0), (6, ptr n6 0), (11, ptr n11 0), (12, i64 (t : Int))], [⟨n11, wordsV (rnds k w (W8.of st) t).l, 135, 8⟩, ⟨n6, wordsV w, 209, 80⟩, ⟨n5, wordsV k, 209, 80⟩, ⟨n4, wordsV (List.replicate 8 0), 135, 8⟩, ⟨n2, wordsV st, 135, (wordsV st).length⟩]⟩) (fun t => t ≤ 80) (fun t => 80 - t) (0) ?_ ?_ ?_)))))))))
   · omega
   · exact weak_of (wk1 rfl (wk1 rfl (wk1 rfl (wk1 rfl (wk1 rfl (wk1 rfl wk0)))))) (wh1 (by rw [show (rnds k w (W8.of st) 0).l = st from W8.of_l hst]; exact mem0) (wh1 Z1 (wh1 Z2 (wh1 Z3 (wh1 Z4 wh0))))) nD
   ·
    rintro t ht
    have hlr := W8.l_length (rnds k w (W8.of st) t)
    refine Sat.seq (Sat.seq (Sat.region (Tr.move J J J (Tr.lss J J J J J (Tr.nil (at_n (Sat.condP J (fun hc3 => ?_) (fun hc3 => ?_))))))))
    ·
     refine Sat.skip (at_n (Sat.seq (Sat.block (Sat.seq (Sat.draw [(0, 0), (1, 1), (0, 2), (1, 3), (0, 4), (0, 5)] Mixed zK (Tr.idxArr1 J J J J Y135 Sz22 0 J dE (Tr.load1 J J J Y22 J Z0 (by rfl) ?_)))))))
     refine Tr.idxArr1 J J J J Y135 Sz22 4 J dE (Tr.load1 J J J Y22 J Z0 (by rfl) ?_)
     refine Tr.assign J J J (Tr.assign J J J (Tr.nil (at_n (Sat.seq (Sat.draw [(0, 0), (1, 1), (0, 2), (0, 4), (0, 7), (0, 11), (0, 12), (1, 13), (0, 14), (0, 15), (0, 16), (0, 17), (1, 18), (0, 19), (0, 20), (0, 22), (0, 23), (1, 24), (0, 26), (0, 27), (1, 28), (3, 3), (3, 5), (0, 6), (3, 8), (0, 9), (0, 10), (0, 21), (0, 25), (0, 29), (0, 30)] Mixed zK (Tr.idxArr1 J J J J Y135 Sz22 7 J dE (Tr.load1 J J J Y22 J Z0 (by rfl) ?_)))))))
     refine Tr.move J J J (Tr.move J J J (Tr.move J J J (Tr.move J J J (Tr.idxArr1 J J J J Y135 Sz22 5 J dE (Tr.load1 J J J Y22 J Z0 (by rfl) ?_)))))
     refine Tr.and_u64 J J J J (Tr.move J J J (Tr.not_u64 J J J (Tr.idxArr1 J J J J Y135 Sz22 6 J dE (Tr.load1 J J J Y22 J Z0 (by rfl) ?_))))
     refine Tr.and_u64 J J J J (Tr.xor_u64 J J J J (Tr.move J J J (Tr.idxArr1 J J J J Y209 Sz22 _ J oM (Tr.load1 J J J Y22 J Z2 (by exact get_words oM) ?_))))
     refine Tr.move J J J (Tr.idxArr1 J J J J Y209 Sz22 _ J oM (Tr.load1 J J J Y22 J Z1 (by exact get_words oM) ?_))
     refine Tr.callV J J J J Body240 (r2_rot _ 14 dE) (fun _ _ => trivial) (Tr.callV J J J J Body240 (r2_rot _ 18 dE) (fun _ _ => trivial) (Tr.xor_u64 J J J J (Tr.callV J J J J Body240 (r2_rot _ 41 dE) (fun _ _ => trivial) (Tr.xor_u64 J J J J (Tr.add_u64 J J J J (Tr.add_u64 J J J J (Tr.add_u64 J J J J (Tr.add_u64 J J J J (Tr.assign J J J (Tr.nil (at_n (Sat.seq (Sat.draw [(0, 0), (0, 2), (0, 5), (0, 8), (0, 9), (1, 10), (0, 11), (0, 12), (0, 13), (1, 14), (0, 15), (0, 16), (0, 17), (1, 18), (0, 19), (1, 20), (0, 21), (0, 22), (3, 1), (3, 3), (0, 4), (3, 6), (0, 7), (0, 23), (0, 24)] Mixed zK (Tr.move J J J (Tr.move J J J (Tr.move J J J (Tr.move J J J (Tr.idxArr1 J J J J Y135 Sz22 1 J dE (Tr.load1 J J J Y22 J Z0 (by rfl) ?_)))))))))))))))))))
     refine Tr.and_u64 J J J J (Tr.move J J J (Tr.idxArr1 J J J J Y135 Sz22 2 J dE (Tr.load1 J J J Y22 J Z0 (by rfl) ?_)))
     refine Tr.and_u64 J J J J (Tr.xor_u64 J J J J (Tr.idxArr1 J J J J Y135 Sz22 1 J dE (Tr.load1 J J J Y22 J Z0 (by rfl) ?_)))
     refine Tr.idxArr1 J J J J Y135 Sz22 2 J dE (Tr.load1 J J J Y22 J Z0 (by rfl) ?_)
     refine Tr.and_u64 J J J J (Tr.xor_u64 J J J J (Tr.callV J J J J Body240 (r2_rot _ 28 dE) (fun _ _ => trivial) (Tr.callV J J J J Body240 (r2_rot _ 34 dE) (fun _ _ => trivial) (Tr.xor_u64 J J J J (Tr.callV J J J J Body240 (r2_rot _ 39 dE) (fun _ _ => trivial) (Tr.xor_u64 J J J J (Tr.add_u64 J J J J (Tr.assign J J J (Tr.nil (at_n (Sat.region (Tr.move J J J (Tr.move J J J (Tr.add_u64 J J J J (Tr.move J J J (Tr.idxArr1 J J J J Y135 Sz22 1 J dE (Tr.load1 J J J Y22 J Z0 (by rfl) ?_)))))))))))))))))
     refine Tr.idxArr1 J J J J Y135 Sz22 2 J dE (Tr.load1 J J J Y22 J Z0 (by rfl) ?_)
     refine Tr.idxArr1 J J J J Y135 Sz22 3 J dE (Tr.load1 J J J Y22 J Z0 (by rfl) ?_)
     refine Tr.move J J J (Tr.add_u64 J J J J (Tr.move J J J (Tr.idxArr1 J J J J Y135 Sz22 5 J dE (Tr.load1 J J J Y22 J Z0 (by rfl) ?_))))
     refine Tr.idxArr1 J J J J Y135 Sz22 6 J dE (Tr.load1 J J J Y22 J Z0 (by rfl) ?_)
     refine Tr.build (cs := wordsV (rnd1 (rnds k w (W8.of st) t) (k.getD t 0) (w.getD t 0)).l) J J J (fun w => by kernel_rfl) ?_
     refine Tr.storeAll J J J J zB Sz135 (by (simp [W8.l_length]; done)) Z0 (by (simp [W8.l_length]; done)) zU ?_
     refine Tr.nil (bl_n (at_n (Sat.region (Tr.move J J J (Tr.add_i64 J J J J oM (Tr.assign J J J (Tr.nil (at_n ?_))))))))
     exact ⟨t + 1, by omega, by omega, weak_of (wk1 rfl (wk1 rfl (wk1 rfl (wk1 rfl (wk1 rfl (wk1 rfl wk0)))))) (wh1 Z0 (wh1 Z1 (wh1 Z2 (wh1 Z3 (wh1 Z4 wh0))))) nD⟩
    ·
     obtain rfl : t = 80 := by omega
     rw [hR.out]
     refine Sat.exit (at_x (at_x (bl_h (at_n (Sat.seq (Sat.seq (Sat.region (Tr.assign J J J (Tr.nil (at_n (Sat.block (Sat.loop (ι := Nat) (fun i => ⟨[(2, ptr n2 0), (4, ptr n4 0), (11, ptr n11 0), (17, i64 (i : Int))], [⟨n11, wordsV (addUp R.l st i), 135, 8⟩, ⟨n4, wordsV (List.replicate 8 0), 135, 8⟩, ⟨n2, wordsV st, 135, (wordsV st).length⟩]⟩) (fun i => i ≤ 8) (fun i => 8 - i) (0) ?_ ?_ ?_))))))))))))
     · omega
     · exact weak_of (wk1 rfl (wk1 rfl (wk1 rfl (wk1 rfl wk0)))) (wh1 Z0 (wh1 Z3 (wh1 Z4 wh0))) nD
     ·
      rintro i hi
      have hlu := addUp_length R.l st i
      refine Sat.seq (Sat.seq (Sat.region (Tr.move J J J (Tr.lss J J J J J (Tr.nil (at_n (Sat.condP J (fun hc4 => ?_) (fun hc4 => ?_))))))))
      ·
       refine Sat.skip (at_n (Sat.seq (Sat.block (Sat.draw [(0, 0), (0, 1), (0, 2), (1, 3), (0, 4), (0, 5), (1, 6), (0, 7), (0, 8), (4, 9)] Mixed zK (Tr.move J J J (Tr.move J J J (Tr.idxArr1 J J J J Y135 Sz22 _ J oM (Tr.load1 J J J Y22 J Z0 (by exact get_words oM) ?_))))))))
       refine Tr.move J J J (Tr.idxArr1 J J J J Y135 Sz22 _ J oM (Tr.load1 J J J Y22 J Z2 (by exact get_words oM) ?_))
       refine Tr.add_u64 J J J J (Tr.idxArr1 J J J J Y135 Sz22 _ J oM (Tr.store1 J J J J J Sz22 Z0 (by (simp [hRl, addUp_length]; omega)) (by exact set_words _ _ _) zU ?_))
       refine Tr.nil (bl_n (at_n (Sat.region (Tr.move J J J (Tr.add_i64 J J J J oM (Tr.assign J J J (Tr.nil (at_n ?_))))))))
       exact ⟨i + 1, by omega, by omega, weak_of (wk1 rfl (wk1 rfl (wk1 rfl (wk1 rfl wk0)))) (wh1 Z0 (wh1 Z1 (wh1 Z2 wh0))) nD⟩
      ·
       obtain rfl : i = 8 := by omega
       rw [hcm]
       refine Sat.exit (at_x (at_x (bl_h (at_n (Sat.seq (Sat.region (Tr.loadAll J J J Y135 J Sz135 Z0 (by (simp [hst, addUp_length]; done)) ?_)))))))
       refine Tr.storeAll J J J J zB Sz135 (by (simp [hst, addUp_length]; done)) Z1 sP zV ?_
       refine Tr.nil (at_n (Sat.ret (en_r ?_)))
       refine ⟨_, [], res_cell J J Y135 J Sz135 Z1 (by simp [hst, addUp_length]), sP, sP, ?_, rfl⟩
       rfl

theorem r2_bytes (st : List UInt64) (hst : st.length = 8) (s : List UInt8) (hs : Hid (sumUp st 64 = s)) : Meets Tryz.prog 140 [agg (wordsV st)] [] (fun _ => True) (fun v out => v = agg (bytesV s) ∧ out = []) := by
 intro W hW
 have hs64 : s.length = 64 := by rw [← hs.out]; exact sumUp_length st 64
 refine calls_of (hp0 := []) Tryz.func140 J 23 Tryz.ntmps140 J (HRep.nil _) (Sat.seq (Sat.region (Tr.boxA J J ?_)))
 intro n1 hn1 hf1
 refine Tr.alloc (cs := (bytesV (List.replicate 64 0))) J Zr26 J ?_
 intro n2 hn2 hf2
 refine Tr.nil (at_n (Sat.seq (Sat.region (Tr.alloc (cs := (bytesV (List.replicate 64 0))) J Zr26 J ?_))))
 intro n3 hn3 hf3
 refine Tr.nil (at_n (Sat.seq (Sat.seq (Sat.region (Tr.assign J J J (Tr.nil (at_n (Sat.block (Sat.loop (ι := Nat) (fun k => ⟨[(1, ptr n1 0), (2, ptr n2 0), (3, ptr n3 0), (4, i64 (k : Int))], [⟨n3, bytesV (sumUp st k), 26, 64⟩, ⟨n2, bytesV (List.replicate 64 0), 26, 64⟩, ⟨n1, wordsV st, 135, (wordsV st).length⟩]⟩) (fun k => k ≤ 64) (fun k => 64 - k) (0) ?_ ?_ ?_)))))))))
 · omega
 · exact weak_of (wk1 rfl (wk1 rfl (wk1 rfl (wk1 rfl wk0)))) (wh1 Z0 (wh1 Z1 (wh1 Z2 wh0))) nD
 ·
  rintro k hi
  have hlk := sumUp_length st k
  refine Sat.seq (Sat.seq (Sat.region (Tr.move J J J (Tr.lss J J J J J (Tr.nil (at_n (Sat.condP J (fun hc0 => ?_) (fun hc0 => ?_))))))))
  ·
   refine Sat.skip (at_n (Sat.seq (Sat.block (Sat.region (Tr.move J J J (Tr.move J J J (Tr.quo_i64 J J J J oM (Tr.idxArr1 J J J J Y135 Sz22 (k / 8) oM oM (Tr.load1 J J J Y22 J Z2 (by exact get_words oM) ?_)))))))))
   refine Tr.move J J J (Tr.remN k 8 J J J J dE (Tr.mulN 8 (k % 8) J J J J oM (Tr.subN 56 (8 * (k % 8)) J J J J oM (Tr.conv J J J Y3 Y35 (cv_i64_u64 _) (Tr.shr_u64 J J J J (56 - 8 * (k % 8)) (by rw [wordOf_id _ oM]) oM ?_)))))
   refine Tr.conv J J J Y22 Y5 (cv_u64_u8 _) (Tr.idxArr1 J J J J Y26 Sz5 _ J oM (Tr.store1 J J J J J Sz5 Z0 (by (simp [sumUp_length]; omega)) (by exact set_bytes _ _ _) zU ?_))
   refine Tr.nil (bl_n (at_n (Sat.region (Tr.move J J J (Tr.add_i64 J J J J oM (Tr.assign J J J (Tr.nil (at_n ?_))))))))
   exact ⟨k + 1, by omega, by omega, weak_of (wk1 rfl (wk1 rfl (wk1 rfl (wk1 rfl wk0)))) (wh1 Z0 (wh1 Z1 (wh1 Z2 wh0))) nD⟩
  ·
   obtain rfl : k = 64 := by omega
   rw [hs.out]
   clear hlk
   refine Sat.exit (at_x (at_x (bl_h (at_n (Sat.seq (Sat.region (Tr.loadAll J J J Y26 J Sz26 Z0 (by (simp [hs64]; done)) ?_)))))))
   refine Tr.storeAll J J J J zE Sz26 (by (simp [hs64]; done)) Z1 sP zV ?_
   refine Tr.nil (at_n (Sat.ret (en_r ?_)))
   refine ⟨_, [], res_cell J J Y26 J Sz26 Z1 (by simp [hs64]), sP, sP, ?_, rfl⟩
   rfl

theorem r2_join (p : Option Addr) (n c : Nat) (ss : List Sl) (ls : List (List UInt8)) (hss : ss.length = n) (hls : ls.length = n) (hsl : ∀ j, j < n → (ss.getD j Sl.nil).n = (ls.getD j []).length ∧ ((ss.getD j Sl.nil).p = none → (ss.getD j Sl.nil).n = 0)) (F : List UInt8) (hF : ls.flatten = F) (htot : F.length ≤ 90000) (hn : n ≤ 1000000)  : Meets Tryz.prog 143 [.slice p n c] [] (fun W => SeesP W p (ss.map Sl.v) ∧ ∀ j, j < n → SeesP W (ss.getD j Sl.nil).p (bytesV (ls.getD j []))) (fun v out => ∃ s, v = s.v ∧ Acc s out (bytesV F) 5 F.length 1) := by
 intro W hW
 have hle := take_flat_le ls
 rw [hF] at hle
 refine calls_of (hp0 := []) Tryz.func143 J 18 Tryz.ntmps143 J (HRep.nil _) (Sat.seq (Sat.region (Tr.assign J J J (Tr.nil (at_n (Sat.seq (Sat.region (Tr.assign J J J (Tr.nil (at_n (Sat.seq (Sat.seq (Sat.region (Tr.assign J J J (Tr.nil (at_n (Sat.block (Sat.loop (ι := Nat × Sl × List Blk) (fun x => ⟨[(0, .slice p n c), (3, x.2.1.v), (4, i64 (x.1 : Int))], (x.2.2 ++ [])⟩) (fun x => x.1 ≤ n ∧ Acc x.2.1 x.2.2 (bytesV (ls.take x.1).flatten) 5 (ls.take x.1).flatten.length 1) (fun x => n - x.1) ((0, Sl.nil, [])) ?_ ?_ ?_))))))))))))))))))
 · exact ⟨Nat.zero_le _, Acc.none⟩
 · exact weak_perm (wk1 rfl (wk1 rfl (wk1 rfl wk0))) (pm_none pm_nil)
 ·
  rintro x ⟨hx, hax⟩
  refine Sat.seq (Sat.seq (Sat.region (Tr.move J J J (Tr.move J J J (Tr.lenSl J J J Y133 (Tr.lss J J J J J (Tr.nil (at_n (Sat.condP J (fun hc0 => ?_) (fun hc0 => ?_))))))))))
  ·
   have hx3 : x.1 < n := by omega
   obtain ⟨b, o, hbp, hbs⟩ := hW.1.at (by rw [List.length_map]; omega)
   have hv : W.cell? ⟨b, o + x.1 * 1, none⟩ = some (ss.getD x.1 Sl.nil).v := by rw [Nat.mul_one]; exact hbs x.1 _ (sl_get oM)
   have hstep := hle (x.1 + 1)
   rw [take_flat oM, List.length_append, ← (hsl x.1 oM).1] at hstep
   refine Sat.skip (at_n (Sat.seq (Sat.block (Sat.region (Tr.move J J J (Tr.move J J J (Tr.move J J J (Tr.idxSlP 1 J J J hbp J Y133 Sz39 x.1 J oM (Tr.loadE J J J Y39 J sP (hv) (Tr.appendAcc (z := u8 0) (by' := 1) (bytesV (ls.getD x.1 [])) J J J J J Y39 Y39 Sz5 Zr5 (by unfold By; kernel_rfl) J hax sG (fun w h => seesP_ext h J (hW.2 x.1 oM)) (hsl x.1 oM).2 (bytesV_cell _) oM oM (by rw [bytesV, List.length_map, Nat.mul_one]; exact (hsl x.1 oM).1.symm) ?_))))))))))
   intro s16 bl16 hac16
   refine Tr.assign J J J (Tr.nil (bl_n (at_n (Sat.region (Tr.move J J J (Tr.add_i64 J J J J oM (Tr.assign J J J (Tr.nil (at_n ?_)))))))))
   refine ⟨(x.1 + 1, s16, bl16), ⟨by simp only []; omega, ?_⟩, by simp only []; omega, weak_perm (wk1 J (wk1 J (wk1 J wk0))) (pm_seg sG pm_nil)⟩
   rw [take_flat oM, List.length_append, ← (hsl x.1 oM).1]
   simpa [bytesV] using hac16
  ·
   have hx3 : x.1 = n := by omega
   rw [hx3, List.take_of_length_le oM, hF] at hax
   refine Sat.exit (at_x (at_x (bl_h (at_n (Sat.seq (Sat.region (Tr.move J J J (Tr.assign J J J (Tr.nil (at_n (Sat.ret (en_r (end_perm (out := (x.2.2 ++ [])) (res_tmp J J) (pm_seg sG pm_nil) ?_)))))))))))))
   exact ⟨x.2.1, rfl, by rw [List.append_nil]; exact hax⟩

theorem pad_acc (F : List UInt8) {q c : Nat} (x : UInt64) (h : F.length + 1 + padZ F.length + 8 ≤ c) : Acc ⟨some ⟨q, 0, none⟩, F.length + 1 + padZ F.length + 8, c⟩ [⟨q, bytesV (F ++ [128] ++ List.replicate (padZ F.length) 0) ++ List.replicate 8 (u8 0), 5, c⟩] (bytesV (F ++ [128] ++ List.replicate (padZ F.length) 0 ++ beUp 0 8 ++ beUp x 0)) 5 (F.length + 1 + padZ F.length + 8 + 0) 1 := by
  have e : bytesV (F ++ [128] ++ List.replicate (padZ F.length) 0) ++ List.replicate 8 (u8 0) = bytesV (F ++ [128] ++ List.replicate (padZ F.length) 0 ++ beUp 0 8 ++ beUp x 0) := by
    rw [show beUp x 0 = [] from rfl, List.append_nil, bytesV_app (b := beUp 0 8)]
    rfl
  have h2 : (bytesV (F ++ [128] ++ List.replicate (padZ F.length) 0 ++ beUp 0 8 ++ beUp x 0)).length = (F.length + 1 + padZ F.length + 8) * 1 := by
    simp [bytesV, beUp_length]; omega
  have h3 := Acc.some (q := q) (E := 5) (size := 1) h h2
  rw [Nat.mul_one] at h3
  rw [e]
  exact h3

theorem r2_Pad (s : Sl) (F : List UInt8) (hsl : s.n = F.length) (hsn : s.p = none → s.n = 0) (htot : F.length ≤ 90000) : Meets Tryz.prog 212 [s.v] [] (fun W => SeesP W s.p (bytesV F)) (fun v out => ∃ s, v = s.v ∧ Acc s out (bytesV (padB F)) 5 (padB F).length 1) := by
 intro W hW
 have hz := padZ_lt F.length
 refine calls_of (hp0 := []) Tryz.func212 J 38 Tryz.ntmps212 J (HRep.nil _) (Sat.seq (Sat.region (Tr.assign J J J (Tr.nil (at_n (Sat.seq (Sat.region (Tr.mkRow (z := u8 0) [] ([]) J J J Y39 Sz5 Zr5 J J (by intro v hv; cases hv) dE J ?_))))))))
 intro q6
 refine Tr.move J J J (Tr.appendSl (z := u8 0) (by' := 1) (bytesV F) J J J J J Y39 Y39 Sz5 Zr5 (by unfold By; kernel_rfl) J (fun w h => seesP_ext h J hW) hsn (bytesV_cell _) rM J J oM oM oM (by rw [bytesV, List.length_map]; omega) ?_)
 intro q8 c8 hq8
 refine Tr.mkRow (z := u8 0) [u8 (128)] (bytesV [128]) J J J Y39 Sz5 Zr5 J J (by intro v hv; rw [List.mem_singleton.1 hv]; rfl) dE J ?_
 intro q9
 refine Tr.appendSl (z := u8 0) (by' := 1) (bytesV [128]) J J J J J Y39 Y39 Sz5 Zr5 (by unfold By; kernel_rfl) J (fun w h => SeesP.of (sees_own h Z0)) (fun e => by cases e) (bytesV_cell _) rM J (by rw [List.nil_append, bytesV, List.length_map]; omega) oM oM oM (by rfl) ?_
 intro q10 c10 hq10
 refine Tr.assign J J J (Tr.nil (at_n (Sat.seq (Sat.block (Sat.loop (ι := Nat × Sl × List Blk) (fun z => ⟨[(0, s.v), (3, z.2.1.v)], (z.2.2 ++ [])⟩) (fun z => z.1 ≤ padZ F.length ∧ Acc z.2.1 z.2.2 (bytesV (F ++ [128] ++ List.replicate z.1 0)) 5 (F.length + 1 + z.1) 1) (fun z => padZ F.length - z.1) ((0, ⟨some ⟨q10, 0, none⟩, 0 + s.n + 1, c10⟩, [⟨q10, [] ++ bytesV F ++ bytesV [128], 5, c10 * 1⟩])) ?_ ?_ ?_)))))
 · exact ⟨Nat.zero_le _, by rw [show [] ++ bytesV F ++ bytesV [128] = bytesV (F ++ [128] ++ List.replicate 0 0) from by simp [bytesV], show 0 + s.n + 1 = F.length + 1 + 0 by omega]; exact Acc.some oM (by simp [bytesV])⟩
 · exact weak_perm (wk1 rfl (wk1 rfl wk0)) (pm_consE rM rfl rfl pm_nil)
 ·
  rintro ⟨j, sz, blz⟩ ⟨hz1, haz⟩
  simp only [] at hz1 haz
  have hzn := haz.num
  have hpz := padZ_at F.length j hz1
  refine Sat.seq (Sat.seq (Sat.region (Tr.move J J J (Tr.lenSl J J J Y39 (Tr.rem_i64 J J J J oM (Tr.nei J J J J J (Tr.nil (at_n (Sat.condNP J (fun hc0 => ?_) (fun hc0 => ?_))))))))))
  ·
   simp only [] at hc0
   have hz3 : j < padZ F.length := by omega
   refine Sat.skip (at_n (Sat.block (Sat.region (Tr.move J J J (Tr.mkRow (z := u8 0) [u8 (0)] (bytesV [0]) J J J Y39 Sz5 Zr5 J J (by intro v hv; rw [List.mem_singleton.1 hv]; rfl) dE J ?_)))))
   intro q16
   refine Tr.appendAcc (z := u8 0) (by' := 1) (bytesV [0]) J J J J J Y39 Y39 Sz5 Zr5 (by unfold By; kernel_rfl) J haz (by repeat (first | exact sg_here | apply sg_there)) (fun w h => SeesP.of (sees_own h Z0)) (fun e => by cases e) (bytesV_cell _) oM oM (by rfl) ?_
   intro s17 bl17 hac17
   refine Tr.assign J J J (Tr.nil (bl_n (at_n ?_)))
   refine ⟨(j + 1, s17, bl17), ⟨by simp only []; omega, ?_⟩, by simp only []; omega, weak_perm (wk1 J (wk1 J wk0)) (pm_seg sG pm_nil)⟩
   rw [List.replicate_succ', ← List.append_assoc]
   simpa [bytesV, Nat.add_assoc] using hac17
  ·
   simp only [] at hc0
   have hz3 : j = padZ F.length := by omega
   rw [hz3] at haz
   obtain ⟨qz, cz, rfl, hcz, rfl⟩ := acc_pos haz oM
   refine Sat.exit (at_x (at_x (bl_h (at_n (Sat.seq (Sat.region (Tr.move J J J (Tr.appendMade (n := F.length + 1 + padZ F.length) (m := 8) (z := u8 0) (by' := 1) J J J J J J Y39 Y3 Sz5 Zr5 (by unfold By; kernel_rfl) J J rM (Nat.mul_one _) (by rw [bytesV, List.length_map]; simp; omega) hcz oM dE ?_))))))))
   intro q19 c19 hq19
   refine Tr.assign J J J (Tr.nil (at_n (Sat.seq (Sat.region (Tr.move J J J (Tr.lenSl J J J Y39 (Tr.conv J J J Y3 Y22 (cv_i64_u64 _) ?_)))))))
   rw [word_nat (n := s.n) oM]
   refine Tr.mul_u64 J J J (show evIn _ _ = some (u64 8) from rfl) ?_
   rw [hsl]
   refine Tr.assign J J J (Tr.nil (at_n (Sat.seq (Sat.seq (Sat.region (Tr.assign J J J (Tr.nil (at_n (Sat.block (Sat.loop (ι := Nat × Sl × List Blk) (fun y => ⟨[(3, y.2.1.v), (4, u64 (UInt64.ofNat F.length * 8)), (5, i64 (7 - (y.1 : Int)))], (y.2.2 ++ [])⟩) (fun y => y.1 ≤ 8 ∧ Acc y.2.1 y.2.2 (bytesV (F ++ [128] ++ List.replicate (padZ F.length) 0 ++ beUp 0 8 ++ beUp (UInt64.ofNat F.length * 8) y.1)) 5 (F.length + 1 + padZ F.length + 8 + y.1) 1) (fun y => 8 - y.1) ((0, ⟨some ⟨q19, 0, none⟩, F.length + 1 + padZ F.length + 8, c19⟩, [⟨q19, bytesV (F ++ [128] ++ List.replicate (padZ F.length) 0) ++ List.replicate 8 (u8 0), 5, c19⟩])) ?_ ?_ ?_))))))))))
   · exact ⟨Nat.zero_le _, pad_acc F _ hq19⟩
   · exact weak_perm (wk1 rfl (wk1 rfl (wk1 rfl wk0))) (pm_consE rM rfl rfl pm_nil)
   ·
    rintro y ⟨hy, hay⟩
    refine Sat.seq (Sat.seq (Sat.region (Tr.move J J J (Tr.geq J J J J J (Tr.nil (at_n (Sat.condP J (fun hc1 => ?_) (fun hc1 => ?_))))))))
    ·
     have hy3 : y.1 ≤ 7 := by omega
     refine Sat.skip (at_n (Sat.seq (Sat.block (Sat.region (Tr.move J J J (Tr.move J J J (Tr.move J J J (Tr.mul_i64 J J J J oM (Tr.conv J J J Y3 Y35 (cv_i64_u64 _) (Tr.shr_u64 J J J J (56 - 8 * y.1) (by rw [wordOf_id _ oM]; omega) oM ?_))))))))))
     refine Tr.conv J J J Y22 Y5 (cv_u64_u8 _) (Tr.mkRow (z := u8 0) [u8 ((shr64 (UInt64.ofNat F.length * 8) (56 - 8 * y.1)).toUInt8)] (bytesV [(shr64 (UInt64.ofNat F.length * 8) (56 - 8 * y.1)).toUInt8]) J J J Y39 Sz5 Zr5 J J (by intro v hv; rw [List.mem_singleton.1 hv]; rfl) dE J ?_)
     intro q35
     refine Tr.appendAcc (z := u8 0) (by' := 1) (bytesV [(shr64 (UInt64.ofNat F.length * 8) (56 - 8 * y.1)).toUInt8]) J J J J J Y39 Y39 Sz5 Zr5 (by unfold By; kernel_rfl) J hay (by repeat (first | exact sg_here | apply sg_there)) (fun w h => SeesP.of (sees_own h Z0)) (fun e => by cases e) (bytesV_cell _) oM oM (by rfl) ?_
     intro s36 bl36 hac36
     refine Tr.assign J J J (Tr.nil (bl_n (at_n (Sat.region (Tr.move J J J (Tr.sub_i64 J J J J oM (Tr.assign J J J (Tr.nil (at_n ?_)))))))))
     refine ⟨(y.1 + 1, s36, bl36), ⟨by simp only []; omega, ?_⟩, by simp only []; omega, weak_perm (wk1 J (wk1 J (wk1 (congrArg (fun z => some (i64 z)) oM) wk0))) (pm_seg sG pm_nil)⟩
     rw [show beUp (UInt64.ofNat F.length * 8) (y.1 + 1) = beUp (UInt64.ofNat F.length * 8) y.1 ++ [(shr64 (UInt64.ofNat F.length * 8) (56 - 8 * y.1)).toUInt8] from rfl, ← List.append_assoc, bytesV_app]
     exact hac36
    ·
     have hy3 : y.1 = 8 := by omega
     rw [hy3] at hay
     refine Sat.exit (at_x (at_x (bl_h (at_n (Sat.seq (Sat.region (Tr.move J J J (Tr.assign J J J (Tr.nil (at_n (Sat.ret (en_r (end_perm (out := (y.2.2 ++ [])) (res_tmp J J) (pm_seg sG pm_nil) ?_)))))))))))))
     refine ⟨y.2.1, rfl, ?_⟩
     have e8 : UInt64.ofNat F.length * 8 = UInt64.ofNat (8 * F.length) := by
      apply UInt64.toNat_inj.1
      rw [mul8_nat (by rw [ofNat_nat oM]; omega), ofNat_nat oM, ofNat_nat oM]; omega
     rw [e8] at hay
     rw [padB_length, padB]
     simpa [Nat.add_assoc, Nat.add_comm, Nat.add_left_comm] using hay

theorem take_len2 {xs : List UInt8} {i K : Nat} (h : xs.length = 128 * K) (hi : i < K) : ((xs.drop (128 * i)).take 128).length = 128 := by simp; omega
theorem sees_chunk {w : World} {q i : Nat} {l : List UInt8} (h : Sees w q 0 (bytesV l)) : Sees w q (128 * i) (bytesV ((l.drop (128 * i)).take 128)) := fun j v hj => by
  have e : (bytesV l)[128 * i + j]? = some v := by
    rw [bytesV, List.map_take, List.map_drop, List.getElem?_take] at hj
    split at hj
    · rwa [List.getElem?_drop] at hj
    · cases hj
  have h1 := h _ v e
  rwa [Nat.zero_add] at h1
theorem cut_chunk (q c i : Nat) (h : 128 * i < c) : (.slice (some ⟨q, if c = 128 * i then 0 else 0 + 128 * i * 1, none⟩) (128 * i + 128 - 128 * i) (c - 128 * i) : Value) = .slice (some ⟨q, 128 * i, none⟩) 128 (c - 128 * i) := by
  rw [if_neg oM, show 128 * i + 128 - 128 * i = 128 by omega, show 0 + 128 * i * 1 = 128 * i by omega]

theorem r2_run (st : List UInt64) (hst : st.length = 8) (k : List UInt64) (hk : Hid (kW = k)) (hk80 : k.length = 80) (s : Sl) (F : List UInt8) (hsl : s.n = F.length) (hsn : s.p = none → s.n = 0) (htot : F.length ≤ 90000) : Meets Tryz.prog 141 [agg (wordsV st), s.v] [] (fun W => SeesP W s.p (bytesV F)) (fun v out => v = agg (wordsV (allW k st F)) ∧ out = []) := by
 intro W hW
 have hpl := padB_length F
 have hpz := padZ_lt F.length
 have hpm := padB_mod F
 obtain ⟨K, hK⟩ : ∃ K, (padB F).length / 128 = K := ⟨_, rfl⟩
 rw [hK] at hpm
 obtain ⟨U, hU⟩ : ∃ U, Hid (allW k st F = U) := ⟨_, ⟨rfl⟩⟩
 have hst2 : U.length = 8 := by rw [← hU.out, allW_length]; exact hst
 rw [hU.out]
 have hrl := hst2
 refine calls_of (hp0 := []) Tryz.func141 J 23 Tryz.ntmps141 J (HRep.nil _) (Sat.seq (Sat.region (Tr.boxA J J ?_)))
 intro n2 hn2 hf2
 refine Tr.alloc (cs := (wordsV (List.replicate 8 0))) J Zr135 J ?_
 intro n4 hn4 hf4
 refine Tr.nil (at_n (Sat.seq (Sat.region (Tr.move J J J (Tr.call4 J J J J J Body212 (r2_Pad s F hsl hsn htot) (fun w h => seesP_ext h J hW) ?_)))))
 rintro v8 out8 ⟨s7, rfl, hac7⟩
 obtain ⟨q7, c7, rfl, hc7, rfl⟩ := acc_pos hac7 oM
 refine Tr.assign J J J (Tr.nil (at_n (Sat.seq (Sat.seq (Sat.region (Tr.assign J J J (Tr.nil (at_n (Sat.block (Sat.loop (ι := Nat) (fun i => ⟨[(2, ptr n2 0), (4, ptr n4 0), (5, .slice (some ⟨q7, 0, none⟩) (padB F).length c7), (6, i64 ((128 * i : Nat) : Int))], [⟨q7, bytesV (padB F), 5, c7 * 1⟩, ⟨n4, wordsV (List.replicate 8 0), 135, 8⟩, ⟨n2, wordsV (runW k st (padB F) i), 135, (wordsV st).length⟩]⟩) (fun i => i ≤ K) (fun i => K - i) (0) ?_ ?_ ?_))))))))))
 · exact Nat.zero_le _
 · exact weak_perm (wk1 rfl (wk1 rfl (wk1 rfl (wk1 rfl wk0)))) (pm_cons rM (pm_cons rM (pm_cons rM pm_nil)))
 ·
  rintro i hi
  have hrl : (runW k st (padB F) i).length = 8 := by rw [runW_length]; exact hst
  refine Sat.seq (Sat.seq (Sat.region (Tr.move J J J (Tr.move J J J (Tr.lenSl J J J Y39 (Tr.lss J J J J J (Tr.nil (at_n (Sat.condP J (fun hc0 => ?_) (fun hc0 => ?_))))))))))
  ·
   have hi3 : i < K := by omega
   obtain ⟨A, hA⟩ : ∃ A, Hid (schA ((padB F).drop (128 * i) |>.take 128) 128 = A) := ⟨_, ⟨rfl⟩⟩
   obtain ⟨w, hwp⟩ : ∃ w, Hid (schB A 64 = w) := ⟨_, ⟨rfl⟩⟩
   obtain ⟨R, hR⟩ : ∃ R, Hid (rnds k w (W8.of (runW k st (padB F) i)) 80 = R) := ⟨_, ⟨rfl⟩⟩
   have e1 : addUp (runW k st (padB F) i) R.l 8 = runW k st (padB F) (i + 1) := by rw [runW, pieceW, schW, hA.out, hwp.out, hR.out]
   have hrl2 : (runW k st (padB F) (i + 1)).length = 8 := by rw [runW_length]; exact hst
   refine Sat.skip (at_n (Sat.seq (Sat.block (Sat.draw [(1, 0), (0, 1), (0, 2), (0, 3), (0, 4), (0, 5), (3, 6), (4, 7)] Mixed zK (Tr.loadAll J J J Y135 J Sz135 Z2 (by (simp [hrl]; done)) ?_)))))
   refine Tr.move J J J (Tr.move J J J (Tr.move J J J (Tr.add_i64 J J J J oM (Tr.sliceLoHiN (128*i) (128*i+128) J J J J J oM oM oM oM Y39 Sz5 ?_))))
   rw [cut_chunk q7 c7 i oM]
   refine Tr.callV J J J J Body213 (r2_piece (runW k st (padB F) i) hrl ((padB F).drop (128 * i) |>.take 128) (take_len2 hpm hi3) q7 (128 * i) (c7 - 128 * i) A w k R hA hwp hk hk80 hR) (fun w h => sees_chunk (sees_own h Z0)) ?_
   rw [e1]
   refine Tr.storeAll J J J J zB Sz135 (by (simp [hst, runW_length]; done)) Z2 (by (simp [hrl]; done)) (by exact upd2) ?_
   refine Tr.nil (bl_n (at_n (Sat.region (Tr.move J J J (Tr.add_i64 J J J J oM (Tr.assign J J J (Tr.nil (at_n ?_))))))))
   exact ⟨i + 1, by omega, by omega, weak_perm (wk1 rfl (wk1 rfl (wk1 rfl (wk1 (congrArg (fun z => some (i64 z)) oM) wk0)))) (pm_cons rM (pm_cons rM (pm_cons rM pm_nil)))⟩
  ·
   rw [show (runW k st (padB F) i) = U from by rw [show i = K by omega, ← hU.out, allW, hK]]
   refine Sat.exit (at_x (at_x (bl_h (at_n (Sat.seq (Sat.region (Tr.loadAll J J J Y135 J Sz135 Z2 (by (simp [hst2]; done)) ?_)))))))
   refine Tr.storeAll J J J J zB Sz135 (by (simp [hst2]; done)) Z1 sP zV ?_
   refine Tr.nil (at_n (Sat.ret (en_r ?_)))
   refine ⟨_, [], res_cell J J Y135 J Sz135 Z1 (by simp [hst2]), sP, sP, ?_, rfl⟩
   rfl

theorem r2_Sum512 (p : Option Addr) (n c : Nat) (ss : List Sl) (ls : List (List UInt8)) (hss : ss.length = n) (hls : ls.length = n) (hsl : ∀ j, j < n → (ss.getD j Sl.nil).n = (ls.getD j []).length ∧ ((ss.getD j Sl.nil).p = none → (ss.getD j Sl.nil).n = 0)) (F : List UInt8) (hF : ls.flatten = F) (htot : F.length ≤ 90000) (hn : n ≤ 1000000) (s : List UInt8) (hs : Hid (sha512 F = s))  : Meets Tryz.prog 136 [.slice p n c] [] (fun W => SeesP W p (ss.map Sl.v) ∧ ∀ j, j < n → SeesP W (ss.getD j Sl.nil).p (bytesV (ls.getD j []))) (fun v out => v = agg (bytesV s) ∧ out = []) := by
 intro W hW
 have hs64 : s.length = 64 := by rw [← hs.out]; exact sha512_length F
 obtain ⟨k, hk⟩ : ∃ k, Hid (kW = k) := ⟨_, ⟨rfl⟩⟩
 obtain ⟨st, hst⟩ : ∃ k, Hid (startW = k) := ⟨_, ⟨rfl⟩⟩
 obtain ⟨r, hr⟩ : ∃ r, Hid (allW k st F = r) := ⟨_, ⟨rfl⟩⟩
 have hk80 : k.length = 80 := by rw [← hk.out]; rfl
 have hst8 : st.length = 8 := by rw [← hst.out]; rfl
 have hr8 : r.length = 8 := by rw [← hr.out, allW_length]; exact hst8
 have hsum : Hid (sumUp r 64 = s) := ⟨by rw [← hr.out, ← hk.out, ← hst.out]; exact hs.out⟩
 have hrun := fun (x : Sl) (h1 : x.n = F.length) (h2 : x.p = none → x.n = 0) => r2_run st hst8 k hk hk80 x F h1 h2 htot
 rw [hr.out] at hrun
 refine calls_of (hp0 := []) Tryz.func136 J 8 Tryz.ntmps136 J (HRep.nil _) (Sat.seq (Sat.region (Tr.alloc (cs := (bytesV (List.replicate 64 0))) J Zr26 J ?_)))
 intro n2 hn2 hf2
 refine Tr.nil (at_n (Sat.seq (Sat.region (Tr.callV J J J J Body208 (r2_Start st hst) (fun _ _ => trivial) (Tr.move J J J (Tr.call4 J J J J J Body143 (r2_join p n c ss ls hss hls hsl F hF htot hn) (fun w h => ⟨seesP_ext h J hW.1, fun j hj => seesP_ext h J (hW.2 j hj)⟩) ?_))))))
 rintro v5 out5 ⟨s5, rfl, hac5⟩
 refine Tr.callV J J J J Body141 (hrun s5 hac5.num hac5.nil) (fun w h => hac5.see (Lies.of h (by repeat (exact in_here)))) ?_
 refine Tr.callV J J J J Body140 (r2_bytes r hr8 s hsum) (fun _ _ => trivial) (Tr.storeAll J J J J zE Sz26 (by (simp [hs64]; done)) (by (repeat (first | exact List.mem_cons_self | refine mem_seg ?_))) sP (by (repeat (first | exact upd0 | apply Upd.seg))) ?_)
 refine Tr.nil (at_n (Sat.ret (en_r ?_)))
 refine ⟨_, [], res_cell J J Y26 J Sz26 (by (repeat (first | exact List.mem_cons_self | refine mem_seg ?_))) (by simp [hs64]), sP, sP, ?_, rfl⟩
 rfl

end Go.Proofs.YtpacobmjjjillaaGreat
end
