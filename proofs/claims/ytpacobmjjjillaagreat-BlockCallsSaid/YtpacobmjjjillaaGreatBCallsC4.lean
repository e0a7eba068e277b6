/- Contracts of functions of the loaded program, and the lemmas that they need (part 4). It proves no statement by itself; it has no conditions. -/
import Derived.WalkKit
import Derived.Orders
import Derived.Deep.LoopGhost
import Derived.IntWalk
import Derived.Laws.StructEq
import Derived.Test.YtpacobmjjjillaaGreatRows
import Derived.KernelRfl
import Derived.ArgAppend
import Derived.Deep.AppendSrc
import Derived.Lib.Bytealg
import Derived.Lib.BytesEntry
import Derived.Laws.IdiomStrings
import Derived.Laws.Externs
import Derived.WideKeyArr2
import Derived.ProofKit
import Derived.OpenShut
import Derived.Deep.Slices
import Derived.Laws.Pointers
import Derived.Laws.Cover3
import Derived.LaidEqlPtr
import Derived.LoopN
import Derived.RangeFuncLeaves
import Derived.RangeFuncSeq
import Derived.OrdersIn
import Derived.Defers
import Derived.Laws.MathBits
import Derived.ChangeOld
import Derived.Below
import Derived.Test.YtpacobmjjjillaaGreatBCallsC3
set_option maxRecDepth 100000
set_option maxHeartbeats 8000000
set_option linter.unusedVariables false
set_option linter.unusedSimpArgs false
section
namespace Go.Proofs.YtpacobmjjjillaaGreat
open Go Hw

open Ed

theorem field_put (q o n c m : Nat) (l : List UInt8) (x : UInt64) (BT : TypeId) (hn : 8 ≤ n) (hl : o + 8 ≤ l.length) : Meets Tryz.prog 224 [.slice (some ⟨q, o, none⟩) n c, u64 x] [q] (fun W => BlkOk W ⟨q, Aa l, BT, m⟩) (fun v out => out = [⟨q, Aa (set8 l o x), BT, m⟩]) := by
 intro W hW
 refine Ba (hp0 := [⟨q, Aa l, BT, m⟩]) Tryz.func224 J 46 Tryz.ntmps224 J (HRep.one hW) (.sr (.m J J J (.idxSlO J J J J Y39 Sz5 7 J oM (.load1 J J J Y5 J Z0 (B0 oM) ?_))))
 refine .nsr (.m J J J (.m J J J (.m J J J (.m J J J (.m J J J (.conv J J J Y22 Y5 (Cm _) (.m J J J (.shr_u64 J J J J 8 J dE (.conv J J J Y22 Y5 (Cm _) (.m J J J (.shr_u64 J J J J 16 J dE (.conv J J J Y22 Y5 (Cm _) (.m J J J (.shr_u64 J J J J 24 J dE (.conv J J J Y22 Y5 (Cm _) (.idxSlO J J J J Y39 Sz5 0 J oM (.s1 J J J J J Sz5 Z0 (by simp; omega) (Bb _ _ _) zU ?_)))))))))))))))))
 refine .idxSlO J J J J Y39 Sz5 1 J oM (.s1 J J J J J Sz5 Z0 (by simp; omega) (Bb _ _ _) zU ?_)
 refine .idxSlO J J J J Y39 Sz5 2 J oM (.s1 J J J J J Sz5 Z0 (by simp; omega) (Bb _ _ _) zU ?_)
 refine .idxSlO J J J J Y39 Sz5 3 J oM (.s1 J J J J J Sz5 Z0 (by simp; omega) (Bb _ _ _) zU ?_)
 refine .na (.region (.m J J J (.m J J J (.m J J J (.m J J J (.m J J J (.shr_u64 J J J J 32 J dE (.conv J J J Y22 Y5 (Cm _) (.m J J J (.shr_u64 J J J J 40 J dE (.conv J J J Y22 Y5 (Cm _) (.m J J J (.shr_u64 J J J J 48 J dE (.conv J J J Y22 Y5 (Cm _) (.m J J J (.shr_u64 J J J J 56 J dE (.conv J J J Y22 Y5 (Cm _) (.idxSlO J J J J Y39 Sz5 4 J oM (.s1 J J J J J Sz5 Z0 (by simp; omega) (Bb _ _ _) zU ?_)))))))))))))))))))
 refine .idxSlO J J J J Y39 Sz5 5 J oM (.s1 J J J J J Sz5 Z0 (by simp; omega) (Bb _ _ _) zU ?_)
 refine .idxSlO J J J J Y39 Sz5 6 J oM (.s1 J J J J J Sz5 Z0 (by simp; omega) (Bb _ _ _) zU ?_)
 refine .idxSlO J J J J Y39 Sz5 7 J oM (.s1 J J J J J Sz5 Z0 (by simp; omega) (Bb _ _ _) zU ?_)
 refine .nil (en_n ?_)
 exact ⟨_, _, res_none rfl, (fun b hb => by rw [List.mem_singleton.1 hb]; exact Bo), Ce, rfl⟩

theorem field_quarters (a : List UInt8) (ha : a.length = 32) : Meets Tryz.prog 242 [agg (Aa a)] [] (fun _ => True) (fun v out => v = agg (Af [qw a 0, qw a 1, qw a 2, qw a 3]) ∧ out = []) := by
 intro W hW
 refine Ab Tryz.func242 J 65 Tryz.ntmps242 J (.sr (.boxA J J ?_))
 intro n1 hn1 hf1
 refine .alloc (cs := (Af (List.replicate 4 0))) J Zr156 J ?_
 intro n2 hn2 hf2
 refine .nsr (.alloc (cs := (Af (List.replicate 4 0))) J Zr156 J ?_)
 intro n3 hn3 hf3
 refine .na (.seq (.sr (.m J J J (.na (.block (.loop (ι := Nat) (fun k => ⟨[(1, ptr n1 0), (2, ptr n2 0), (3, ptr n3 0), (6, i64 (k : Int))], [⟨n3, Af (qtA a k), 156, 4⟩, ⟨n2, Af (List.replicate 4 0), 156, 4⟩, ⟨n1, Aa a, 77, (Aa a).length⟩]⟩) (fun k => k ≤ 4) (fun k => 4 - k) (0) ?_ ?_ ?_))))))
 · omega
 · exact Ac (wk1 rfl (wk1 rfl (wk1 rfl (wk1 rfl wk0)))) (wh1 Z0 (wh1 Z1 (wh1 Z2 wh0))) nD
 ·
  rintro k hi
  have hlk := qtA_length a k
  refine .sr (.lss J J J J J (.na (.seq (.condP J (fun hc0 => ?_) (fun hc0 => ?_)))))
  ·
   refine .skip (Ae (.seq (.block (.sr (.m J J J (.a J J J (.nsr (.m J J J (.mul_i64 J J J J oM (.m J J J (.mul_i64 J J J J oM (.aI J J J J oM (.sliceArrLH (8 * k) (8 * k + 8) J J J J J oM oM oM oM oM Y77 Sz5 (.a J J J (.na (.draw [(0, 0), (0, 1), (0, 2), (1, 3), (0, 4), (0, 5), (0, 6), (1, 7), (0, 8), (0, 9), (0, 10), (0, 11), (0, 12), (1, 13), (0, 14), (0, 15), (0, 16), (0, 17), (0, 18), (1, 19), (0, 20), (0, 21), (0, 22), (0, 23), (0, 24), (1, 25), (0, 26), (0, 27), (0, 28), (0, 29), (0, 30), (1, 31), (0, 32), (0, 33), (0, 34), (0, 35), (0, 36), (1, 37), (0, 38), (0, 39), (0, 40), (0, 41), (0, 42), (1, 43), (0, 44), (0, 45), (0, 46), (0, 47), (4, 48)] Ar zK (.m J J J (.m J J J (.idxSlO J J J J Y39 Sz5 0 J oM (.load1 J J J Y5 J Z2 zG ?_))))))))))))))))))))
   refine .conv J J J Y5 Y22 (Cu _) (.m J J J (.idxSlO J J J J Y39 Sz5 1 J oM (.load1 J J J Y5 J Z2 zG ?_)))
   refine .conv J J J Y5 Y22 (Cu _) (.shl_u64 J J J J 8 J dE (.or_u64 J J J J (.m J J J (.idxSlO J J J J Y39 Sz5 2 J oM (.load1 J J J Y5 J Z2 zG ?_)))))
   refine .conv J J J Y5 Y22 (Cu _) (.shl_u64 J J J J 16 J dE (.or_u64 J J J J (.m J J J (.idxSlO J J J J Y39 Sz5 3 J oM (.load1 J J J Y5 J Z2 zG ?_)))))
   refine .conv J J J Y5 Y22 (Cu _) (.shl_u64 J J J J 24 J dE (.or_u64 J J J J (.m J J J (.idxSlO J J J J Y39 Sz5 4 J oM (.load1 J J J Y5 J Z2 zG ?_)))))
   refine .conv J J J Y5 Y22 (Cu _) (.shl_u64 J J J J 32 J dE (.or_u64 J J J J (.m J J J (.idxSlO J J J J Y39 Sz5 5 J oM (.load1 J J J Y5 J Z2 zG ?_)))))
   refine .conv J J J Y5 Y22 (Cu _) (.shl_u64 J J J J 40 J dE (.or_u64 J J J J (.m J J J (.idxSlO J J J J Y39 Sz5 6 J oM (.load1 J J J Y5 J Z2 zG ?_)))))
   refine .conv J J J Y5 Y22 (Cu _) (.shl_u64 J J J J 48 J dE (.or_u64 J J J J (.m J J J (.idxSlO J J J J Y39 Sz5 7 J oM (.load1 J J J Y5 J Z2 zG ?_)))))
   refine .conv J J J Y5 Y22 (Cu _) (.shl_u64 J J J J 56 J dE (.or_u64 J J J J (.i1 J J J J Y156 Ap _ J oM (.s1 J J J J J Ap Z0 (by (simp [qtA_length]; omega)) (by exact A9 _ _ _) zU ?_))))
   refine .nil (Bj (Ae (.region (.aI J J J J oM (.m J J J (.na ?_))))))
   exact ⟨k + 1, by omega, by omega, Ac (wk1 rfl (wk1 rfl (wk1 rfl (wk1 rfl wk0)))) (wh1 Z0 (wh1 Z1 (wh1 Z2 wh0))) nD⟩
  ·
   obtain rfl : k = 4 := by omega
   refine .exit (A1 (A1 (B5 (Ae (.sr (.lA J J J Y156 J Sz156 Z0 (by (simp [qtA_length]; done)) ?_))))))
   refine .sA J J J J zB Sz156 (by (simp [qtA_length]; done)) Z1 sP zV ?_
   refine .na (.ret (An ?_))
   refine ⟨_, [], Ao J J Y156 J Sz156 Z1 (by simp [qtA_length]), sP, sP, ?_, rfl⟩
   rfl

theorem field_load (a : List UInt8) (ha : a.length = 32) : Meets Tryz.prog 221 [agg (Aa a)] [] (fun _ => True) (fun v out => v = agg (Af (ldN a).l) ∧ out = []) := by
 intro W hW
 refine Ab Tryz.func221 J 37 Tryz.ntmps221 J (.sr (.boxA J J ?_))
 intro n1 hn1 hf1
 refine .alloc (cs := (Af (List.replicate 5 0))) J Zr197 J ?_
 intro n2 hn2 hf2
 refine .nsr (.lA J J J Y77 J Ad Z1 (by (simp [ha]; done)) ?_)
 refine .cV J J J J Body242 (field_quarters a ha) tV (.alloc (cs := (Af (List.replicate 4 0))) J Zr156 J ?_)
 intro n3 hn3 hf3
 refine .sA J J J J zB Sz156 sP Z0 sP zU ?_
 refine .nsr (.i1 J J J J Y156 Ap 0 J dE (.load1 J J J Y22 J Z0 (by rfl) ?_))
 refine .and_u64 J J J (show Ah _ _ = some (u64 2251799813685247) from rfl) (.i1 J J J J Y156 Ap 0 J dE (.load1 J J J Y22 J Z0 (by rfl) ?_))
 refine .shr_u64 J J J J 51 J dE (.i1 J J J J Y156 Ap 1 J dE (.load1 J J J Y22 J Z0 (by rfl) ?_))
 refine .shl_u64 J J J J 13 J dE (.or_u64 J J J J (.and_u64 J J J (show Ah _ _ = some (u64 2251799813685247) from rfl) (.i1 J J J J Y156 Ap 1 J dE (.load1 J J J Y22 J Z0 (by rfl) ?_))))
 refine .shr_u64 J J J J 38 J dE (.i1 J J J J Y156 Ap 2 J dE (.load1 J J J Y22 J Z0 (by rfl) ?_))
 refine .shl_u64 J J J J 26 J dE (.or_u64 J J J J (.and_u64 J J J (show Ah _ _ = some (u64 2251799813685247) from rfl) (.i1 J J J J Y156 Ap 2 J dE (.load1 J J J Y22 J Z0 (by rfl) ?_))))
 refine .shr_u64 J J J J 25 J dE (.i1 J J J J Y156 Ap 3 J dE (.load1 J J J Y22 J Z0 (by rfl) ?_))
 refine .shl_u64 J J J J 39 J dE (.or_u64 J J J J (.and_u64 J J J (show Ah _ _ = some (u64 2251799813685247) from rfl) (.i1 J J J J Y156 Ap 3 J dE (.load1 J J J Y22 J Z0 (by rfl) ?_))))
 refine .shr_u64 J J J J 12 J dE (.build (cs := Af (ldN a).l) J J J (fun w => by kernel_rfl) ?_)
 refine .sA J J J J zB Sz197 zW Z1 sP zV ?_
 refine .na (.ret (An ?_))
 refine ⟨_, [], Ao J J Bi J Sz197 Z1 (by simp [W5.l_length]), sP, sP, ?_, rfl⟩
 rfl

theorem field_carried (w : W5) : Meets Tryz.prog 245 [agg (Af w.l)] [] (fun _ => True) (fun v out => v = agg (Af (carF w).l) ∧ out = []) := by
 intro W hW
 refine Ab Tryz.func245 J 40 Tryz.ntmps245 J (.sr (.boxA J J ?_))
 intro n1 hn1 hf1
 refine .alloc (cs := (Af (List.replicate 5 0))) J Zr197 J ?_
 intro n2 hn2 hf2
 refine .nsr (.i1 J J J J Bi Ap 0 J dE (.load1 J J J Y22 J Z1 (by rfl) ?_))
 refine .and_u64 J J J (show Ah _ _ = some (u64 2251799813685247) from rfl) (.i1 J J J J Bi Ap 4 J dE (.load1 J J J Y22 J Z1 (by rfl) ?_))
 refine .shr_u64 J J J J 51 J dE (.mul_u64 J J (show Ah _ _ = some (u64 19) from rfl) J (.add_u64 J J J J (.i1 J J J J Bi Ap 1 J dE (.load1 J J J Y22 J Z1 (by rfl) ?_))))
 refine .and_u64 J J J (show Ah _ _ = some (u64 2251799813685247) from rfl) (.i1 J J J J Bi Ap 0 J dE (.load1 J J J Y22 J Z1 (by rfl) ?_))
 refine .shr_u64 J J J J 51 J dE (.add_u64 J J J J (.i1 J J J J Bi Ap 2 J dE (.load1 J J J Y22 J Z1 (by rfl) ?_)))
 refine .and_u64 J J J (show Ah _ _ = some (u64 2251799813685247) from rfl) (.i1 J J J J Bi Ap 1 J dE (.load1 J J J Y22 J Z1 (by rfl) ?_))
 refine .shr_u64 J J J J 51 J dE (.add_u64 J J J J (.i1 J J J J Bi Ap 3 J dE (.load1 J J J Y22 J Z1 (by rfl) ?_)))
 refine .and_u64 J J J (show Ah _ _ = some (u64 2251799813685247) from rfl) (.i1 J J J J Bi Ap 2 J dE (.load1 J J J Y22 J Z1 (by rfl) ?_))
 refine .shr_u64 J J J J 51 J dE (.add_u64 J J J J (.i1 J J J J Bi Ap 4 J dE (.load1 J J J Y22 J Z1 (by rfl) ?_)))
 refine .and_u64 J J J (show Ah _ _ = some (u64 2251799813685247) from rfl) (.i1 J J J J Bi Ap 3 J dE (.load1 J J J Y22 J Z1 (by rfl) ?_))
 refine .shr_u64 J J J J 51 J dE (.add_u64 J J J J (.build (cs := Af (carF w).l) J J J (fun w => by kernel_rfl) ?_))
 refine .sA J J J J zB Sz197 zW Z0 sP zU ?_
 refine .na (.ret (An ?_))
 refine ⟨_, [], Ao J J Bi J Sz197 Z0 (by simp [W5.l_length]), sP, sP, ?_, rfl⟩
 rfl

theorem B8 (s : UInt64 × UInt64) (a b : UInt64) : Meets Tryz.prog 243 [agg [u64 s.1, u64 s.2], u64 a, u64 b] [] (fun _ => True) (fun v out => v = agg [u64 (plF s a b).1, u64 (plF s a b).2] ∧ out = []) := by
 intro W hW
 refine Ab Tryz.func243 J 34 Tryz.ntmps243 J (.sr (.boxA J J ?_))
 intro n3 hn3 hf3
 refine .alloc (cs := ([u64 0] ++ [u64 0])) J Zr216 J ?_
 intro n6 hn6 hf6
 refine .nsr (.m J J J (.m J J J (.cV J J J J Body163 (mul64_ok _ _) tV (.m J J J (.eX J J J J (.eX J J J J (.a J J J (.a J J J (.nsr (.fld J J J Tryz.underlying216 J Ap dE _ J (.load1 J J J Y22 J Z1 (by rfl) ?_)))))))))))
 refine .m J J J (.ext J J J J (add64_run _ _ 0 dE) (.m J J J (.eX J J J J (.eX J J J J (.a J J J (.a J J J (.nsr (.fld J J J Tryz.underlying216 J Ap dE _ J (.load1 J J J Y22 J Z1 (by rfl) ?_)))))))))
 refine .m J J J (.m J J J (.ext J J J J (add64_run _ _ _ (by rw [Bl]; have := s.2.toNat_lt; have := (a * b).toNat_lt; simp only [show (0 : UInt64).toNat = 0 from rfl]; omega)) ?_))
 refine .m J J J (.eX J J J J (.eX J J J J (.a J J J (.nsr (.m J J J (.m J J J (.build (cs := [u64 (plF s a b).1, u64 (plF s a b).2]) J J J (fun w => by kernel_rfl) ?_)))))))
 refine .sA J J J J zB Sz216 sP Z0 sP zU ?_
 refine .na (.ret (An ?_))
 refine ⟨_, [], Ao J J Tryz.underlying216 J Sz216 Z0 sP, sP, sP, ?_, rfl⟩
 rfl

theorem wide_upper (s : UInt64 × UInt64) : Meets Tryz.prog 244 [agg [u64 s.1, u64 s.2]] [] (fun _ => True) (fun v out => v = u64 (upF s) ∧ out = []) := by
 intro W hW
 refine Ab Tryz.func244 J 10 Tryz.ntmps244 J (.sr (.boxA J J ?_))
 intro n1 hn1 hf1
 refine .a J J (show Ah _ _ = some (u64 0) from rfl) (.nsr (.fld J J J Tryz.underlying216 J Ap dE _ J (.load1 J J J Y22 J Z0 (by rfl) ?_)))
 refine .shl_u64 J J J J 13 J dE (.fld J J J Tryz.underlying216 J Ap dE _ J (.load1 J J J Y22 J Z0 (by rfl) ?_))
 refine .shr_u64 J J J J 51 J dE (.or_u64 J J J J (.a J J J (.na (.ret (An ?_)))))
 refine ⟨_, [], Ag J J, sP, sP, ?_, rfl⟩
 rfl

theorem field_product (na nb : Nat) (a b : W5) : Meets Tryz.prog 222 [ptr na 0, ptr nb 0] [] (fun W => Cc W na 0 (Af a.l) ∧ Cc W nb 0 (Af b.l)) (fun v out => v = agg (Af (mulF a b).l) ∧ out = []) := by
 intro W hW
 refine Ab Tryz.func222 J 267 Tryz.ntmps222 J (.sr (.alloc (cs := (Af (List.replicate 5 0))) J Zr197 J ?_))
 intro n4 hn4 hf4
 refine .na (.seq (.draw [(0, 0), (0, 1), (0, 2), (1, 3), (0, 4), (0, 5), (0, 6), (0, 7), (1, 8), (0, 9), (0, 10), (0, 11), (0, 12), (1, 13), (0, 14), (0, 15), (0, 16), (0, 17), (1, 18), (0, 19), (0, 20), (0, 21), (0, 22), (0, 23)] Ar zK (.m J J J (.nC J J J (.i1 J J J J Bi Ap 1 J dE (.loadE J J J Y22 J sP (hW.1 1 _ J) (.mul_u64 J J (show Ah _ _ = some (u64 19) from rfl) J (.m J J J (.nC J J J (.i1 J J J J Bi Ap 2 J dE (.loadE J J J Y22 J sP (hW.1 2 _ J) (.mul_u64 J J (show Ah _ _ = some (u64 19) from rfl) J (.m J J J (.nC J J J (.i1 J J J J Bi Ap 3 J dE (.loadE J J J Y22 J sP (hW.1 3 _ J) (.mul_u64 J J (show Ah _ _ = some (u64 19) from rfl) J (.m J J J (.nC J J J (.i1 J J J J Bi Ap 4 J dE (.loadE J J J Y22 J sP (hW.1 4 _ J) (.mul_u64 J J (show Ah _ _ = some (u64 19) from rfl) J (.a J J J (.a J J J (.a J J J (.a J J J (.na (.seq (.draw [(0, 0), (0, 1), (0, 2), (0, 3), (1, 4), (0, 5), (0, 6), (0, 7), (1, 8), (0, 10), (0, 11), (0, 12), (0, 13), (1, 14), (0, 16), (0, 17), (0, 18), (0, 19), (1, 20), (0, 22), (0, 23), (0, 24), (0, 25), (1, 26), (0, 28), (0, 29), (0, 30), (0, 31), (1, 32), (3, 9), (3, 15), (3, 21), (3, 27), (3, 33), (2, 34), (4, 35)] Ar zK (.build (cs := [u64 0, u64 0]) J J J (fun w => by kernel_rfl) ?_))))))))))))))))))))))))))))))
 refine .m J J J (.nC J J J (.i1 J J J J Bi Ap 0 J dE (.loadE J J J Y22 J sP (hW.1 0 _ J) (.m J J J (.nC J J J (.i1 J J J J Bi Ap 0 J dE (.loadE J J J Y22 J sP (hW.2 0 _ J) (.m J J J (.m J J J (.nC J J J (.i1 J J J J Bi Ap 4 J dE (.loadE J J J Y22 J sP (hW.2 4 _ J) (.m J J J (.m J J J (.nC J J J (.i1 J J J J Bi Ap 3 J dE (.loadE J J J Y22 J sP (hW.2 3 _ J) (.m J J J (.m J J J (.nC J J J (.i1 J J J J Bi Ap 2 J dE (.loadE J J J Y22 J sP (hW.2 2 _ J) (.m J J J (.m J J J (.nC J J J (.i1 J J J J Bi Ap 1 J dE (.loadE J J J Y22 J sP (hW.2 1 _ J) (.cV J J J J C7 (B8 (0, 0) a.a b.a) tV (.cV J J J J C7 (B8 (plF (0, 0) a.a b.a) (19 * a.b) b.e) tV (.cV J J J J C7 (B8 (plF (plF (0, 0) a.a b.a) (19 * a.b) b.e) (19 * a.c) b.d) tV (.cV J J J J C7 (B8 (plF (plF (plF (0, 0) a.a b.a) (19 * a.b) b.e) (19 * a.c) b.d) (19 * a.d) b.c) tV (.cV J J J J C7 (B8 (plF (plF (plF (plF (0, 0) a.a b.a) (19 * a.b) b.e) (19 * a.c) b.d) (19 * a.d) b.c) (19 * a.e) b.b) tV (.alloc (cs := ([u64 0] ++ [u64 0])) J Zr216 J ?_)))))))))))))))))))))))))))))))))
 intro n9 hn9 hf9
 refine .sA J J J J zB Sz216 sP Z0 sP zU ?_
 refine .na (.seq (.draw [(0, 0), (0, 1), (0, 2), (0, 3), (1, 4), (0, 5), (0, 6), (0, 7), (1, 8), (0, 10), (0, 11), (0, 12), (1, 13), (0, 14), (0, 15), (0, 16), (1, 17), (0, 19), (0, 20), (0, 21), (0, 22), (1, 23), (0, 25), (0, 26), (0, 27), (0, 28), (1, 29), (0, 31), (0, 32), (0, 33), (0, 34), (1, 35), (3, 9), (3, 18), (3, 24), (3, 30), (3, 36), (2, 37), (4, 38)] Ar zK (.build (cs := [u64 0, u64 0]) J J J (fun w => by kernel_rfl) ?_)))
 refine .m J J J (.nC J J J (.i1 J J J J Bi Ap 0 J dE (.loadE J J J Y22 J sP (hW.1 0 _ J) (.m J J J (.nC J J J (.i1 J J J J Bi Ap 1 J dE (.loadE J J J Y22 J sP (hW.2 1 _ J) (.m J J J (.nC J J J (.i1 J J J J Bi Ap 1 J dE (.loadE J J J Y22 J sP (hW.1 1 _ J) (.m J J J (.nC J J J (.i1 J J J J Bi Ap 0 J dE (.loadE J J J Y22 J sP (hW.2 0 _ J) (.m J J J (.m J J J (.nC J J J (.i1 J J J J Bi Ap 4 J dE (.loadE J J J Y22 J sP (hW.2 4 _ J) (.m J J J (.m J J J (.nC J J J (.i1 J J J J Bi Ap 3 J dE (.loadE J J J Y22 J sP (hW.2 3 _ J) (.m J J J (.m J J J (.nC J J J (.i1 J J J J Bi Ap 2 J dE (.loadE J J J Y22 J sP (hW.2 2 _ J) (.cV J J J J C7 (B8 (0, 0) a.a b.b) tV (.cV J J J J C7 (B8 (plF (0, 0) a.a b.b) a.b b.a) tV (.cV J J J J C7 (B8 (plF (plF (0, 0) a.a b.b) a.b b.a) (19 * a.c) b.e) tV (.cV J J J J C7 (B8 (plF (plF (plF (0, 0) a.a b.b) a.b b.a) (19 * a.c) b.e) (19 * a.d) b.d) tV (.cV J J J J C7 (B8 (plF (plF (plF (plF (0, 0) a.a b.b) a.b b.a) (19 * a.c) b.e) (19 * a.d) b.d) (19 * a.e) b.c) tV (.alloc (cs := ([u64 0] ++ [u64 0])) J Zr216 J ?_))))))))))))))))))))))))))))))))))))
 intro n10 hn10 hf10
 refine .sA J J J J zB Sz216 sP Z0 sP zU ?_
 refine .na (.seq (.draw [(0, 0), (0, 1), (0, 2), (0, 3), (1, 4), (0, 5), (0, 6), (0, 7), (1, 8), (0, 10), (0, 11), (0, 12), (1, 13), (0, 14), (0, 15), (0, 16), (1, 17), (0, 19), (0, 20), (0, 21), (1, 22), (0, 23), (0, 24), (0, 25), (1, 26), (0, 28), (0, 29), (0, 30), (0, 31), (1, 32), (0, 34), (0, 35), (0, 36), (0, 37), (1, 38), (3, 9), (3, 18), (3, 27), (3, 33), (3, 39), (2, 40), (4, 41)] Ar zK (.build (cs := [u64 0, u64 0]) J J J (fun w => by kernel_rfl) ?_)))
 refine .m J J J (.nC J J J (.i1 J J J J Bi Ap 0 J dE (.loadE J J J Y22 J sP (hW.1 0 _ J) (.m J J J (.nC J J J (.i1 J J J J Bi Ap 2 J dE (.loadE J J J Y22 J sP (hW.2 2 _ J) (.m J J J (.nC J J J (.i1 J J J J Bi Ap 1 J dE (.loadE J J J Y22 J sP (hW.1 1 _ J) (.m J J J (.nC J J J (.i1 J J J J Bi Ap 1 J dE (.loadE J J J Y22 J sP (hW.2 1 _ J) (.m J J J (.nC J J J (.i1 J J J J Bi Ap 2 J dE (.loadE J J J Y22 J sP (hW.1 2 _ J) (.m J J J (.nC J J J (.i1 J J J J Bi Ap 0 J dE (.loadE J J J Y22 J sP (hW.2 0 _ J) (.m J J J (.m J J J (.nC J J J (.i1 J J J J Bi Ap 4 J dE (.loadE J J J Y22 J sP (hW.2 4 _ J) (.m J J J (.m J J J (.nC J J J (.i1 J J J J Bi Ap 3 J dE (.loadE J J J Y22 J sP (hW.2 3 _ J) (.cV J J J J C7 (B8 (0, 0) a.a b.c) tV (.cV J J J J C7 (B8 (plF (0, 0) a.a b.c) a.b b.b) tV (.cV J J J J C7 (B8 (plF (plF (0, 0) a.a b.c) a.b b.b) a.c b.a) tV (.cV J J J J C7 (B8 (plF (plF (plF (0, 0) a.a b.c) a.b b.b) a.c b.a) (19 * a.d) b.e) tV (.cV J J J J C7 (B8 (plF (plF (plF (plF (0, 0) a.a b.c) a.b b.b) a.c b.a) (19 * a.d) b.e) (19 * a.e) b.d) tV (.alloc (cs := ([u64 0] ++ [u64 0])) J Zr216 J ?_)))))))))))))))))))))))))))))))))))))))
 intro n11 hn11 hf11
 refine .sA J J J J zB Sz216 sP Z0 sP zU ?_
 refine .na (.seq (.draw [(0, 0), (0, 1), (0, 2), (0, 3), (1, 4), (0, 5), (0, 6), (0, 7), (1, 8), (0, 10), (0, 11), (0, 12), (1, 13), (0, 14), (0, 15), (0, 16), (1, 17), (0, 19), (0, 20), (0, 21), (1, 22), (0, 23), (0, 24), (0, 25), (1, 26), (0, 28), (0, 29), (0, 30), (1, 31), (0, 32), (0, 33), (0, 34), (1, 35), (0, 37), (0, 38), (0, 39), (0, 40), (1, 41), (3, 9), (3, 18), (3, 27), (3, 36), (3, 42), (2, 43), (4, 44)] Ar zK (.build (cs := [u64 0, u64 0]) J J J (fun w => by kernel_rfl) ?_)))
 refine .m J J J (.nC J J J (.i1 J J J J Bi Ap 0 J dE (.loadE J J J Y22 J sP (hW.1 0 _ J) (.m J J J (.nC J J J (.i1 J J J J Bi Ap 3 J dE (.loadE J J J Y22 J sP (hW.2 3 _ J) (.m J J J (.nC J J J (.i1 J J J J Bi Ap 1 J dE (.loadE J J J Y22 J sP (hW.1 1 _ J) (.m J J J (.nC J J J (.i1 J J J J Bi Ap 2 J dE (.loadE J J J Y22 J sP (hW.2 2 _ J) (.m J J J (.nC J J J (.i1 J J J J Bi Ap 2 J dE (.loadE J J J Y22 J sP (hW.1 2 _ J) (.m J J J (.nC J J J (.i1 J J J J Bi Ap 1 J dE (.loadE J J J Y22 J sP (hW.2 1 _ J) (.m J J J (.nC J J J (.i1 J J J J Bi Ap 3 J dE (.loadE J J J Y22 J sP (hW.1 3 _ J) (.m J J J (.nC J J J (.i1 J J J J Bi Ap 0 J dE (.loadE J J J Y22 J sP (hW.2 0 _ J) (.m J J J (.m J J J (.nC J J J (.i1 J J J J Bi Ap 4 J dE (.loadE J J J Y22 J sP (hW.2 4 _ J) (.cV J J J J C7 (B8 (0, 0) a.a b.d) tV (.cV J J J J C7 (B8 (plF (0, 0) a.a b.d) a.b b.c) tV (.cV J J J J C7 (B8 (plF (plF (0, 0) a.a b.d) a.b b.c) a.c b.b) tV (.cV J J J J C7 (B8 (plF (plF (plF (0, 0) a.a b.d) a.b b.c) a.c b.b) a.d b.a) tV (.cV J J J J C7 (B8 (plF (plF (plF (plF (0, 0) a.a b.d) a.b b.c) a.c b.b) a.d b.a) (19 * a.e) b.e) tV (.alloc (cs := ([u64 0] ++ [u64 0])) J Zr216 J ?_))))))))))))))))))))))))))))))))))))))))))
 intro n12 hn12 hf12
 refine .sA J J J J zB Sz216 sP Z0 sP zU ?_
 refine .na (.seq (.draw [(0, 0), (0, 1), (0, 2), (0, 3), (1, 4), (0, 5), (0, 6), (0, 7), (1, 8), (0, 10), (0, 11), (0, 12), (1, 13), (0, 14), (0, 15), (0, 16), (1, 17), (0, 19), (0, 20), (0, 21), (1, 22), (0, 23), (0, 24), (0, 25), (1, 26), (0, 28), (0, 29), (0, 30), (1, 31), (0, 32), (0, 33), (0, 34), (1, 35), (0, 37), (0, 38), (0, 39), (1, 40), (0, 41), (0, 42), (0, 43), (1, 44), (3, 9), (3, 18), (3, 27), (3, 36), (3, 45), (2, 46), (4, 47)] Ar zK (.build (cs := [u64 0, u64 0]) J J J (fun w => by kernel_rfl) ?_)))
 refine .m J J J (.nC J J J (.i1 J J J J Bi Ap 0 J dE (.loadE J J J Y22 J sP (hW.1 0 _ J) (.m J J J (.nC J J J (.i1 J J J J Bi Ap 4 J dE (.loadE J J J Y22 J sP (hW.2 4 _ J) (.m J J J (.nC J J J (.i1 J J J J Bi Ap 1 J dE (.loadE J J J Y22 J sP (hW.1 1 _ J) (.m J J J (.nC J J J (.i1 J J J J Bi Ap 3 J dE (.loadE J J J Y22 J sP (hW.2 3 _ J) (.m J J J (.nC J J J (.i1 J J J J Bi Ap 2 J dE (.loadE J J J Y22 J sP (hW.1 2 _ J) (.m J J J (.nC J J J (.i1 J J J J Bi Ap 2 J dE (.loadE J J J Y22 J sP (hW.2 2 _ J) (.m J J J (.nC J J J (.i1 J J J J Bi Ap 3 J dE (.loadE J J J Y22 J sP (hW.1 3 _ J) (.m J J J (.nC J J J (.i1 J J J J Bi Ap 1 J dE (.loadE J J J Y22 J sP (hW.2 1 _ J) (.m J J J (.nC J J J (.i1 J J J J Bi Ap 4 J dE (.loadE J J J Y22 J sP (hW.1 4 _ J) (.m J J J (.nC J J J (.i1 J J J J Bi Ap 0 J dE (.loadE J J J Y22 J sP (hW.2 0 _ J) (.cV J J J J C7 (B8 (0, 0) a.a b.e) tV (.cV J J J J C7 (B8 (plF (0, 0) a.a b.e) a.b b.d) tV (.cV J J J J C7 (B8 (plF (plF (0, 0) a.a b.e) a.b b.d) a.c b.c) tV (.cV J J J J C7 (B8 (plF (plF (plF (0, 0) a.a b.e) a.b b.d) a.c b.c) a.d b.b) tV (.cV J J J J C7 (B8 (plF (plF (plF (plF (0, 0) a.a b.e) a.b b.d) a.c b.c) a.d b.b) a.e b.a) tV (.alloc (cs := ([u64 0] ++ [u64 0])) J Zr216 J ?_)))))))))))))))))))))))))))))))))))))))))))))
 intro n13 hn13 hf13
 refine .sA J J J J zB Sz216 sP Z0 sP zU ?_
 refine .na (.seq (.draw [(0, 0), (1, 1), (0, 2), (1, 3), (0, 7), (1, 8), (0, 9), (1, 10), (0, 13), (1, 14), (0, 15), (1, 16), (0, 19), (1, 20), (0, 21), (1, 22), (0, 25), (1, 26), (0, 27), (1, 28), (3, 4), (0, 5), (0, 6), (3, 11), (0, 12), (3, 17), (0, 18), (3, 23), (0, 24), (3, 29), (0, 30), (0, 31), (3, 32), (4, 33)] Ar zK (.fld J J J Tryz.underlying216 J Ap dE _ J (.load1 J J J Y22 J Z4 (by rfl) ?_))))
 refine .and_u64 J J J (show Ah _ _ = some (u64 2251799813685247) from rfl) (.lA J J J Tryz.underlying216 J Sz216 Z0 sP ?_)
 refine .fld J J J Tryz.underlying216 J Ap dE _ J (.load1 J J J Y22 J Z3 (by rfl) ?_)
 refine .and_u64 J J J (show Ah _ _ = some (u64 2251799813685247) from rfl) (.lA J J J Tryz.underlying216 J Sz216 Z4 sP ?_)
 refine .fld J J J Tryz.underlying216 J Ap dE _ J (.load1 J J J Y22 J Z2 (by rfl) ?_)
 refine .and_u64 J J J (show Ah _ _ = some (u64 2251799813685247) from rfl) (.lA J J J Tryz.underlying216 J Sz216 Z3 sP ?_)
 refine .fld J J J Tryz.underlying216 J Ap dE _ J (.load1 J J J Y22 J Z1 (by rfl) ?_)
 refine .and_u64 J J J (show Ah _ _ = some (u64 2251799813685247) from rfl) (.lA J J J Tryz.underlying216 J Sz216 Z2 sP ?_)
 refine .fld J J J Tryz.underlying216 J Ap dE _ J (.load1 J J J Y22 J Z0 (by rfl) ?_)
 refine .and_u64 J J J (show Ah _ _ = some (u64 2251799813685247) from rfl) (.lA J J J Tryz.underlying216 J Sz216 Z1 sP ?_)
 refine .cV J J J J Body244 (wide_upper (s4F a b)) tV (.mul_u64 J J (show Ah _ _ = some (u64 19) from rfl) J (.add_u64 J J J J (.cV J J J J Body244 (wide_upper (s0F a b)) tV (.add_u64 J J J J (.cV J J J J Body244 (wide_upper (s1F a b)) tV (.add_u64 J J J J (.cV J J J J Body244 (wide_upper (s2F a b)) tV (.add_u64 J J J J (.cV J J J J Body244 (wide_upper (s3F a b)) tV (.add_u64 J J J J (.build (cs := Af (⟨((s0F a b).2 &&& LOW) + 19 * upF (s4F a b), ((s1F a b).2 &&& LOW) + upF (s0F a b), ((s2F a b).2 &&& LOW) + upF (s1F a b), ((s3F a b).2 &&& LOW) + upF (s2F a b), ((s4F a b).2 &&& LOW) + upF (s3F a b)⟩ : W5).l) J J J (fun w => by kernel_rfl) ?_)))))))))))
 refine .cV J J J J Body245 (field_carried ⟨((s0F a b).2 &&& LOW) + 19 * upF (s4F a b), ((s1F a b).2 &&& LOW) + upF (s0F a b), ((s2F a b).2 &&& LOW) + upF (s1F a b), ((s3F a b).2 &&& LOW) + upF (s2F a b), ((s4F a b).2 &&& LOW) + upF (s3F a b)⟩) tV (.sA J J J J zB Sz197 zW (by exact mem5) sP (by exact upd5) ?_)
 refine .na (.ret (An ?_))
 refine ⟨_, [], Ao J J Bi J Sz197 (by exact mem5) (by simp [W5.l_length]), sP, sP, ?_, rfl⟩
 rfl

theorem field_store (w : W5) : Meets Tryz.prog 223 [agg (Af w.l)] [] (fun _ => True) (fun v out => v = agg (Aa (fb (fe w.v))) ∧ out = []) := by
 intro W hW
 refine Ab Tryz.func223 J 88 Tryz.ntmps223 J (.sr (.boxA J J ?_))
 intro n1 hn1 hf1
 refine .alloc (cs := (Aa (List.replicate 32 0))) J Bs J ?_
 intro n2 hn2 hf2
 refine .nsr (.lA J J J Bi J Sz197 Z1 zW ?_)
 refine .cV J J J J Body245 (field_carried w) tV (.sA J J J J zB Sz197 zW Z1 zW zV ?_)
 refine .nsr (.i1 J J J J Bi Ap 0 J dE (.load1 J J J Y22 J Z1 (by rfl) ?_))
 refine .add_u64 J J J (show Ah _ _ = some (u64 19) from rfl) (.shr_u64 J J J J 51 J dE (.a J J J (.na (.seq (.sr (.a J J J (.na (.block (.rounds 5 (SRounds.more (.seq (.sr (.m J J J (.lss J J J J J (.na (.cond_t J (rfl) (.skip (Ae (.seq (.block (.region (.m J J J (.i1 J J J J Bi Ap 1 J oM (.load1 J J J Y22 J Z1 (by rfl) ?_))))))))))))))))))))))))
 refine .m J J J (.add_u64 J J J J (.shr_u64 J J J J 51 J dE (.a J J J (.nil (Bj (Ae (.region (.m J J J (.aI J J J J oM (.a J J J (.na (SRounds.more (.seq (.sr (.m J J J (.lss J J J J J (.na (.cond_t J (rfl) (.skip (Ae (.seq (.block (.region (.m J J J (.i1 J J J J Bi Ap 2 J oM (.load1 J J J Y22 J Z1 (by rfl) ?_))))))))))))))))))))))))))
 refine .m J J J (.add_u64 J J J J (.shr_u64 J J J J 51 J dE (.a J J J (.nil (Bj (Ae (.region (.m J J J (.aI J J J J oM (.a J J J (.na (SRounds.more (.seq (.sr (.m J J J (.lss J J J J J (.na (.cond_t J (rfl) (.skip (Ae (.seq (.block (.region (.m J J J (.i1 J J J J Bi Ap 3 J oM (.load1 J J J Y22 J Z1 (by rfl) ?_))))))))))))))))))))))))))
 refine .m J J J (.add_u64 J J J J (.shr_u64 J J J J 51 J dE (.a J J J (.nil (Bj (Ae (.region (.m J J J (.aI J J J J oM (.a J J J (.na (SRounds.more (.seq (.sr (.m J J J (.lss J J J J J (.na (.cond_t J (rfl) (.skip (Ae (.seq (.block (.region (.m J J J (.i1 J J J J Bi Ap 4 J oM (.load1 J J J Y22 J Z1 (by rfl) ?_))))))))))))))))))))))))))
 refine .m J J J (.add_u64 J J J J (.shr_u64 J J J J 51 J dE (.a J J J (.nil (Bj (Ae (.region (.m J J J (.aI J J J J oM (.a J J J (.na (SRounds.more (.seq (.sr (.m J J J (.lss J J J J J (.na (.cond_f J (rfl) (.exit (A1 (A1 (B5 (Ae (.sr (.i1 J J J J Bi Ap 0 J dE (.load1 J J J Y22 J Z1 (by rfl) ?_))))))))))))))))))))))))))
 refine .m J J J (.mul_u64 J J (show Ah _ _ = some (u64 19) from rfl) J (.add_u64 J J J J (.i1 J J J J Bi Ap 0 J dE (.s1 J J J J J Ap Z1 zW (by exact A9 _ _ _) zV ?_))))
 refine .na (.seq (.sr (.m J J J (.na (.block (.rounds 5 (SRounds.more (.sr (.lss J J J J J (.na (.seq (.cond_t J (rfl) (.skip (Ae (.seq (.block (.sr (.m J J J (.a J J J (.na (.seq (.draw [(0, 0), (0, 1), (0, 2), (1, 3), (0, 4), (0, 5), (1, 6), (0, 7), (0, 8), (0, 9), (4, 10)] Ar zK (.m J J J (.aI J J J J oM (.i1 J J J J Bi Ap 1 J oM (.load1 J J J Y22 J Z1 (by rfl) ?_))))))))))))))))))))))))))
 refine .m J J J (.i1 J J J J Bi Ap 0 J oM (.load1 J J J Y22 J Z1 (by rfl) ?_))
 refine .shr_u64 J J J J 51 J dE (.add_u64 J J J J (.i1 J J J J Bi Ap 1 J oM (.s1 J J J J J Ap Z1 zW (by exact A9 _ _ _) zV ?_)))
 refine .na (.region (.m J J J (.i1 J J J J Bi Ap 0 J oM (.load1 J J J Y22 J Z1 (by rfl) ?_))))
 refine .and_u64 J J J (show Ah _ _ = some (u64 2251799813685247) from rfl) (.i1 J J J J Bi Ap 0 J oM (.s1 J J J J J Ap Z1 zW (by exact A9 _ _ _) zV ?_))
 refine .nil (Bj (Ae (.region (.aI J J J J oM (.m J J J (.na (SRounds.more (.sr (.lss J J J J J (.na (.seq (.cond_t J (rfl) (.skip (Ae (.seq (.block (.sr (.m J J J (.a J J J (.na (.seq (.draw [(0, 0), (0, 1), (0, 2), (1, 3), (0, 4), (0, 5), (1, 6), (0, 7), (0, 8), (0, 9), (4, 10)] Ar zK (.m J J J (.aI J J J J oM (.i1 J J J J Bi Ap 2 J oM (.load1 J J J Y22 J Z1 (by rfl) ?_))))))))))))))))))))))))))
 refine .m J J J (.i1 J J J J Bi Ap 1 J oM (.load1 J J J Y22 J Z1 (by rfl) ?_))
 refine .shr_u64 J J J J 51 J dE (.add_u64 J J J J (.i1 J J J J Bi Ap 2 J oM (.s1 J J J J J Ap Z1 zW (by exact A9 _ _ _) zV ?_)))
 refine .na (.region (.m J J J (.i1 J J J J Bi Ap 1 J oM (.load1 J J J Y22 J Z1 (by rfl) ?_))))
 refine .and_u64 J J J (show Ah _ _ = some (u64 2251799813685247) from rfl) (.i1 J J J J Bi Ap 1 J oM (.s1 J J J J J Ap Z1 zW (by exact A9 _ _ _) zV ?_))
 refine .nil (Bj (Ae (.region (.aI J J J J oM (.m J J J (.na (SRounds.more (.sr (.lss J J J J J (.na (.seq (.cond_t J (rfl) (.skip (Ae (.seq (.block (.sr (.m J J J (.a J J J (.na (.seq (.draw [(0, 0), (0, 1), (0, 2), (1, 3), (0, 4), (0, 5), (1, 6), (0, 7), (0, 8), (0, 9), (4, 10)] Ar zK (.m J J J (.aI J J J J oM (.i1 J J J J Bi Ap 3 J oM (.load1 J J J Y22 J Z1 (by rfl) ?_))))))))))))))))))))))))))
 refine .m J J J (.i1 J J J J Bi Ap 2 J oM (.load1 J J J Y22 J Z1 (by rfl) ?_))
 refine .shr_u64 J J J J 51 J dE (.add_u64 J J J J (.i1 J J J J Bi Ap 3 J oM (.s1 J J J J J Ap Z1 zW (by exact A9 _ _ _) zV ?_)))
 refine .na (.region (.m J J J (.i1 J J J J Bi Ap 2 J oM (.load1 J J J Y22 J Z1 (by rfl) ?_))))
 refine .and_u64 J J J (show Ah _ _ = some (u64 2251799813685247) from rfl) (.i1 J J J J Bi Ap 2 J oM (.s1 J J J J J Ap Z1 zW (by exact A9 _ _ _) zV ?_))
 refine .nil (Bj (Ae (.region (.aI J J J J oM (.m J J J (.na (SRounds.more (.sr (.lss J J J J J (.na (.seq (.cond_t J (rfl) (.skip (Ae (.seq (.block (.sr (.m J J J (.a J J J (.na (.seq (.draw [(0, 0), (0, 1), (0, 2), (1, 3), (0, 4), (0, 5), (1, 6), (0, 7), (0, 8), (0, 9), (4, 10)] Ar zK (.m J J J (.aI J J J J oM (.i1 J J J J Bi Ap 4 J oM (.load1 J J J Y22 J Z1 (by rfl) ?_))))))))))))))))))))))))))
 refine .m J J J (.i1 J J J J Bi Ap 3 J oM (.load1 J J J Y22 J Z1 (by rfl) ?_))
 refine .shr_u64 J J J J 51 J dE (.add_u64 J J J J (.i1 J J J J Bi Ap 4 J oM (.s1 J J J J J Ap Z1 zW (by exact A9 _ _ _) zV ?_)))
 refine .na (.region (.m J J J (.i1 J J J J Bi Ap 3 J oM (.load1 J J J Y22 J Z1 (by rfl) ?_))))
 refine .and_u64 J J J (show Ah _ _ = some (u64 2251799813685247) from rfl) (.i1 J J J J Bi Ap 3 J oM (.s1 J J J J J Ap Z1 zW (by exact A9 _ _ _) zV ?_))
 refine .nil (Bj (Ae (.region (.aI J J J J oM (.m J J J (.na (SRounds.more (.sr (.lss J J J J J (.na (.seq (.cond_f J (rfl) (.exit (A1 (A1 (B5 (Ae (.sr (.i1 J J J J Bi Ap 4 J dE (.load1 J J J Y22 J Z1 (by rfl) ?_))))))))))))))))))))
 refine .and_u64 J J J (show Ah _ _ = some (u64 2251799813685247) from rfl) (.i1 J J J J Bi Ap 4 J dE (.s1 J J J J J Ap Z1 zW (by exact A9 _ _ _) zV ?_))
 refine .nsr (.alloc (cs := (Aa (List.replicate 32 0))) J Bs J ?_)
 intro n6 hn6 hf6
 refine .na (.seq (.draw [(0, 0), (0, 1), (1, 2), (0, 3), (1, 4), (0, 5), (0, 6), (4, 7)] Ar zK (.sliceArrLH 0 8 J J J J J J J dE dE dE Y77 Sz5 (.i1 J J J J Bi Ap 0 J dE (.load1 J J J Y22 J Z2 (by rfl) ?_)))))
 refine .i1 J J J J Bi Ap 1 J dE (.load1 J J J Y22 J Z2 (by rfl) ?_)
 refine .shl_u64 J J J J 51 J dE (.or_u64 J J J J (.callL (L := [⟨n6, Aa (List.replicate 32 0), 77, 32⟩]) J J J J J Body224 (field_put n6 0 8 32 32 (List.replicate 32 0) ((stF w).a ||| A2 (stF w).b 51) _ dE sP) (Ai rM Au) (Bp J) (fun w h => Av h Z0) ?_))
 rintro v59 out59 rfl
 rw [set8_1]
 refine .na (.seq (.draw [(0, 0), (0, 1), (1, 2), (0, 3), (0, 4), (1, 5), (0, 6), (0, 7), (4, 8)] Ar zK (.sliceArrLH 8 16 J J J J J J J dE dE dE Y77 Sz5 (.i1 J J J J Bi Ap 1 J dE (.load1 J J J Y22 J Z2 (by rfl) ?_)))))
 refine .shr_u64 J J J J 13 J dE (.i1 J J J J Bi Ap 2 J dE (.load1 J J J Y22 J Z2 (by rfl) ?_))
 refine .shl_u64 J J J J 38 J dE (.or_u64 J J J J (.callL (L := [⟨n6, Aa (by8 ((stF w).a ||| A2 (stF w).b 51) ++ List.replicate 24 0), 77, 32⟩]) J J J J J Body224 (field_put n6 8 8 24 32 (by8 ((stF w).a ||| A2 (stF w).b 51) ++ List.replicate 24 0) (As (stF w).b 13 ||| A2 (stF w).c 38) _ dE (by simp [by8_length])) (Ai rM Au) (Bp J) (fun w h => Av h Z0) ?_))
 rintro v68 out68 rfl
 rw [set8_2]
 refine .na (.seq (.draw [(0, 0), (0, 1), (1, 2), (0, 3), (0, 4), (1, 5), (0, 6), (0, 7), (4, 8)] Ar zK (.sliceArrLH 16 24 J J J J J J J dE dE dE Y77 Sz5 (.i1 J J J J Bi Ap 2 J dE (.load1 J J J Y22 J Z2 (by rfl) ?_)))))
 refine .shr_u64 J J J J 26 J dE (.i1 J J J J Bi Ap 3 J dE (.load1 J J J Y22 J Z2 (by rfl) ?_))
 refine .shl_u64 J J J J 25 J dE (.or_u64 J J J J (.callL (L := [⟨n6, Aa (by8 ((stF w).a ||| A2 (stF w).b 51) ++ by8 (As (stF w).b 13 ||| A2 (stF w).c 38) ++ List.replicate 16 0), 77, 32⟩]) J J J J J Body224 (field_put n6 16 8 16 32 (by8 ((stF w).a ||| A2 (stF w).b 51) ++ by8 (As (stF w).b 13 ||| A2 (stF w).c 38) ++ List.replicate 16 0) (As (stF w).c 26 ||| A2 (stF w).d 25) _ dE (by simp [by8_length])) (Ai rM Au) (Bp J) (fun w h => Av h Z0) ?_))
 rintro v77 out77 rfl
 rw [set8_3]
 refine .na (.seq (.draw [(0, 0), (0, 1), (1, 2), (0, 3), (0, 4), (1, 5), (0, 6), (0, 7), (4, 8)] Ar zK (.sliceArrLH 24 32 J J J J J J J dE dE dE Y77 Sz5 (.i1 J J J J Bi Ap 3 J dE (.load1 J J J Y22 J Z2 (by rfl) ?_)))))
 refine .shr_u64 J J J J 39 J dE (.i1 J J J J Bi Ap 4 J dE (.load1 J J J Y22 J Z2 (by rfl) ?_))
 refine .shl_u64 J J J J 12 J dE (.or_u64 J J J J (.callL (L := [⟨n6, Aa (by8 ((stF w).a ||| A2 (stF w).b 51) ++ by8 (As (stF w).b 13 ||| A2 (stF w).c 38) ++ by8 (As (stF w).c 26 ||| A2 (stF w).d 25) ++ List.replicate 8 0), 77, 32⟩]) J J J J J Body224 (field_put n6 24 8 8 32 (by8 ((stF w).a ||| A2 (stF w).b 51) ++ by8 (As (stF w).b 13 ||| A2 (stF w).c 38) ++ by8 (As (stF w).c 26 ||| A2 (stF w).d 25) ++ List.replicate 8 0) (As (stF w).d 39 ||| A2 (stF w).e 12) _ dE (by simp [by8_length])) (Ai rM Au) (Bp J) (fun w h => Av h Z0) ?_))
 rintro v86 out86 rfl
 rw [set8_4]
 refine .nsr (.lA J J J Y77 J Ad Z0 (by (simp [by8_length]; done)) ?_)
 refine .sA J J J J zE Ad (by (simp [by8_length]; done)) Z1 sP zV ?_
 refine .na (.ret (An ?_))
 refine ⟨_, [], Ao J J Y77 J Ad Z1 (by simp [by8_length]), sP, sP, ?_, rfl⟩
 rw [fb_fe, ← store_eq, ← by8_store]

theorem field_Rest (a : List UInt8) (ha : a.length = 32) : Meets Tryz.prog 220 [agg (Aa a)] [] (fun _ => True) (fun v out => v = agg (Aa (fb (fe (le a)))) ∧ out = []) := by
 intro W hW
 refine Ab Tryz.func220 J 6 Tryz.ntmps220 J (.sr (.boxA J J ?_))
 intro n1 hn1 hf1
 refine .alloc (cs := (Aa (List.replicate 32 0))) J Bs J ?_
 intro n2 hn2 hf2
 refine .nsr (.lA J J J Y77 J Ad Z1 (by (simp [ha]; done)) ?_)
 refine .cV J J J J Body221 (field_load a ha) tV (.cV J J J J Body223 (field_store (ldN a)) tV (.sA J J J J zE Ad zF Z0 sP zU ?_))
 refine .na (.ret (An ?_))
 refine ⟨_, [], Ao J J Y77 J Ad Z0 (by simp [Aq]), sP, sP, ?_, rfl⟩
 rw [ldN_v ha]

theorem field_Canon (a : List UInt8) (ha : a.length = 32) : Meets Tryz.prog 168 [agg (Aa a)] [] (fun _ => True) (fun v out => v = .bool (decide (fb (fe (le a)) = a)) ∧ out = []) := by
 intro W hW
 refine Ab Tryz.func168 J 7 Tryz.ntmps168 J (.sr (.boxA J J ?_))
 intro n1 hn1 hf1
 refine .a J J J (.na (.seq (.draw [(1, 0), (1, 2), (3, 1), (0, 3), (0, 4)] Ar zK (.lA J J J Y77 J Ad Z0 (by (simp [ha]; done)) ?_))))
 refine .lA J J J Y77 J Ad Z0 (by (simp [ha]; done)) ?_
 refine .cV J J J J Body220 (field_Rest a ha) tV (.eql_bytes J J J J Tryz.eqGuardType77 Y77 Y5 Sz5 zF (by (simp [ha]; done)) J ?_)
 refine .a J J J (.na (.ret (An ?_)))
 refine ⟨_, [], Ag J J, sP, sP, ?_, rfl⟩
 rfl

theorem field_Same (a b : List UInt8) (ha : a.length = 32) (hb : b.length = 32) : Meets Tryz.prog 227 [agg (Aa a), agg (Aa b)] [] (fun _ => True) (fun v out => v = .bool (decide (fe (le a) = fe (le b))) ∧ out = []) := by
 intro W hW
 refine Ab Tryz.func227 J 10 Tryz.ntmps227 J (.sr (.boxA J J ?_))
 intro n2 hn2 hf2
 refine .boxA J J ?_
 intro n3 hn3 hf3
 refine .a J J J (.na (.seq (.draw [(1, 0), (1, 2), (3, 1), (3, 3), (0, 4), (0, 5)] Ar zK (.lA J J J Y77 J Ad Z1 (by (simp [ha]; done)) ?_))))
 refine .lA J J J Y77 J Ad Z0 (by (simp [hb]; done)) ?_
 refine .cV J J J J Body220 (field_Rest a ha) tV (.cV J J J J Body220 (field_Rest b hb) tV (.eql_bytes J J J J Tryz.eqGuardType77 Y77 Y5 Sz5 zF zF J (.a J J J (.na (.ret (An ?_))))))
 refine ⟨_, [], Ag J J, sP, sP, ?_, rfl⟩
 rw [fb_dec]

theorem field_Odd (a : List UInt8) (ha : a.length = 32) : Meets Tryz.prog 215 [agg (Aa a)] [] (fun _ => True) (fun v out => v = .bool (decide ((fe (le a)).val % 2 = 1)) ∧ out = []) := by
 intro W hW
 refine Ab Tryz.func215 J 8 Tryz.ntmps215 J (.sr (.boxA J J ?_))
 intro n1 hn1 hf1
 refine .a J J J (.nsr (.lA J J J Y77 J Ad Z0 (by (simp [ha]; done)) ?_))
 refine .cV J J J J Body220 (field_Rest a ha) tV (.idxA1 J J J J Y77 Sz5 Y5 J 0 J oM (by rfl) ?_)
 refine .and_u8 J J J (show Ah _ _ = some (u8 1) from rfl) (.eqi J J J J J (.a J J J (.na (.ret (An ?_)))))
 refine ⟨_, [], Ag J J, sP, sP, ?_, rfl⟩
 exact congrArg Value.bool (odd_byte _)

structure PowS where
  k : Nat
  p : W5
  a : UInt64
  b : UInt64
  c : UInt64
  d : UInt64
theorem leb_small (x : UInt64) : leb 8 x.toNat ++ List.replicate 24 0 = leb 32 x.toNat := by
  have h := leb_split 24 8 x.toNat
  rw [show x.toNat / 256 ^ 8 = 0 from Nat.div_eq_of_lt x.toNat_lt] at h
  rw [show leb 24 0 = List.replicate 24 0 from by decide] at h
  exact h.symm

theorem field_Of (x : UInt64) : Meets Tryz.prog 171 [u64 x] [] (fun _ => True) (fun v out => v = agg (Aa (fb (fe x.toNat))) ∧ out = []) := by
 intro W hW
 refine Ab Tryz.func171 J 8 Tryz.ntmps171 J (.sr (.alloc (cs := (Aa (List.replicate 32 0))) J Bs J ?_))
 intro n2 hn2 hf2
 refine .nsr (.alloc (cs := (Aa (List.replicate 32 0))) J Bs J ?_)
 intro n3 hn3 hf3
 refine .nsr (.sliceArrHi 8 J J J J J dE dE Y77 Sz5 (.m J J J (.callL (L := [⟨n3, Aa (List.replicate 32 0), 77, 32⟩]) J J J J J Body224 (field_put n3 0 8 32 32 (List.replicate 32 0) (x) _ dE sP) (Ai rM Au) (Bp J) (fun w h => Av h Z0) ?_)))
 rintro v6 out6 rfl
 rw [set8_1]
 refine .nsr (.lA J J J Y77 J Ad Z0 (by (simp [by8_length]; done)) ?_)
 refine .sA J J J J zE Ad (by (simp [by8_length]; done)) Z1 sP zV ?_
 refine .na (.ret (An ?_))
 refine ⟨_, [], Ao J J Y77 J Ad Z1 (by simp [by8_length]), sP, sP, ?_, rfl⟩
 rw [fe_small, by8_eq]
 exact congrArg (fun l => agg (Aa l)) (leb_small x)

theorem field_Add (a b : List UInt8) (ha : a.length = 32) (hb : b.length = 32) : Meets Tryz.prog 172 [agg (Aa a), agg (Aa b)] [] (fun _ => True) (fun v out => v = agg (Aa (fb (fe (le a) + fe (le b)))) ∧ out = []) := by
 intro W hW
 refine Ab Tryz.func172 J 26 Tryz.ntmps172 J (.sr (.boxA J J ?_))
 intro n2 hn2 hf2
 refine .boxA J J ?_
 intro n3 hn3 hf3
 refine .alloc (cs := (Aa (List.replicate 32 0))) J Bs J ?_
 intro n4 hn4 hf4
 refine .na (.seq (.draw [(1, 0), (1, 2), (3, 1), (3, 3), (2, 4), (2, 5), (4, 6), (4, 7)] Ar zK (.lA J J J Y77 J Ad Z2 (by (simp [ha]; done)) ?_)))
 refine .lA J J J Y77 J Ad Z1 (by (simp [hb]; done)) ?_
 refine .cV J J J J Body221 (field_load a ha) tV (.cV J J J J Body221 (field_load b hb) tV (.alloc (cs := (Af (List.replicate 5 0))) J Zr197 J ?_))
 intro n5 hn5 hf5
 refine .alloc (cs := (Af (List.replicate 5 0))) J Zr197 J ?_
 intro n6 hn6 hf6
 refine .sA J J J J zB Sz197 zW Z1 sP zV ?_
 refine .sA J J J J zB Sz197 zW Z0 sP zU ?_
 refine .na (.seq (.sr (.m J J J (.na (.block (.rounds 6 (SRounds.more (.sr (.lss J J J J J (.na (.seq (.cond_t J (rfl) (.skip (Ae (.seq (.block (.sr (.m J J J (.a J J J (.na (.draw [(0, 0), (0, 1), (1, 2), (0, 3), (0, 4), (1, 5), (0, 6), (0, 7), (4, 8)] Ar zK (.m J J J (.i1 J J J J Bi Ap 0 J oM (.load1 J J J Y22 J Z1 (by rfl) ?_))))))))))))))))))))))))
 refine .m J J J (.i1 J J J J Bi Ap 0 J oM (.load1 J J J Y22 J Z0 (by rfl) ?_))
 refine .add_u64 J J J J (.i1 J J J J Bi Ap 0 J oM (.s1 J J J J J Ap Z1 zW (by exact A9 _ _ _) zV ?_))
 refine .nil (Bj (Ae (.region (.aI J J J J oM (.m J J J (.na (SRounds.more (.sr (.lss J J J J J (.na (.seq (.cond_t J (rfl) (.skip (Ae (.seq (.block (.sr (.m J J J (.a J J J (.na (.draw [(0, 0), (0, 1), (1, 2), (0, 3), (0, 4), (1, 5), (0, 6), (0, 7), (4, 8)] Ar zK (.m J J J (.i1 J J J J Bi Ap 1 J oM (.load1 J J J Y22 J Z1 (by rfl) ?_))))))))))))))))))))))))
 refine .m J J J (.i1 J J J J Bi Ap 1 J oM (.load1 J J J Y22 J Z0 (by rfl) ?_))
 refine .add_u64 J J J J (.i1 J J J J Bi Ap 1 J oM (.s1 J J J J J Ap Z1 zW (by exact A9 _ _ _) zV ?_))
 refine .nil (Bj (Ae (.region (.aI J J J J oM (.m J J J (.na (SRounds.more (.sr (.lss J J J J J (.na (.seq (.cond_t J (rfl) (.skip (Ae (.seq (.block (.sr (.m J J J (.a J J J (.na (.draw [(0, 0), (0, 1), (1, 2), (0, 3), (0, 4), (1, 5), (0, 6), (0, 7), (4, 8)] Ar zK (.m J J J (.i1 J J J J Bi Ap 2 J oM (.load1 J J J Y22 J Z1 (by rfl) ?_))))))))))))))))))))))))
 refine .m J J J (.i1 J J J J Bi Ap 2 J oM (.load1 J J J Y22 J Z0 (by rfl) ?_))
 refine .add_u64 J J J J (.i1 J J J J Bi Ap 2 J oM (.s1 J J J J J Ap Z1 zW (by exact A9 _ _ _) zV ?_))
 refine .nil (Bj (Ae (.region (.aI J J J J oM (.m J J J (.na (SRounds.more (.sr (.lss J J J J J (.na (.seq (.cond_t J (rfl) (.skip (Ae (.seq (.block (.sr (.m J J J (.a J J J (.na (.draw [(0, 0), (0, 1), (1, 2), (0, 3), (0, 4), (1, 5), (0, 6), (0, 7), (4, 8)] Ar zK (.m J J J (.i1 J J J J Bi Ap 3 J oM (.load1 J J J Y22 J Z1 (by rfl) ?_))))))))))))))))))))))))
 refine .m J J J (.i1 J J J J Bi Ap 3 J oM (.load1 J J J Y22 J Z0 (by rfl) ?_))
 refine .add_u64 J J J J (.i1 J J J J Bi Ap 3 J oM (.s1 J J J J J Ap Z1 zW (by exact A9 _ _ _) zV ?_))
 refine .nil (Bj (Ae (.region (.aI J J J J oM (.m J J J (.na (SRounds.more (.sr (.lss J J J J J (.na (.seq (.cond_t J (rfl) (.skip (Ae (.seq (.block (.sr (.m J J J (.a J J J (.na (.draw [(0, 0), (0, 1), (1, 2), (0, 3), (0, 4), (1, 5), (0, 6), (0, 7), (4, 8)] Ar zK (.m J J J (.i1 J J J J Bi Ap 4 J oM (.load1 J J J Y22 J Z1 (by rfl) ?_))))))))))))))))))))))))
 refine .m J J J (.i1 J J J J Bi Ap 4 J oM (.load1 J J J Y22 J Z0 (by rfl) ?_))
 refine .add_u64 J J J J (.i1 J J J J Bi Ap 4 J oM (.s1 J J J J J Ap Z1 zW (by exact A9 _ _ _) zV ?_))
 refine .nil (Bj (Ae (.region (.aI J J J J oM (.m J J J (.na (SRounds.more (.sr (.lss J J J J J (.na (.seq (.cond_f J (rfl) (.exit (A1 (A1 (B5 (Ae (.sr (.lA J J J Bi J Sz197 Z1 zW ?_)))))))))))))))))))
 refine .cV J J J J Body223 (field_store (addF (ldN a) (ldN b))) tV (.sA J J J J zE Ad zF Z2 sP (by exact upd2) ?_)
 refine .na (.ret (An ?_))
 refine ⟨_, [], Ao J J Y77 J Ad Z2 (by simp [Aq]), sP, sP, ?_, rfl⟩
 rw [addF_fe ha hb]

theorem field_Sub (a b : List UInt8) (ha : a.length = 32) (hb : b.length = 32) : Meets Tryz.prog 170 [agg (Aa a), agg (Aa b)] [] (fun _ => True) (fun v out => v = agg (Aa (fb (fe (le a) - fe (le b)))) ∧ out = []) := by
 intro W hW
 refine Ab Tryz.func170 J 34 Tryz.ntmps170 J (.sr (.boxA J J ?_))
 intro n2 hn2 hf2
 refine .boxA J J ?_
 intro n3 hn3 hf3
 refine .alloc (cs := (Aa (List.replicate 32 0))) J Bs J ?_
 intro n4 hn4 hf4
 refine .na (.seq (.draw [(1, 0), (1, 2), (3, 1), (3, 3), (2, 4), (2, 5), (4, 6), (4, 7)] Ar zK (.lA J J J Y77 J Ad Z2 (by (simp [ha]; done)) ?_)))
 refine .lA J J J Y77 J Ad Z1 (by (simp [hb]; done)) ?_
 refine .cV J J J J Body221 (field_load a ha) tV (.cV J J J J Body221 (field_load b hb) tV (.alloc (cs := (Af (List.replicate 5 0))) J Zr197 J ?_))
 intro n5 hn5 hf5
 refine .alloc (cs := (Af (List.replicate 5 0))) J Zr197 J ?_
 intro n6 hn6 hf6
 refine .sA J J J J zB Sz197 zW Z1 sP zV ?_
 refine .sA J J J J zB Sz197 zW Z0 sP zU ?_
 refine .nsr (.i1 J J J J Bi Ap 0 J dE (.load1 J J J Y22 J Z1 (by rfl) ?_))
 refine .i1 J J J J Bi Ap 0 J dE (.load1 J J J Y22 J Z0 (by rfl) ?_)
 refine .sub_u64 J J (show Ah _ _ = some (u64 9007199254740916) from rfl) J (.add_u64 J J J J (.i1 J J J J Bi Ap 0 J dE (.s1 J J J J J Ap Z1 zW (by exact A9 _ _ _) zV ?_)))
 refine .na (.seq (.sr (.a J J J (.na (.block (.rounds 5 (SRounds.more (.seq (.sr (.m J J J (.lss J J J J J (.na (.cond_t J (rfl) (.skip (Ae (.seq (.block (.draw [(0, 0), (0, 1), (1, 2), (0, 3), (0, 4), (1, 5), (0, 6), (0, 7), (0, 8), (4, 9)] Ar zK (.m J J J (.i1 J J J J Bi Ap 1 J oM (.load1 J J J Y22 J Z1 (by rfl) ?_)))))))))))))))))))))
 refine .m J J J (.i1 J J J J Bi Ap 1 J oM (.load1 J J J Y22 J Z0 (by rfl) ?_))
 refine .sub_u64 J J (show Ah _ _ = some (u64 9007199254740988) from rfl) J (.add_u64 J J J J (.i1 J J J J Bi Ap 1 J oM (.s1 J J J J J Ap Z1 zW (by exact A9 _ _ _) zV ?_)))
 refine .nil (Bj (Ae (.region (.m J J J (.aI J J J J oM (.a J J J (.na (SRounds.more (.seq (.sr (.m J J J (.lss J J J J J (.na (.cond_t J (rfl) (.skip (Ae (.seq (.block (.draw [(0, 0), (0, 1), (1, 2), (0, 3), (0, 4), (1, 5), (0, 6), (0, 7), (0, 8), (4, 9)] Ar zK (.m J J J (.i1 J J J J Bi Ap 2 J oM (.load1 J J J Y22 J Z1 (by rfl) ?_))))))))))))))))))))))
 refine .m J J J (.i1 J J J J Bi Ap 2 J oM (.load1 J J J Y22 J Z0 (by rfl) ?_))
 refine .sub_u64 J J (show Ah _ _ = some (u64 9007199254740988) from rfl) J (.add_u64 J J J J (.i1 J J J J Bi Ap 2 J oM (.s1 J J J J J Ap Z1 zW (by exact A9 _ _ _) zV ?_)))
 refine .nil (Bj (Ae (.region (.m J J J (.aI J J J J oM (.a J J J (.na (SRounds.more (.seq (.sr (.m J J J (.lss J J J J J (.na (.cond_t J (rfl) (.skip (Ae (.seq (.block (.draw [(0, 0), (0, 1), (1, 2), (0, 3), (0, 4), (1, 5), (0, 6), (0, 7), (0, 8), (4, 9)] Ar zK (.m J J J (.i1 J J J J Bi Ap 3 J oM (.load1 J J J Y22 J Z1 (by rfl) ?_))))))))))))))))))))))
 refine .m J J J (.i1 J J J J Bi Ap 3 J oM (.load1 J J J Y22 J Z0 (by rfl) ?_))
 refine .sub_u64 J J (show Ah _ _ = some (u64 9007199254740988) from rfl) J (.add_u64 J J J J (.i1 J J J J Bi Ap 3 J oM (.s1 J J J J J Ap Z1 zW (by exact A9 _ _ _) zV ?_)))
 refine .nil (Bj (Ae (.region (.m J J J (.aI J J J J oM (.a J J J (.na (SRounds.more (.seq (.sr (.m J J J (.lss J J J J J (.na (.cond_t J (rfl) (.skip (Ae (.seq (.block (.draw [(0, 0), (0, 1), (1, 2), (0, 3), (0, 4), (1, 5), (0, 6), (0, 7), (0, 8), (4, 9)] Ar zK (.m J J J (.i1 J J J J Bi Ap 4 J oM (.load1 J J J Y22 J Z1 (by rfl) ?_))))))))))))))))))))))
 refine .m J J J (.i1 J J J J Bi Ap 4 J oM (.load1 J J J Y22 J Z0 (by rfl) ?_))
 refine .sub_u64 J J (show Ah _ _ = some (u64 9007199254740988) from rfl) J (.add_u64 J J J J (.i1 J J J J Bi Ap 4 J oM (.s1 J J J J J Ap Z1 zW (by exact A9 _ _ _) zV ?_)))
 refine .nil (Bj (Ae (.region (.m J J J (.aI J J J J oM (.a J J J (.na (SRounds.more (.seq (.sr (.m J J J (.lss J J J J J (.na (.cond_f J (rfl) (.exit (A1 (A1 (B5 (Ae (.sr (.lA J J J Bi J Sz197 Z1 zW ?_)))))))))))))))))))))
 refine .cV J J J J Body223 (field_store (subF (ldN a) (ldN b))) tV (.sA J J J J zE Ad zF Z2 sP (by exact upd2) ?_)
 refine .na (.ret (An ?_))
 refine ⟨_, [], Ao J J Y77 J Ad Z2 (by simp [Aq]), sP, sP, ?_, rfl⟩
 rw [subL_fe ha hb]

theorem field_Neg (a : List UInt8) (ha : a.length = 32) : Meets Tryz.prog 176 [agg (Aa a)] [] (fun _ => True) (fun v out => v = agg (Aa (fb (- fe (le a)))) ∧ out = []) := by
 intro W hW
 refine Ab Tryz.func176 J 6 Tryz.ntmps176 J (.sr (.boxA J J ?_))
 intro n1 hn1 hf1
 refine .alloc (cs := (Aa (List.replicate 32 0))) J Bs J ?_
 intro n2 hn2 hf2
 refine .nsr (.build (cs := Aa (List.replicate 32 0)) J J J (fun w => by kernel_rfl) ?_)
 refine .lA J J J Y77 J Ad Z1 (by (simp [ha]; done)) ?_
 refine .cV J J J J Body170 (field_Sub (List.replicate 32 0) a J ha) tV (.sA J J J J zE Ad zF Z0 sP zU ?_)
 refine .na (.ret (An ?_))
 refine ⟨_, [], Ao J J Y77 J Ad Z0 (by simp [Aq]), sP, sP, ?_, rfl⟩
 rw [show fe (le (List.replicate 32 0)) - fe (le a) = - fe (le a) from by rw [show fe (le (List.replicate 32 0)) = 0 by kernel_rfl]; grind]

theorem field_Mul (a b : List UInt8) (ha : a.length = 32) (hb : b.length = 32) : Meets Tryz.prog 169 [agg (Aa a), agg (Aa b)] [] (fun _ => True) (fun v out => v = agg (Aa (fb (fe (le a) * fe (le b)))) ∧ out = []) := by
 intro W hW
 refine Ab Tryz.func169 J 13 Tryz.ntmps169 J (.sr (.boxA J J ?_))
 intro n2 hn2 hf2
 refine .boxA J J ?_
 intro n3 hn3 hf3
 refine .alloc (cs := (Aa (List.replicate 32 0))) J Bs J ?_
 intro n4 hn4 hf4
 refine .na (.seq (.draw [(1, 0), (1, 2), (3, 1), (3, 3), (2, 4), (2, 5), (4, 6), (4, 7)] Ar zK (.lA J J J Y77 J Ad Z2 (by (simp [ha]; done)) ?_)))
 refine .lA J J J Y77 J Ad Z1 (by (simp [hb]; done)) ?_
 refine .cV J J J J Body221 (field_load a ha) tV (.cV J J J J Body221 (field_load b hb) tV (.alloc (cs := (Af (List.replicate 5 0))) J Zr197 J ?_))
 intro n5 hn5 hf5
 refine .alloc (cs := (Af (List.replicate 5 0))) J Zr197 J ?_
 intro n6 hn6 hf6
 refine .sA J J J J zB Sz197 zW Z1 sP zV ?_
 refine .sA J J J J zB Sz197 zW Z0 sP zU ?_
 refine .nsr (.cV J J J J Body222 (field_product n5 n6 (ldN a) (ldN b)) (fun w h => ⟨Ak h Z1, Ak h Z0⟩) ?_)
 refine .cV J J J J Body223 (field_store (mulF (ldN a) (ldN b))) tV (.sA J J J J zE Ad zF Z2 sP (by exact upd2) ?_)
 refine .na (.ret (An ?_))
 refine ⟨_, [], Ao J J Y77 J Ad Z2 (by simp [Aq]), sP, sP, ?_, rfl⟩
 rw [mulL_fe ha hb]

theorem field_shifted (a b c d : UInt64) : Meets Tryz.prog 246 [agg (Af [a, b, c, d])] [] (fun _ => True) (fun v out => v = agg (Af [A2 a 1, A2 b 1 ||| As a 63, A2 c 1 ||| As b 63, A2 d 1 ||| As c 63]) ∧ out = []) := by
 intro W hW
 refine Ab Tryz.func246 J 25 Tryz.ntmps246 J (.sr (.boxA J J ?_))
 intro n1 hn1 hf1
 refine .alloc (cs := (Af (List.replicate 4 0))) J Zr156 J ?_
 intro n2 hn2 hf2
 refine .na (.seq (.sr (.a J J J (.na (.block (.rounds 4 (SRounds.more (.seq (.sr (.m J J J (.gtr J J J J J (.na (.cond_t J (rfl) (.skip (Ae (.seq (.block (.draw [(0, 0), (0, 1), (0, 2), (1, 3), (0, 4), (0, 5), (0, 6), (0, 7), (1, 8), (0, 9), (0, 10), (0, 11), (4, 12)] Ar zK (.m J J J (.m J J J (.i1 J J J J Y156 Ap 3 J oM (.load1 J J J Y22 J Z1 (by rfl) ?_))))))))))))))))))))))
 refine .shl_u64 J J J J 1 J dE (.m J J J (.sub_i64 J J J J oM (.i1 J J J J Y156 Ap 2 J oM (.load1 J J J Y22 J Z1 (by rfl) ?_))))
 refine .shr_u64 J J J J 63 J dE (.or_u64 J J J J (.i1 J J J J Y156 Ap 3 J oM (.s1 J J J J J Ap Z1 sP (by exact A9 _ _ _) zV ?_)))
 refine .nil (Bj (Ae (.region (.m J J J (.sub_i64 J J J J oM (.a J J J (.na (SRounds.more (.seq (.sr (.m J J J (.gtr J J J J J (.na (.cond_t J (rfl) (.skip (Ae (.seq (.block (.draw [(0, 0), (0, 1), (0, 2), (1, 3), (0, 4), (0, 5), (0, 6), (0, 7), (1, 8), (0, 9), (0, 10), (0, 11), (4, 12)] Ar zK (.m J J J (.m J J J (.i1 J J J J Y156 Ap 2 J oM (.load1 J J J Y22 J Z1 (by rfl) ?_)))))))))))))))))))))))
 refine .shl_u64 J J J J 1 J dE (.m J J J (.sub_i64 J J J J oM (.i1 J J J J Y156 Ap 1 J oM (.load1 J J J Y22 J Z1 (by rfl) ?_))))
 refine .shr_u64 J J J J 63 J dE (.or_u64 J J J J (.i1 J J J J Y156 Ap 2 J oM (.s1 J J J J J Ap Z1 sP (by exact A9 _ _ _) zV ?_)))
 refine .nil (Bj (Ae (.region (.m J J J (.sub_i64 J J J J oM (.a J J J (.na (SRounds.more (.seq (.sr (.m J J J (.gtr J J J J J (.na (.cond_t J (rfl) (.skip (Ae (.seq (.block (.draw [(0, 0), (0, 1), (0, 2), (1, 3), (0, 4), (0, 5), (0, 6), (0, 7), (1, 8), (0, 9), (0, 10), (0, 11), (4, 12)] Ar zK (.m J J J (.m J J J (.i1 J J J J Y156 Ap 1 J oM (.load1 J J J Y22 J Z1 (by rfl) ?_)))))))))))))))))))))))
 refine .shl_u64 J J J J 1 J dE (.m J J J (.sub_i64 J J J J oM (.i1 J J J J Y156 Ap 0 J oM (.load1 J J J Y22 J Z1 (by rfl) ?_))))
 refine .shr_u64 J J J J 63 J dE (.or_u64 J J J J (.i1 J J J J Y156 Ap 1 J oM (.s1 J J J J J Ap Z1 sP (by exact A9 _ _ _) zV ?_)))
 refine .nil (Bj (Ae (.region (.m J J J (.sub_i64 J J J J oM (.a J J J (.na (SRounds.more (.seq (.sr (.m J J J (.gtr J J J J J (.na (.cond_f J (rfl) (.exit (A1 (A1 (B5 (Ae (.sr (.i1 J J J J Y156 Ap 0 J dE (.load1 J J J Y22 J Z1 (by rfl) ?_))))))))))))))))))))))
 refine .shl_u64 J J J J 1 J dE (.i1 J J J J Y156 Ap 0 J dE (.s1 J J J J J Ap Z1 sP (by exact A9 _ _ _) zV ?_))
 refine .nsr (.lA J J J Y156 J Sz156 Z1 sP ?_)
 refine .sA J J J J zB Sz156 sP Z0 sP zU ?_
 refine .na (.ret (An ?_))
 refine ⟨_, [], Ao J J Y156 J Sz156 Z0 sP, sP, sP, ?_, rfl⟩
 rfl

theorem field_ones (f l : UInt8) : Meets Tryz.prog 226 [u8 f, u8 l] [] (fun _ => True) (fun v out => v = agg (Aa (onesB f l)) ∧ out = []) := by
 intro W hW
 refine Ab Tryz.func226 J 18 Tryz.ntmps226 J (.sr (.alloc (cs := (Aa (List.replicate 32 0))) J Bs J ?_))
 intro n4 hn4 hf4
 refine .nsr (.alloc (cs := (Aa (List.replicate 32 0))) J Bs J ?_)
 intro n5 hn5 hf5
 refine .na (.seq (.sr (.m J J J (.na (.block (.loop (ι := Nat) (fun k => ⟨[(0, u8 f), (1, u8 l), (4, ptr n4 0), (5, ptr n5 0), (7, i64 (k : Int))], [⟨n5, Aa (List.replicate k 255 ++ List.replicate (32 - k) 0), 77, 32⟩, ⟨n4, Aa (List.replicate 32 0), 77, 32⟩]⟩) (fun k => k ≤ 32) (fun k => 32 - k) (0) ?_ ?_ ?_))))))
 · omega
 · exact Ac (wk1 rfl (wk1 rfl (wk1 rfl (wk1 rfl (wk1 rfl wk0))))) (wh1 Z0 (wh1 Z1 wh0)) nD
 ·
  rintro k hi
  refine .sr (.lss J J J J J (.na (.seq (.condP J (fun hc0 => ?_) (fun hc0 => ?_)))))
  ·
   have hk2 : k < 32 := by omega
   refine .skip (Ae (.seq (.block (.sr (.m J J J (.a J J J (.na (.region (.m J J J (.i1 J J J J Y77 Sz5 _ J oM (.s1 J J J (show Ah _ _ = some (u8 255) from rfl) J Sz5 Z0 (by (simp; omega)) (by exact Bb _ _ _) zU ?_)))))))))))
   refine .nil (Bj (Ae (.region (.aI J J J J oM (.m J J J (.na ?_))))))
   exact ⟨k + 1, by omega, by omega, Ac (wk1 rfl (wk1 rfl (wk1 rfl (wk1 rfl (wk1 rfl wk0))))) (wh1 (by rw [← ones_step hk2]; exact Bo) (wh1 Z1 wh0)) nD⟩
  ·
   obtain rfl : k = 32 := by omega
   rw [show ((List.replicate 32 255 ++ List.replicate (32 - 32) 0) : List UInt8) = List.replicate 32 255 from rfl]
   refine .exit (A1 (A1 (B5 (Ae (.sr (.m J J J (.m J J J (.i1 J J J J Y77 Sz5 0 J dE (.s1 J J J J J Sz5 Z0 sP (by exact Bb _ _ _) zU ?_)))))))))
   refine .i1 J J J J Y77 Sz5 31 J dE (.s1 J J J J J Sz5 Z0 sP (by exact Bb _ _ _) zU ?_)
   refine .nsr (.lA J J J Y77 J Ad Z0 sP ?_)
   refine .sA J J J J zE Ad sP Z1 sP zV ?_
   refine .na (.ret (An ?_))
   refine ⟨_, [], Ao J J Y77 J Ad Z1 sP, sP, sP, ?_, rfl⟩
   rfl

theorem field_Pow (a e : List UInt8) (ha : a.length = 32) (he : e.length = 32) : Meets Tryz.prog 225 [agg (Aa a), agg (Aa e)] [] (fun _ => True) (fun v out => v = agg (Aa (fb (C0 (fe (le a)) (le e)))) ∧ out = []) := by
 intro W hW
 have hE : le e < 2 ^ 256 := le32 he
 have hXf : (ldN a).fit := (ldN_lt a).fit
 have hXv : fe (ldN a).v = fe (le a) := by rw [ldN_v ha]
 refine Ab Tryz.func225 J 26 Tryz.ntmps225 J (.sr (.boxA J J ?_))
 intro n2 hn2 hf2
 refine .boxA J J ?_
 intro n3 hn3 hf3
 refine .alloc (cs := (Aa (List.replicate 32 0))) J Bs J ?_
 intro n4 hn4 hf4
 refine .na (.seq (.draw [(1, 0), (1, 2), (0, 4), (3, 1), (3, 3), (2, 5), (2, 6), (2, 7), (4, 8), (4, 9), (4, 10)] Ar zK (.lA J J J Y77 J Ad Z2 (by (simp [ha]; done)) ?_)))
 refine .lA J J J Y77 J Ad Z1 (by (simp [he]; done)) ?_
 refine .build (cs := Af (⟨1, 0, 0, 0, 0⟩ : W5).l) J J J (fun w => by kernel_rfl) ?_
 refine .cV J J J J Body221 (field_load a ha) tV (.cV J J J J Body242 (field_quarters e he) tV (.alloc (cs := (Af (List.replicate 5 0))) J Zr197 J ?_))
 intro n5 hn5 hf5
 refine .alloc (cs := (Af (List.replicate 4 0))) J Zr156 J ?_
 intro n6 hn6 hf6
 refine .alloc (cs := (Af (List.replicate 5 0))) J Zr197 J ?_
 intro n7 hn7 hf7
 refine .sA J J J J zB Sz197 zW Z2 sP (by exact upd2) ?_
 refine .sA J J J J zB Sz156 sP Z1 sP zV ?_
 refine .sA J J J J zB Sz197 zW Z0 sP zU ?_
 refine .na (.seq (.sr (.m J J J (.na (.block (.loop (ι := PowS) (fun s => ⟨[(4, ptr n4 0), (5, ptr n5 0), (6, ptr n6 0), (7, ptr n7 0), (13, i64 (s.k : Int))], [⟨n7, Af s.p.l, 197, 5⟩, ⟨n6, Af [s.a, s.b, s.c, s.d], 156, 4⟩, ⟨n5, Af (ldN a).l, 197, 5⟩, ⟨n4, Aa (List.replicate 32 0), 77, 32⟩]⟩) (fun s => PowI (le e) (fe (le a)) s.k s.p s.a s.b s.c s.d) (fun s => 256 - s.k) (⟨0, ⟨1, 0, 0, 0, 0⟩, qw e 0, qw e 1, qw e 2, qw e 3⟩) ?_ ?_ ?_))))))
 · exact PowI.first he _
 · exact Ac (wk1 rfl (wk1 rfl (wk1 rfl (wk1 rfl (wk1 rfl wk0))))) (wh1 Z0 (wh1 Z1 (wh1 Z2 (wh1 Z3 wh0)))) nD
 ·
  rintro s hs
  have hsl := hs.le
  refine .sr (.lss J J J J J (.na (.seq (.condP J (fun hc0 => ?_) (fun hc0 => ?_)))))
  ·
   have hk2 : s.k < 256 := by omega
   refine .skip (Ae (.seq (.block (.sr (.cV J J J J Body222 (field_product n7 n7 s.p s.p) (fun w h => ⟨Ak h Z0, Ak h Z0⟩) ?_)))))
   refine .sA J J J J zB Sz197 zW Z0 zW zU ?_
   refine .na (.join (ι := W5) (fun u => ⟨[(4, ptr n4 0), (5, ptr n5 0), (6, ptr n6 0), (7, ptr n7 0), (13, i64 (s.k : Int))], [⟨n7, Af u.l, 197, 5⟩, ⟨n6, Af [s.a, s.b, s.c, s.d], 156, 4⟩, ⟨n5, Af (ldN a).l, 197, 5⟩, ⟨n4, Aa (List.replicate 32 0), 77, 32⟩]⟩) (fun u => PowI (le e) (fe (le a)) (s.k + 1) u (A2 s.a 1) (A2 s.b 1 ||| As s.a 63) (A2 s.c 1 ||| As s.b 63) (A2 s.d 1 ||| As s.c 63)) ?_ ?_)
   ·
    refine .sr (.i1 J J J J Y156 Ap 3 J dE (.load1 J J J Y22 J Z1 (by rfl) ?_))
    refine .shr_u64 J J J J 63 J dE (.eqi J J J J J (.na (.condP J (fun hc1 => ?_) (fun hc1 => ?_))))
    ·
     have hb1 : (As s.d 63).toNat = 1 := by omega
     refine .region (.cV J J J J Body222 (field_product n7 n5 (mulF s.p s.p) (ldN a)) (fun w h => ⟨Ak h Z0, Ak h Z2⟩) ?_)
     refine .sA J J J J zB Sz197 zW Z0 zW zU ?_
     refine .na ?_
     exact ⟨mulF (mulF s.p s.p) (ldN a), hs.odd hE hk2 hXf hXv hb1, Ac (wk1 rfl (wk1 rfl (wk1 rfl (wk1 rfl (wk1 rfl wk0))))) (wh1 Z0 (wh1 Z1 (wh1 Z2 (wh1 Z3 wh0)))) nD⟩
    ·
     have hb1 : ¬ (As s.d 63).toNat = 1 := by omega
     refine .skip (Ae ?_)
     exact ⟨mulF s.p s.p, hs.even hE hk2 hb1, Ac (wk1 rfl (wk1 rfl (wk1 rfl (wk1 rfl (wk1 rfl wk0))))) (wh1 Z0 (wh1 Z1 (wh1 Z2 (wh1 Z3 wh0)))) nD⟩
   ·
    intro u hj
    have hu := hj
    refine .region (.lA J J J Y156 J Sz156 Z1 sP ?_)
    refine .cV J J J J Body246 (field_shifted s.a s.b s.c s.d) tV (.sA J J J J zB Sz156 sP Z1 sP zV ?_)
    refine .nil (Bj (Ae (.region (.aI J J J J oM (.m J J J (.na ?_))))))
    exact ⟨⟨s.k + 1, u, _, _, _, _⟩, hu, by simp only []; omega, Ac (wk1 rfl (wk1 rfl (wk1 rfl (wk1 rfl (wk1 rfl wk0))))) (wh1 Z0 (wh1 Z1 (wh1 Z2 (wh1 Z3 wh0)))) nD⟩
  ·
   have hke : s.k = 256 := by omega
   have hfin : fe s.p.v = C0 (fe (le a)) (le e) := by rw [hke] at hs; exact hs.last
   refine .exit (A1 (A1 (B5 (Ae (.sr (.lA J J J Bi J Sz197 Z0 zW ?_))))))
   refine .cV J J J J Body223 (field_store s.p) tV (.sA J J J J zE Ad zF Z3 sP (by exact upd3) ?_)
   refine .na (.ret (An ?_))
   refine ⟨_, [], Ao J J Y77 J Ad Z3 (by simp [Aq]), sP, sP, ?_, rfl⟩
   rw [hfin]

theorem field_Inv (a : List UInt8) (ha : a.length = 32) : Meets Tryz.prog 175 [agg (Aa a)] [] (fun _ => True) (fun v out => v = agg (Aa (fb (finv (fe (le a))))) ∧ out = []) := by
 intro W hW
 refine Ab Tryz.func175 J 6 Tryz.ntmps175 J (.sr (.boxA J J ?_))
 intro n1 hn1 hf1
 refine .alloc (cs := (Aa (List.replicate 32 0))) J Bs J ?_
 intro n2 hn2 hf2
 refine .na (.seq (.draw [(1, 0), (3, 1), (3, 2), (4, 3)] Ar zK (.lA J J J Y77 J Ad Z1 (by (simp [ha]; done)) ?_)))
 refine .cV J J J J Body226 (field_ones 235 127) tV (.cV J J J J Body225 (field_Pow a (onesB 235 127) ha (onesB_length _ _)) tV (.sA J J J J zE Ad zF Z0 sP zU ?_))
 refine .na (.ret (An ?_))
 refine ⟨_, [], Ao J J Y77 J Ad Z0 (by simp [Aq]), sP, sP, ?_, rfl⟩
 rw [ones_inv]; rfl

end Go.Proofs.YtpacobmjjjillaaGreat
end

section
namespace Go.Proofs.YtpacobmjjjillaaGreat
open Go Hw

open Ed

theorem f_mul (x y : Fp) : Meets Tryz.prog 169 [agg (Aa (fb x)), agg (Aa (fb y))] [] (fun _ => True) (fun v out => v = agg (Aa (fb (x * y))) ∧ out = []) := by
  have h := field_Mul (fb x) (fb y) (Aq x) (Aq y)
  rwa [fe_fb x, fe_fb y] at h

theorem f_add (x y : Fp) : Meets Tryz.prog 172 [agg (Aa (fb x)), agg (Aa (fb y))] [] (fun _ => True) (fun v out => v = agg (Aa (fb (x + y))) ∧ out = []) := by
  have h := field_Add (fb x) (fb y) (Aq x) (Aq y)
  rwa [fe_fb x, fe_fb y] at h

theorem f_sub (x y : Fp) : Meets Tryz.prog 170 [agg (Aa (fb x)), agg (Aa (fb y))] [] (fun _ => True) (fun v out => v = agg (Aa (fb (x - y))) ∧ out = []) := by
  have h := field_Sub (fb x) (fb y) (Aq x) (Aq y)
  rwa [fe_fb x, fe_fb y] at h

theorem f_neg (x : Fp) : Meets Tryz.prog 176 [agg (Aa (fb x))] [] (fun _ => True) (fun v out => v = agg (Aa (fb (-x))) ∧ out = []) := by
  have h := field_Neg (fb x) (Aq x)
  rwa [fe_fb x] at h

theorem f_inv (x : Fp) : Meets Tryz.prog 175 [agg (Aa (fb x))] [] (fun _ => True) (fun v out => v = agg (Aa (fb (finv x))) ∧ out = []) := by
  have h := field_Inv (fb x) (Aq x)
  rwa [fe_fb x] at h

theorem f_odd (x : Fp) : Meets Tryz.prog 215 [agg (Aa (fb x))] [] (fun _ => True) (fun v out => v = .bool (decide (x.val % 2 = 1)) ∧ out = []) := by
  have h := field_Odd (fb x) (Aq x)
  rwa [fe_fb x] at h

theorem f_same_raw (x : Fp) (a : List UInt8) (ha : a.length = 32) : Meets Tryz.prog 227 [agg (Aa (fb x)), agg (Aa a)] [] (fun _ => True) (fun v out => v = .bool (decide (x = fe (le a))) ∧ out = []) := by
  have h := field_Same (fb x) a (Aq x) ha
  rwa [fe_fb x] at h
theorem f_pow_root (a : List UInt8) (ha : a.length = 32) : Meets Tryz.prog 225 [agg (Aa a), agg (Aa (onesB 254 15))] [] (fun _ => True) (fun v out => v = agg (Aa (fb (C0 (fe (le a)) ((PF + 3) / 8)))) ∧ out = []) := by
  have h := field_Pow a (onesB 254 15) ha (onesB_length _ _)
  rwa [ones_root] at h
theorem f_pow_unit : Meets Tryz.prog 225 [agg (Aa (fb (fe (2 : UInt64).toNat))), agg (Aa (onesB 251 31))] [] (fun _ => True) (fun v out => v = agg (Aa (fb (C0 (fe 2) ((PF - 1) / 4)))) ∧ out = []) := by
  have h := field_Pow (fb (fe (2 : UInt64).toNat)) (onesB 251 31) (Aq _) (onesB_length _ _)
  rwa [ones_unit, fe_fb] at h
theorem f_one : Meets Tryz.prog 171 [u64 1] [] (fun _ => True) (fun v out => v = agg (Aa (fb 1)) ∧ out = []) := by
  have h := field_Of 1
  rwa [show fe (1 : UInt64).toNat = 1 from rfl] at h

theorem field_Root (a : List UInt8) (X : Fp) (ha : a.length = 32) (hX : fe (le a) = X) : Meets Tryz.prog 174 [agg (Aa a)] [] (fun _ => True) (fun v out => v = .tuple #[agg (Aa (fb (fRoot X).1)), .bool (fRoot X).2] ∧ out = []) := by
 intro W hW
 obtain ⟨r0, hr0⟩ : ∃ r, C0 X ((PF + 3) / 8) = r := ⟨_, rfl⟩
 obtain ⟨un, hun⟩ : ∃ r, C0 (fe 2) ((PF - 1) / 4) = r := ⟨_, rfl⟩
 obtain ⟨r1, hr1⟩ : ∃ r, fRoot1 X = r := ⟨_, rfl⟩
 have hp0 := f_pow_root a ha
 have hpu := f_pow_unit
 rw [hX, hr0] at hp0
 rw [hun] at hpu
 have hm := fun y => f_same_raw y a ha
 rw [hX] at hm
 have hr1' : r1 = if r0 * r0 = X then r0 else r0 * un := by rw [← hr1, fRoot1, hr0, hun]
 have hR : fRoot X = if r1 * r1 = X then ((if r1.val % 2 = 1 then -r1 else r1), true) else (0, false) := by rw [fRoot, hr1]
 clear hr1
 refine Ab Tryz.func174 J 31 Tryz.ntmps174 J (.sr (.boxA J J ?_))
 intro n1 hn1 hf1
 refine .alloc (cs := (Aa (List.replicate 32 0))) J Bs J ?_
 intro n2 hn2 hf2
 refine .a J J J (.na (.seq (.draw [(1, 0), (3, 1), (3, 2), (2, 3), (4, 4)] Ar zK (.lA J J J Y77 J Ad Z1 (by (simp [ha]; done)) ?_))))
 refine .cV J J J J Body226 (field_ones 254 15) tV (.cV J J J J Body225 (hp0) tV (.alloc (cs := (Aa (List.replicate 32 0))) J Bs J ?_))
 intro n4 hn4 hf4
 refine .sA J J J J zE Ad zF Z0 sP zU ?_
 refine .na (.join (ι := Unit) (fun _u => ⟨[(1, ptr n1 0), (2, ptr n2 0), (4, ptr n4 0)], [⟨n4, Aa (fb r1), 77, 32⟩, ⟨n2, Aa (List.replicate 32 0), 77, 32⟩, ⟨n1, Aa a, 77, (Aa a).length⟩]⟩) (fun _u => True) ?_ ?_)
 ·
  refine .seq (.draw [(1, 0), (1, 1), (1, 3), (3, 2), (3, 4), (0, 5)] Ar zK (.lA J J J Y77 J Ad Z0 zF ?_))
  refine .lA J J J Y77 J Ad Z0 zF ?_
  refine .lA J J J Y77 J Ad Z2 (by (simp [ha]; done)) ?_
  refine .cV J J J J Cq (f_mul r0 r0) tV (.cV J J J J Body227 (hm (r0 * r0)) tV (.not J J J (.na (.condNP J (fun hc0 => ?_) (fun hc0 => ?_)))))
  ·
   refine .draw [(1, 0), (3, 1), (3, 2), (3, 3), (3, 4), (4, 5)] Ar zK (.lA J J J Y77 J Ad Z0 zF ?_)
   refine .cV J J J J Body171 (field_Of 2) tV (.cV J J J J Body226 (field_ones 251 31) tV (.cV J J J J Body225 (hpu) tV (.cV J J J J Cq (f_mul r0 un) tV (.sA J J J J zE Ad zF Z0 zF zU ?_))))
   refine .na ?_
   (rw [hr1', if_neg hc0]; exact ⟨(), trivial, Ac (wk1 rfl (wk1 rfl (wk1 rfl wk0))) (wh1 Z0 (wh1 Z1 (wh1 Z2 wh0))) nD⟩)
  ·
   refine .skip (Ae ?_)
   (rw [hr1', if_pos hc0]; exact ⟨(), trivial, Ac (wk1 rfl (wk1 rfl (wk1 rfl wk0))) (wh1 Z0 (wh1 Z1 (wh1 Z2 wh0))) nD⟩)
 ·
  intro _u hj
  skip
  refine .seq (.seq (.draw [(1, 0), (1, 1), (1, 3), (3, 2), (3, 4), (0, 5)] Ar zK (.lA J J J Y77 J Ad Z0 zF ?_)))
  refine .lA J J J Y77 J Ad Z0 zF ?_
  refine .lA J J J Y77 J Ad Z2 (by (simp [ha]; done)) ?_
  refine .cV J J J J Cq (f_mul r1 r1) tV (.cV J J J J Body227 (hm (r1 * r1)) tV (.not J J J (.na (.condNP J (fun hc1 => ?_) (fun hc1 => ?_)))))
  ·
   refine .sr (.build (cs := Aa (List.replicate 32 0)) J J J (fun w => by kernel_rfl) ?_)
   refine .sA J J J J zE Ad sP Z1 sP zV ?_
   refine .a J J J (.na (.ret (Bg (An ?_))))
   refine ⟨_, [], A0 J J J Y77 J Ad Z1 sP, sP, sP, ?_, rfl⟩
   (rw [hR, if_neg hc1, fb_zero]; done)
  ·
   refine .skip (Ae (.join (ι := Unit) (fun _u => ⟨[(2, ptr n2 0), (4, ptr n4 0)], [⟨n4, Aa (fb (if r1.val % 2 = 1 then -r1 else r1)), 77, 32⟩, ⟨n2, Aa (List.replicate 32 0), 77, 32⟩]⟩) (fun _u => True) ?_ ?_))
   ·
    refine .sr (.lA J J J Y77 J Ad Z0 zF ?_)
    refine .cV J J J J Body215 (f_odd r1) tV (.na (.condP J (fun hc2 => ?_) (fun hc2 => ?_)))
    ·
     refine .region (.lA J J J Y77 J Ad Z0 zF ?_)
     refine .cV J J J J Body176 (f_neg r1) tV (.sA J J J J zE Ad zF Z0 zF zU ?_)
     refine .na ?_
     (rw [if_pos hc2]; exact ⟨(), trivial, Ac (wk1 rfl (wk1 rfl wk0)) (wh1 Z0 (wh1 Z1 wh0)) nD⟩)
    ·
     refine .skip (Ae ?_)
     (rw [if_neg hc2]; exact ⟨(), trivial, Ac (wk1 rfl (wk1 rfl wk0)) (wh1 Z0 (wh1 Z1 wh0)) nD⟩)
   ·
    intro _u hj
    skip
    refine .sr (.lA J J J Y77 J Ad Z0 zF ?_)
    refine .sA J J J J zE Ad zF Z1 sP zV ?_
    refine .a J J J (.na (.ret (An ?_)))
    refine ⟨_, [], A0 J J J Y77 J Ad Z1 (by simp [Aq]), sP, sP, ?_, rfl⟩
    (rw [hR, if_pos hc1]; done)

end Go.Proofs.YtpacobmjjjillaaGreat
end

section
namespace Ed
open Hw Go

theorem C3 (x : Fp) : (fb x).length = 32 := Aq x
def pb (P : Pt Fp) : List UInt8 := if P.x.val % 2 = 1 then (fb P.y).set 31 ((fb P.y).getD 31 0 ||| 128) else fb P.y
theorem Bz (P : Pt Fp) : (pb P).length = 32 := by
  unfold pb
  split
  · rw [List.length_set, Aq]
  · exact Aq _
def topB (b : List UInt8) : Bool := !decide (((b.getD 31 0 &&& 128).toNat : Int) = 0)
def lowB (b : List UInt8) : List UInt8 := b.set 31 (b.getD 31 0 &&& 127)
theorem lowB_length {b : List UInt8} (h : b.length = 32) : (lowB b).length = 32 := by rw [lowB, List.length_set, h]
def xOf (Y : Fp) : Fp × Bool := fRoot ((Y * Y - 1) * finv (fD * (Y * Y) + 1))
def rdP (b : List UInt8) : Option (Pt Fp) :=
  if fb (fe (le (lowB b))) = lowB b then
    (if (xOf (fe (le (lowB b)))).2 = true ∧ ¬ (topB b = true ∧ (xOf (fe (le (lowB b)))).1 = 0) then
      some ⟨if topB b = true then - (xOf (fe (le (lowB b)))).1 else (xOf (fe (le (lowB b)))).1, fe (le (lowB b))⟩
    else none)
  else none
theorem fRoot_sq {X : Fp} (h : (fRoot X).2 = true) : (fRoot X).1 * (fRoot X).1 = X := by
  unfold fRoot at h ⊢
  by_cases h1 : fRoot1 X * fRoot1 X = X
  · rw [if_pos h1]
    simp only
    split
    · rw [sq_neg, h1]
    · exact h1
  · rw [if_neg h1] at h; cases h
theorem xOf_on {Y : Fp} (h : (xOf Y).2 = true) : cv.on ⟨(xOf Y).1, Y⟩ :=
  cv.on_read (finv_mul (cv.below_ne Y)) (fRoot_sq h)
theorem neg_mk (x y : Fp) : neg ⟨x, y⟩ = ⟨-x, y⟩ := rfl
theorem rdP_on {b : List UInt8} {P : Pt Fp} (h : rdP b = some P) : cv.on P := by
  unfold rdP at h
  split at h
  · split at h
    · rename_i h1 h2
      simp only [Option.some.injEq] at h
      subst h
      have := xOf_on h2.1
      split
      · have h3 := cv.on_neg this
        rw [neg_mk] at h3
        exact h3
      · exact this
    · cases h
  · cases h
def pchk (x y : List UInt8) : Int := if fb (fe (le x)) = x ∧ fb (fe (le y)) = y ∧ fe (le y) * fe (le y) - fe (le x) * fe (le x) = 1 + fD * (fe (le x) * fe (le x) * (fe (le y) * fe (le y))) then 0 else 2
theorem pchk_on {P : Pt Fp} (h : cv.on P) : pchk (fb P.x) (fb P.y) = 0 := by
  have h1 := (cv.on_iff P).1 h
  unfold pchk
  rw [fe_fb, fe_fb]
  exact if_pos (And.intro (Eq.refl (fb P.x)) (And.intro (Eq.refl (fb P.y)) h1))
def bX : List UInt8 := [26, 213, 37, 143, 96, 45, 86, 201, 178, 167, 37, 149, 96, 199, 44, 105, 92, 220, 214, 253, 49, 226, 164, 192, 254, 83, 110, 205, 211, 54, 105, 33]
def bY : List UInt8 := (List.replicate 32 102).set 0 88
def bP : Pt Fp := ⟨fe (le bX), fe (le bY)⟩
theorem bP_x : fb bP.x = bX := by kernel_rfl
theorem bP_y : fb bP.y = bY := by kernel_rfl
theorem bP_on : cv.on bP := by
  show bP.y * bP.y - bP.x * bP.x = 1 + fD * bP.x * bP.x * bP.y * bP.y
  kernel_rfl
theorem lin_step (a b j : Nat) (hj : j < 256) {P Q : Pt Fp} (hP : cv.on P) (hQ : cv.on Q) : cv.lin (a / 2 ^ (256 - (j + 1))) (b / 2 ^ (256 - (j + 1))) P Q =
    (if a.testBit (255 - j) then (if b.testBit (255 - j) then cv.add (cv.add (cv.lin (a / 2 ^ (256 - j)) (b / 2 ^ (256 - j)) P Q) (cv.lin (a / 2 ^ (256 - j)) (b / 2 ^ (256 - j)) P Q)) (cv.add P Q) else cv.add (cv.add (cv.lin (a / 2 ^ (256 - j)) (b / 2 ^ (256 - j)) P Q) (cv.lin (a / 2 ^ (256 - j)) (b / 2 ^ (256 - j)) P Q)) P)
     else (if b.testBit (255 - j) then cv.add (cv.add (cv.lin (a / 2 ^ (256 - j)) (b / 2 ^ (256 - j)) P Q) (cv.lin (a / 2 ^ (256 - j)) (b / 2 ^ (256 - j)) P Q)) Q else cv.add (cv.lin (a / 2 ^ (256 - j)) (b / 2 ^ (256 - j)) P Q) (cv.lin (a / 2 ^ (256 - j)) (b / 2 ^ (256 - j)) P Q))) := by
  have ha := next_div a j hj
  have hb := next_div b j hj
  rw [ha, hb]
  have e : ∀ n : Nat, n.testBit (255 - j) = decide (n / 2 ^ (255 - j) % 2 = 1) := fun n => Nat.testBit_eq_decide_div_mod_eq
  rw [e a, e b]
  rw [← cv.lin_two hP hQ]
  generalize a / 2 ^ (256 - j) = A
  generalize b / 2 ^ (256 - j) = B
  have h1 : a / 2 ^ (255 - j) % 2 = 0 ∨ a / 2 ^ (255 - j) % 2 = 1 := by omega
  have h2 : b / 2 ^ (255 - j) % 2 = 0 ∨ b / 2 ^ (255 - j) % 2 = 1 := by omega
  rcases h1 with h1 | h1 <;> rcases h2 with h2 | h2 <;> rw [h1, h2]
  · rfl
  · exact cv.lin_right hP hQ _ _
  · exact cv.lin_left hP hQ _ _
  · exact cv.lin_both hP hQ _ _
theorem lin_tt {a b j : Nat} (hj : j < 256) {P Q : Pt Fp} (hP : cv.on P) (hQ : cv.on Q) (h1 : a.testBit (255 - j) = true) (h2 : b.testBit (255 - j) = true) : cv.lin (a / 2 ^ (256 - (j + 1))) (b / 2 ^ (256 - (j + 1))) P Q = cv.add (cv.add (cv.lin (a / 2 ^ (256 - j)) (b / 2 ^ (256 - j)) P Q) (cv.lin (a / 2 ^ (256 - j)) (b / 2 ^ (256 - j)) P Q)) (cv.add P Q) := by
  rw [lin_step a b j hj hP hQ, h1, h2]; rfl
theorem lin_tf {a b j : Nat} (hj : j < 256) {P Q : Pt Fp} (hP : cv.on P) (hQ : cv.on Q) (h1 : a.testBit (255 - j) = true) (h2 : b.testBit (255 - j) = false) : cv.lin (a / 2 ^ (256 - (j + 1))) (b / 2 ^ (256 - (j + 1))) P Q = cv.add (cv.add (cv.lin (a / 2 ^ (256 - j)) (b / 2 ^ (256 - j)) P Q) (cv.lin (a / 2 ^ (256 - j)) (b / 2 ^ (256 - j)) P Q)) P := by
  rw [lin_step a b j hj hP hQ, h1, h2]; rfl
theorem lin_ft {a b j : Nat} (hj : j < 256) {P Q : Pt Fp} (hP : cv.on P) (hQ : cv.on Q) (h1 : a.testBit (255 - j) = false) (h2 : b.testBit (255 - j) = true) : cv.lin (a / 2 ^ (256 - (j + 1))) (b / 2 ^ (256 - (j + 1))) P Q = cv.add (cv.add (cv.lin (a / 2 ^ (256 - j)) (b / 2 ^ (256 - j)) P Q) (cv.lin (a / 2 ^ (256 - j)) (b / 2 ^ (256 - j)) P Q)) Q := by
  rw [lin_step a b j hj hP hQ, h1, h2]; rfl
theorem lin_ff {a b j : Nat} (hj : j < 256) {P Q : Pt Fp} (hP : cv.on P) (hQ : cv.on Q) (h1 : a.testBit (255 - j) = false) (h2 : b.testBit (255 - j) = false) : cv.lin (a / 2 ^ (256 - (j + 1))) (b / 2 ^ (256 - (j + 1))) P Q = cv.add (cv.lin (a / 2 ^ (256 - j)) (b / 2 ^ (256 - j)) P Q) (cv.lin (a / 2 ^ (256 - j)) (b / 2 ^ (256 - j)) P Q) := by
  rw [lin_step a b j hj hP hQ, h1, h2]; rfl
theorem lin_first (a b : List UInt8) (ha : a.length = 32) (hb : b.length = 32) (P Q : Pt Fp) : (Wd.of (zero : Pt Fp)).rep (cv.lin (le a / 2 ^ (256 - 0)) (le b / 2 ^ (256 - 0)) P Q) := by
  have h1 := le32 ha
  have h2 := le32 hb
  rw [show 256 - 0 = 256 from rfl, Nat.div_eq_of_lt h1, Nat.div_eq_of_lt h2, cv.lin_zero]
  exact cv.rep_of zero
theorem lin_last (a b : Nat) (P Q : Pt Fp) : cv.lin (a / 2 ^ (256 - 256)) (b / 2 ^ (256 - 256)) P Q = cv.lin a b P Q := by rw [Nat.sub_self, Nat.pow_zero, Nat.div_one, Nat.div_one]
theorem lin_one (a : Nat) (P : Pt Fp) : cv.lin a 0 P zero = cv.mul a P := cv.add_zero _
def eight (P : Pt Fp) : Pt Fp := cv.add (cv.add (cv.add P P) (cv.add P P)) (cv.add (cv.add P P) (cv.add P P))
end Ed
end

section
namespace Hw
open Go
set_option maxRecDepth 100000

theorem lt_sp {n a b c : Nat} (h : n < 2 ^ c) (hc : a + b = c) : n < 2 ^ a * 2 ^ b := by subst hc; rw [← Nat.pow_add]; exact h
theorem top_sp {n a b c : Nat} (h : n < 2 ^ c) (hc : a + b = c) : n / 2 ^ a % 2 ^ b = n / 2 ^ a := Nat.mod_eq_of_lt (Nat.div_lt_of_lt_mul (lt_sp h hc))
theorem le_2p {a c : Nat} (h : a ≤ c) : 2 ^ a ≤ 2 ^ c := Nat.pow_le_pow_right (by decide) h
theorem pos_2p (c : Nat) : 0 < 2 ^ c := Nat.pow_pos (by decide)
def words8 (n : Nat) : List UInt64 := [448, 384, 320, 256, 192, 128, 64, 0].map fun e => w64 (n / 2 ^ e)
theorem words8_length (n : Nat) : (words8 n).length = 8 := rfl
theorem words8_zero : words8 0 = List.replicate 8 0 := by
  simp only [words8, List.map_cons, List.map_nil, Nat.zero_div]; rfl
theorem wvo8 (a b c d e f g h : UInt64) : wv [a, b, c, d, e, f, g, h] = ((((((a.toNat * 2 ^ 64 + b.toNat) * 2 ^ 64 + c.toNat) * 2 ^ 64 + d.toNat) * 2 ^ 64 + e.toNat) * 2 ^ 64 + f.toNat) * 2 ^ 64 + g.toNat) * 2 ^ 64 + h.toNat := by
  simp [wv]
theorem horner (n k : Nat) : n / 2 ^ (k + 64) * 2 ^ 64 + n / 2 ^ k % 2 ^ 64 = n / 2 ^ k := by
  rw [Nat.pow_add, ← Nat.div_div_eq_div_mul, Nat.mul_comm]
  exact Nat.div_add_mod _ _
theorem horn2 {n k m : Nat} (h : k + 64 = m) : n / 2 ^ m * 2 ^ 64 + n / 2 ^ k % 2 ^ 64 = n / 2 ^ k := by subst h; exact horner n k
theorem wv_words8 {n : Nat} (h : n < 2 ^ 512) : wv (words8 n) = n := by
  simp only [words8, List.map_cons, List.map_nil]
  rw [wvo8]
  simp only [Bl]
  have h0 := top_sp (a := 448) (b := 64) h rfl
  rw [h0, horn2 (k := 384) (m := 448) rfl, horn2 (k := 320) (m := 384) rfl, horn2 (k := 256) (m := 320) rfl, horn2 (k := 192) (m := 256) rfl, horn2 (k := 128) (m := 192) rfl, horn2 (k := 64) (m := 128) rfl, horn2 (k := 0) (m := 64) rfl, Nat.pow_zero, Nat.div_one]
theorem words8_get (n : Nat) : ∀ j, j < 8 → (words8 n)[7 - j]? = some (w64 (n / 2 ^ (64 * j))) := fun j hj => by
  have e : ∀ j, j < 8 → ([448, 384, 320, 256, 192, 128, 64, 0] : List Nat)[7 - j]? = some (64 * j) := by decide
  rw [words8, List.getElem?_map, e j hj]; rfl
theorem pow256 (k : Nat) : 256 ^ k = 2 ^ (8 * k) := by rw [show (256 : Nat) = 2 ^ 8 by decide, ← Nat.pow_mul]
theorem words8_step (n k : Nat) (x : UInt8) (hn : n < 256 ^ k) (hk : k < 64) :
    words8 (n + 256 ^ k * x.toNat) = (words8 n).set (7 - k / 8) ((words8 n).getD (7 - k / 8) 0 ||| A2 x.toUInt64 (8 * (k % 8))) := by
  have hx := x.toNat_lt
  apply List.ext_getElem?
  intro i
  rcases Nat.lt_or_ge i 8 with hi | hi
  · obtain ⟨j, hj, rfl⟩ : ∃ j, j < 8 ∧ i = 7 - j := ⟨7 - i, by omega, by omega⟩
    rw [words8_get _ j hj, List.getElem?_set, List.getD, words8_get _ (k / 8) oM, Option.getD_some]
    rw [pow256] at hn
    rcases Nat.lt_trichotomy j (k / 8) with h | h | h
    · rw [if_neg oM, words8_get _ j hj, pow256]
      congr 1
      apply UInt64.toNat_inj.1
      rw [Bl, Bl]
      have e : 2 ^ (8 * k) * x.toNat = 2 ^ (64 * j) * (2 ^ 64 * (2 ^ (8 * k - 64 * j - 64) * x.toNat)) := by
        rw [← Nat.mul_assoc, ← Nat.mul_assoc, ← Nat.pow_add, ← Nat.pow_add]
        congr 2; omega
      rw [e, Nat.add_mul_div_left _ _ (Nat.pow_pos dE), Nat.add_mul_mod_self_left]
    · subst h
      rw [if_pos rfl, if_pos (by rw [words8_length]; omega), pow256]
      congr 1
      apply UInt64.toNat_inj.1
      rw [UInt64.toNat_or, Cf, Bl, Bl, UInt8.toNat_toUInt64]
      have e : 2 ^ (8 * k) * x.toNat = 2 ^ (64 * (k / 8)) * (2 ^ (8 * (k % 8)) * x.toNat) := by
        rw [← Nat.mul_assoc, ← Nat.pow_add]
        congr 2; omega
      have hl : n / 2 ^ (64 * (k / 8)) < 2 ^ (8 * (k % 8)) := by
        apply Nat.div_lt_of_lt_mul
        rw [← Nat.pow_add]
        rw [show 64 * (k / 8) + 8 * (k % 8) = 8 * k by omega]; exact hn
      have hm : 8 * (k % 8) ≤ 56 := by omega
      have h8 : 2 ^ (8 * (k % 8)) ≤ 2 ^ 56 := Nat.pow_le_pow_right dE hm
      have hb : x.toNat * 2 ^ (8 * (k % 8)) < 2 ^ 64 := by
        calc x.toNat * 2 ^ (8 * (k % 8)) ≤ x.toNat * 2 ^ 56 := Nat.mul_le_mul_left _ h8
          _ < 2 ^ 64 := by omega
      rw [e, Nat.add_mul_div_left _ _ (Nat.pow_pos dE), Nat.mod_eq_of_lt hb, Nat.mod_eq_of_lt (Nat.lt_of_lt_of_le hl (Nat.le_trans h8 dE))]
      rw [Nat.mul_comm x.toNat, Nat.or_comm, ← Nat.two_pow_add_eq_or_of_lt hl, Nat.add_comm, Nat.mod_eq_of_lt]
      calc 2 ^ (8 * (k % 8)) * x.toNat + n / 2 ^ (64 * (k / 8)) < 2 ^ (8 * (k % 8)) * (x.toNat + 1) := by rw [Nat.mul_add]; omega
        _ ≤ 2 ^ (8 * (k % 8)) * 2 ^ 8 := Nat.mul_le_mul_left _ hx
        _ = 2 ^ (8 * (k % 8) + 8) := by rw [Nat.pow_add]
        _ ≤ 2 ^ 64 := Nat.pow_le_pow_right dE oM
    · rw [if_neg oM, words8_get _ j hj, pow256]
      congr 1
      have hp : 2 ^ (8 * (k + 1)) ≤ 2 ^ (64 * j) := Nat.pow_le_pow_right dE oM
      have h1 : n + 2 ^ (8 * k) * x.toNat < 2 ^ (8 * (k + 1)) := by
        rw [show 8 * (k + 1) = 8 * k + 8 by omega, Nat.pow_add]
        calc n + 2 ^ (8 * k) * x.toNat < 2 ^ (8 * k) * (x.toNat + 1) := by rw [Nat.mul_add]; omega
          _ ≤ 2 ^ (8 * k) * 2 ^ 8 := Nat.mul_le_mul_left _ hx
      rw [Nat.div_eq_of_lt (Nat.lt_of_lt_of_le h1 hp), Nat.div_eq_of_lt (Nat.lt_of_lt_of_le (Nat.lt_of_le_of_lt (Nat.le_add_right _ _) h1) hp)]
  · rw [List.getElem?_eq_none (by rw [words8_length]; exact hi), List.getElem?_eq_none (by rw [List.length_set, words8_length]; exact hi)]

theorem le_take_succ (l : List UInt8) (k : Nat) (h : k < l.length) : le (l.take (k + 1)) = le (l.take k) + 256 ^ k * (l.getD k 0).toNat := by
  rw [List.take_succ_eq_append_getElem h, le_append, List.length_take, Nat.min_eq_left oM]
  simp [le, List.getD, h]
theorem le_take_lt (l : List UInt8) (k : Nat) : le (l.take k) < 256 ^ k := by
  refine Nat.lt_of_lt_of_le (le_lt _) (Nat.pow_le_pow_right dE ?_)
  rw [List.length_take]; omega
theorem take_512 (l : List UInt8) (k : Nat) (h : k ≤ 64) : le (l.take k) < 2 ^ 512 := by
  refine Nat.lt_of_lt_of_le (le_take_lt l k) ?_
  rw [pow256]; exact le_2p (c := 512) (by omega)
theorem L_pos : 0 < L := by decide
theorem L_lt : L < 2 ^ 256 := by decide
theorem le_leb32 {n : Nat} (h : n < 2 ^ 256) : le (leb 32 n) = n := by
  rw [le_leb]; exact Nat.mod_eq_of_lt h
theorem lm (n : Nat) : n % L < 2 ^ 256 := Nat.lt_trans (Nat.mod_lt _ L_pos) L_lt
theorem le_byte (l : List UInt8) (k : Nat) : (l.getD k 0).toNat = le l / 256 ^ k % 256 := by
  rcases Nat.lt_or_ge k l.length with h | h
  · rw [le_drop l k (Nat.le_of_lt h)]
    have : l.drop k = l.getD k 0 :: l.drop (k + 1) := by
      rw [List.getD_eq_getElem?_getD, List.getElem?_eq_getElem h]
      exact List.drop_eq_getElem_cons h
    rw [this, le]
    have := (l.getD k 0).toNat_lt
    omega
  · rw [List.getD_eq_getElem?_getD, List.getElem?_eq_none h, Nat.div_eq_of_lt (Nat.lt_of_lt_of_le (le_lt l) (Nat.pow_le_pow_right dE h))]
    rfl
theorem le_bit (l : List UInt8) (k : Nat) : (l.getD (k / 8) 0).toNat / 2 ^ (k % 8) % 2 = le l / 2 ^ k % 2 := by
  rw [le_byte, pow256, show (256 : Nat) = 2 ^ (k % 8) * 2 ^ (8 - k % 8) by rw [← Nat.pow_add, show k % 8 + (8 - k % 8) = 8 by omega], Nat.mod_mul_right_div_self, Nat.div_div_eq_div_mul, ← Nat.pow_add, show 8 * (k / 8) + k % 8 = k by omega]
  exact Nat.mod_mod_of_dvd _ ⟨2 ^ (8 - k % 8 - 1), by rw [← Nat.pow_succ']; congr 1; omega⟩
theorem bit_and (l : List UInt8) (k : Nat) : (decide (((shr8 (l.getD (k / 8) 0) (k % 8) &&& 1).toNat : Int) = 1)) = (le l).testBit k := by
  rw [UInt8.toNat_and, shr8_toNat, show (1 : UInt8).toNat = 2 ^ 1 - 1 by decide, Nat.and_two_pow_sub_one_eq_mod, Nat.pow_one, le_bit, Nat.testBit_eq_decide_div_mod_eq]
  congr 1
  apply propext; omega
theorem bit_rem (l : List UInt8) (k : Nat) : (decide (((UInt8.ofNat ((shr8 (l.getD (k / 8) 0) (k % 8)).toNat % 2)).toNat : Int) = 1)) = (le l).testBit k := by
  rw [shr8_toNat, le_bit, UInt8.toNat_ofNat', Nat.testBit_eq_decide_div_mod_eq]
  congr 1
  apply propext; omega
end Hw
end

section
namespace Go.Proofs.YtpacobmjjjillaaGreat
open Go Hw

theorem scalar_canon (a : List UInt8) (ha : a.length = 32) : Meets Tryz.prog 107 [agg (Aa a)] [] (fun _ => True) (fun v out => v = .bool (decide (le a < L)) ∧ out = []) := by
 intro W hW
 refine Ab Tryz.func107 J 7 Tryz.ntmps107 J (.sr (.boxA J J ?_))
 intro n1 hn1 hf1
 refine .a J J J (.nsr (.lA J J J Y77 J Ad Z0 (by (simp [ha]; done)) ?_))
 refine .cV J J J J Body162 (scalar_load_n _ (by simp [ha])) tV ?_
 refine .cV J J J J Body167 (scalar_modulus_n) tV (.cV J J J J Body166 (scalar_below_n _ _ (le32 ha) L_lt) tV (.a J J J (.na (.ret (An ?_)))))
 refine ⟨_, [], Ag J J, sP, sP, ?_, rfl⟩
 rfl

theorem scalar_rest (b o c n : Nat) (xs : List UInt8) (hx : xs.length = n) (hn : n ≤ 64) : Meets Tryz.prog 161 [.slice (some ⟨b, o, none⟩) n c] [] (fun W => Cc W b o (Aa xs)) (fun v out => v = .tuple #[agg (Aa (leb 32 (le xs % L))), i64 0] ∧ out = []) := by
 intro W hW
 refine Ab Tryz.func161 J 34 Tryz.ntmps161 J (.sr (.alloc (cs := (Aa (List.replicate 32 0))) J Bs J ?_))
 intro n2 hn2 hf2
 refine .a J J J (.na (.seq (.sr (.m J J J (.lenSl J J J Y39 (.gtr J J J J (decide_eq_false oM) (.na (.cond_f J (rfl) (.skip (Ae (.sr (.alloc (cs := (Af (List.replicate 8 0))) J Zr135 J ?_))))))))))))
 intro n4 hn4 hf4
 refine .na (.seq (.sr (.m J J J (.lenSl J J J Y39 (.m J J J (.na (.block (.loop (ι := Nat) (fun k => ⟨[(2, ptr n2 0), (4, ptr n4 0), (11, .slice (some ⟨b, o, none⟩) n c), (12, i64 (n : Int)), (13, i64 (k : Int))], [⟨n4, Af (words8 (le (xs.take k))), 135, 8⟩, ⟨n2, Aa (List.replicate 32 0), 77, 32⟩]⟩) (fun k => k ≤ n) (fun k => n - k) (0) ?_ ?_ ?_))))))))
 · omega
 · exact Ac (wk1 rfl (wk1 rfl (wk1 rfl (wk1 rfl (wk1 rfl wk0))))) (wh1 (by rw [List.take_zero, show le [] = 0 from rfl, words8_zero]; exact Bo) (wh1 Z1 wh0)) nD
 ·
  rintro k hi
  refine .sr (.lss J J J J J (.na (.seq (.condP J (fun hc1 => ?_) (fun hc1 => ?_)))))
  ·
   refine .skip (Ae (.seq (.block (.sr (.m J J J (.idxSlO J J J J Y39 Sz5 _ J oM (.loadE J J J Y5 J sP (hW _ _ (B0 oM)) (.a J J J (.a J J J (.na (.draw [(0, 0), (0, 1), (0, 2), (0, 3), (1, 4), (0, 5), (0, 6), (0, 7), (0, 8), (0, 9), (0, 10), (0, 11), (0, 12), (4, 13)] Ar zK (.m J J J (.quo_i64 J J J J oM (.sub_i64 J J J J oM (.i1 J J J J Dc Ap (7 - k / 8) oM oM (.load1 J J J Y22 J Z0 (by exact A3 (by (simp [words8_length]; omega))) ?_))))))))))))))))
   refine .m J J J (.conv J J J Y5 Y22 (Cu _) (.m J J J (.rem_i64 J J J J oM (.mul_i64 J J J J oM (.shl_u64 J J J J (8 * (k % 8)) oM oM (.or_u64 J J J J (.i1 J J J J Dc Ap (7 - k / 8) oM oM (.s1 J J J J J Ap Z0 (by (simp [words8_length]; omega)) (by exact A9 _ _ _) zU ?_))))))))
   refine .nil (Bj (Ae (.region (.aI J J J J oM (.m J J J (.na ?_))))))
   exact ⟨k + 1, by omega, by omega, Ac (wk1 rfl (wk1 rfl (wk1 rfl (wk1 rfl (wk1 rfl wk0))))) (wh1 (by rw [le_take_succ xs k oM, words8_step _ _ _ (le_take_lt xs k) oM]; exact Bo) (wh1 Z1 wh0)) nD⟩
  ·
   obtain rfl : k = n := by omega
   refine .exit (A1 (A1 (B5 (Ae (.sr (.sliceArr J J J Dc Ap (.cV J J J J Body165 (scalar_residue _ _ _ 8 (words8 (le (xs.take k))) J oM) (fun W h => Ak h Z0) ?_)))))))
   refine .sA J J J J zB Ad (by (simp [Aj]; done)) Z1 sP zV ?_
   refine .a J J J (.na (.ret (An ?_)))
   refine ⟨_, [], A0 J J J Y77 J Ad Z1 (by simp [Aj]), sP, sP, ?_, rfl⟩
   rw [wv_words8 (take_512 xs k oM), List.take_of_length_le oM]

theorem scalar_bit_at (a : List UInt8) (ha : a.length = 32) (k : Nat) (hk : k < 256) : Meets Tryz.prog 182 [agg (Aa a), i64 (k : Int)] [] (fun _ => True) (fun v out => v = .bool ((le a).testBit k) ∧ out = []) := by
 intro W hW
 refine Ab Tryz.func182 J 22 Tryz.ntmps182 J (.sr (.boxA J J ?_))
 intro n2 hn2 hf2
 refine .a J J J (.nsr (.m J J J (.geq J J J J (decide_eq_true oM) (.m J J J (.m J J J (.lss J J J J (decide_eq_true oM) (.pick J J J J J J (.m J J J (.m J J J (.quo_i64 J J J J oM (.i1 J J J J Y77 Sz5 (k / 8) oM oM (.load1 J J J Y5 J Z0 zG ?_))))))))))))
 refine .m J J J (.rem_i64 J J J J oM (.shr_u8 J J J J (k % 8) oM oM (.and_u8 J J J (show Ah _ _ = some (u8 1) from rfl) (.eqi J J J J J (.pick J J J J J J (.a J J J (.na (.ret (An ?_)))))))))
 refine ⟨_, [], Ag J J, sP, sP, ?_, rfl⟩
 rw [← bit_and a k]; rfl

end Go.Proofs.YtpacobmjjjillaaGreat
end

section
namespace Go.Proofs.YtpacobmjjjillaaGreat
open Go Hw

open Ed

def ptc (P : Pt Fp) : Point := ⟨fb P.x, fb P.y⟩
def wdc (w : Wd Fp) : wide := ⟨fb w.x, fb w.y, fb w.z, fb w.t⟩
theorem ptc_ok (P : Pt Fp) : (ptc P).ok := ⟨C3 _, C3 _⟩
theorem Bx (w : Wd Fp) : (wdc w).ok := ⟨C3 _, C3 _, C3 _, C3 _⟩
theorem sees_subC {w : World} {b o off : Nat} {cs l : List Value} (hs : Cc w b o cs) (h : ∀ (j : Nat) (v : Value), l[j]? = some v → cs[off + j]? = some v) : Cc w b (o + off) l := fun j v hj => by
  have := hs _ v (h j v hj)
  rwa [← Nat.add_assoc] at this
theorem ptc_inj {P Q : Pt Fp} : ptc P = ptc Q ↔ P = Q := ⟨fun h => by
  obtain ⟨x, y⟩ := P
  obtain ⟨z, w⟩ := Q
  simp only [ptc, Point.mk.injEq, fb_inj] at h
  rw [h.1, h.2], fun h => by rw [h]⟩

theorem curve_D  : Meets Tryz.prog 173 [] [] (fun _ => True) (fun v out => v = agg (Aa (fb fD)) ∧ out = []) := by
 intro W hW
 refine Ab Tryz.func173 J 2 Tryz.ntmps173 J (.sr (.alloc (cs := (Aa (List.replicate 32 0))) J Bs J ?_))
 intro n0 hn0 hf0
 refine .nsr (.build (cs := Aa (fb fD)) J J J (fun w => by kernel_rfl) ?_)
 refine .sA J J J J zE Ad zF Z0 sP zU ?_
 refine .na (.ret (An ?_))
 refine ⟨_, [], Ao J J Y77 J Ad Z0 (by simp [Aq]), sP, sP, ?_, rfl⟩
 rfl

theorem curve_Zero  : Meets Tryz.prog 178 [] [] (fun _ => True) (fun v out => v = agg (ptc (zero : Pt Fp)).cells ∧ out = []) := by
 intro W hW
 refine Ab Tryz.func178 J 3 Tryz.ntmps178 J (.sr (.alloc (cs := Point.zero.cells) J Point.zr J ?_))
 intro n0 hn0 hf0
 refine .nsr (.cV J J J J Body171 (f_one) tV (.build (cs := (⟨fb 0, fb 1⟩ : Point).cells) J J J (fun w => by kernel_rfl) ?_))
 refine .sA J J J J (Point.isCell (by exact ⟨C3 _, C3 _⟩)) B9 (Point.length (by exact ⟨C3 _, C3 _⟩)) Z0 (Point.length zZ) zU ?_
 refine .na (.ret (An ?_))
 refine ⟨_, [], Ao J J Y79 J B9 Z0 (by exact Point.length (by exact ⟨C3 _, C3 _⟩)), sP, sP, ?_, rfl⟩
 rfl

theorem base_len {k : Nat} (h : k ≤ 32) : (Aa (bX ++ (List.replicate k 102 ++ List.replicate (32 - k) 0))).length = 64 := by
  rw [Aa, List.length_map, List.length_append, List.length_append, List.length_replicate, List.length_replicate, show bX.length = 32 from rfl]; omega
theorem base_step {k : Nat} (h : k < 32) : (bX ++ (List.replicate k (102 : UInt8) ++ List.replicate (32 - k) 0)).set (32 + k) 102 = bX ++ (List.replicate (k + 1) 102 ++ List.replicate (32 - (k + 1)) 0) := by
  rw [List.set_append_right _ _ (by rw [show bX.length = 32 from rfl]; omega), show bX.length = 32 from rfl, show 32 + k - 32 = k by omega, show 32 - k = (32 - (k + 1)) + 1 by omega, List.replicate_succ, List.set_append_right _ _ sP]
  simp [List.replicate_succ']
theorem base_end : Aa ((bX ++ (List.replicate 32 (102 : UInt8) ++ List.replicate (32 - 32) 0)).set 32 88) = (ptc bP).cells := by
  show _ = Aa (fb bP.x) ++ Aa (fb bP.y)
  rw [bP_x, bP_y]
  kernel_rfl

theorem curve_Base  : Meets Tryz.prog 110 [] [] (fun _ => True) (fun v out => v = agg (ptc bP).cells ∧ out = []) := by
 intro W hW
 refine Ab Tryz.func110 J 15 Tryz.ntmps110 J (.sr (.alloc (cs := Point.zero.cells) J Point.zr J ?_))
 intro n0 hn0 hf0
 refine .nsr (.build (cs := Aa bX) J J J (fun w => by kernel_rfl) ?_)
 refine .build (cs := (⟨bX, List.replicate 32 0⟩ : Point).cells) J J J (fun w => by kernel_rfl) ?_
 refine .alloc (cs := Point.zero.cells) J Point.zr J ?_
 intro n1 hn1 hf1
 refine .sA J J J J (Point.isCell (by exact ⟨rfl, rfl⟩)) B9 (Point.length (by exact ⟨rfl, rfl⟩)) Z0 (Point.length (by exact ⟨rfl, rfl⟩)) zU ?_
 refine .na (.seq (.sr (.m J J J (.na (.block (.loop (ι := Nat) (fun k => ⟨[(0, ptr n0 0), (1, ptr n1 0), (5, i64 (k : Int))], [⟨n1, Aa (bX ++ (List.replicate k 102 ++ List.replicate (32 - k) 0)), 79, 64⟩, ⟨n0, Point.zero.cells, 79, 64⟩]⟩) (fun k => k ≤ 32) (fun k => 32 - k) (0) ?_ ?_ ?_))))))
 · omega
 · exact Ac (wk1 rfl (wk1 rfl (wk1 rfl wk0))) (wh1 (by rw [show Aa (bX ++ (List.replicate 0 102 ++ List.replicate (32 - 0) 0)) = (⟨bX, List.replicate 32 0⟩ : Point).cells from by kernel_rfl]; exact Bo) (wh1 Z1 wh0)) nD
 ·
  rintro k hi
  refine .sr (.lss J J J J J (.na (.seq (.condP J (fun hc0 => ?_) (fun hc0 => ?_)))))
  ·
   have hk2 : k < 32 := by omega
   refine .skip (Ae (.seq (.block (.sr (.m J J J (.a J J J (.na (.region (.m J J J (.fld J J J Y79 J Ad dE _ J (.idxArrO J J J J Y77 Sz5 k J oM (.s1 J J J J J Sz5 Z0 (by rw [base_len oM]; exact (show 32 + k < 64 by omega)) (by exact Bb _ (32 + k) 102) zU ?_))))))))))))
   refine .nil (Bj (Ae (.region (.aI J J J J oM (.m J J J (.na ?_))))))
   exact ⟨k + 1, by omega, by omega, Ac (wk1 rfl (wk1 rfl (wk1 rfl wk0))) (wh1 (by rw [← base_step hk2]; exact Bo) (wh1 Z1 wh0)) nD⟩
  ·
   obtain rfl : k = 32 := by omega
   refine .exit (A1 (A1 (B5 (Ae (.sr (.fld J J J Y79 J Ad dE _ J (.idxArrO J J J J Y77 Sz5 0 J dE (.s1 J J J J J Sz5 Z0 (by rw [base_len oM]; exact (show 32 + 0 < 64 by decide)) (by exact Bb _ (32 + 0) 88) zU ?_))))))))
   rw [base_end]
   refine .nsr (.lA J J J Y79 J B9 Z0 (Point.length zP) ?_)
   refine .sA J J J J (Point.isCell zP) B9 (Point.length zP) Z1 (Point.length (by exact ⟨rfl, rfl⟩)) zV ?_
   refine .na (.ret (An ?_))
   refine ⟨_, [], Ao J J Y79 J B9 Z1 (by exact Point.length zP), sP, sP, ?_, rfl⟩
   rfl

theorem curve_Check (p : Point) (hp : p.ok) : Meets Tryz.prog 177 [agg p.cells] [] (fun _ => True) (fun v out => v = i64 (pchk p.fX p.fY) ∧ out = []) := by
 intro W hW
 refine Ab Tryz.func177 J 38 Tryz.ntmps177 J (.sr (.boxA J J ?_))
 intro n1 hn1 hf1
 refine .a J J J (.na (.seq (.sr (.fld J J J Y79 J Ad dE _ J (.lN (Aa _) J J J Y77 J Ad Z0 (Point.row_fX (by exact hp)) (Point.rl_fX (by exact hp)) ?_)))))
 refine .callB J J J J Body168 (field_Canon p.fX hp.l_fX) tV (fun hs1_20 => ?_) (fun hs1_20 => ?_)
 ·
  have hs1_2 := of_decide_eq_true hs1_20
  refine .not J J J (.m J J J (.fld J J J Y79 J Ad dE _ J (.lN (Aa _) J J J Y77 J Ad Z0 (Point.row_fY (by exact hp)) (Point.rl_fY (by exact hp)) ?_)))
  refine .callB J J J J Body168 (field_Canon p.fY hp.l_fY) tV (fun hs1_70 => ?_) (fun hs1_70 => ?_)
  ·
   have hs1_7 := of_decide_eq_true hs1_70
   refine .not J J J (.pick J J J J J J (.na (.cond_f J J (.skip (Ae (.seq (.draw [(0, 0), (1, 1), (0, 2), (1, 3), (0, 5), (1, 6), (0, 7), (1, 8), (3, 4), (3, 9), (2, 10), (2, 11), (4, 12), (4, 13)] Ar zK (.fld J J J Y79 J Ad dE _ J (.lN (Aa _) J J J Y77 J Ad Z0 (Point.row_fX (by exact hp)) (Point.rl_fX (by exact hp)) ?_)))))))))
   refine .fld J J J Y79 J Ad dE _ J (.lN (Aa _) J J J Y77 J Ad Z0 (Point.row_fX (by exact hp)) (Point.rl_fX (by exact hp)) ?_)
   refine .fld J J J Y79 J Ad dE _ J (.lN (Aa _) J J J Y77 J Ad Z0 (Point.row_fY (by exact hp)) (Point.rl_fY (by exact hp)) ?_)
   refine .fld J J J Y79 J Ad dE _ J (.lN (Aa _) J J J Y77 J Ad Z0 (Point.row_fY (by exact hp)) (Point.rl_fY (by exact hp)) ?_)
   refine .cV J J J J Cq (field_Mul p.fX p.fX hp.l_fX hp.l_fX) tV (.cV J J J J Cq (field_Mul p.fY p.fY hp.l_fY hp.l_fY) tV (.alloc (cs := (Aa (List.replicate 32 0))) J Bs J ?_))
   intro n3 hn3 hf3
   refine .alloc (cs := (Aa (List.replicate 32 0))) J Bs J ?_
   intro n4 hn4 hf4
   refine .sA J J J J zE Ad zF Z1 sP zV ?_
   refine .sA J J J J zE Ad zF Z0 sP zU ?_
   refine .na (.seq (.draw [(1, 2), (1, 3), (3, 0), (3, 1), (3, 4), (3, 5), (3, 6), (2, 7), (4, 8)] Ar zK (.lA J J J Y77 J Ad Z1 zF ?_)))
   refine .lA J J J Y77 J Ad Z0 zF ?_
   refine .cV J J J J Body171 (f_one) tV (.cV J J J J Body173 (curve_D) tV (.cV J J J J Cq (f_mul _ _) tV (.cV J J J J Cq (f_mul _ _) tV (.cV J J J J Body172 (f_add _ _) tV (.alloc (cs := (Aa (List.replicate 32 0))) J Bs J ?_)))))
   intro n5 hn5 hf5
   refine .sA J J J J zE Ad zF Z0 sP zU ?_
   refine .na (.seq (.seq (.draw [(1, 0), (1, 1), (1, 3), (3, 2), (0, 4)] Ar zK (.lA J J J Y77 J Ad Z1 zF ?_))))
   refine .lA J J J Y77 J Ad Z2 zF ?_
   refine .lA J J J Y77 J Ad Z0 zF ?_
   refine .cV J J J J Body170 (f_sub _ _) tV (.neq_bytes J J J J Tryz.eqGuardType77 Y77 Y5 Sz5 zF zF J (.na (.condNP J (fun hc1 => ?_) (fun hc1 => ?_))))
   ·
    refine .sr (.a J J J (.na (.ret (Bg (An ?_)))))
    refine ⟨_, [], Ag J J, sP, sP, ?_, rfl⟩
    unfold pchk
    exact congrArg i64 (if_neg (fun h => by exact hc1 (fb_inj.2 h.2.2))).symm
   ·
    refine .skip (Ae (.sr (.a J J J (.na (.ret (An ?_))))))
    refine ⟨_, [], Ag J J, sP, sP, ?_, rfl⟩
    unfold pchk
    exact congrArg i64 (if_pos ⟨hs1_2, hs1_7, fb_inj.1 hc1⟩).symm
  ·
   have hs1_7 := of_decide_eq_false hs1_70
   refine .not J J J (.pick J J J J J J (.na (.cond_t J J (.sr (.a J J J (.na (.ret (Bg (An ?_)))))))))
   refine ⟨_, [], Ag J J, sP, sP, ?_, rfl⟩
   unfold pchk
   exact congrArg i64 (if_neg (fun h => by exact hs1_7 h.2.1)).symm
 ·
  have hs1_2 := of_decide_eq_false hs1_20
  refine .not J J J (.m J J J (.skp J J (.skp J J (.skp J J (.skp J J (.pick J J J J J J (.na (.cond_t J J (.sr (.a J J J (.na (.ret (Bg (An ?_))))))))))))))
  refine ⟨_, [], Ag J J, sP, sP, ?_, rfl⟩
  unfold pchk
  exact congrArg i64 (if_neg (fun h => by exact hs1_2 h.1)).symm

theorem curve_Check_on (P : Pt Fp) (h : cv.on P) : Meets Tryz.prog 177 [agg (ptc P).cells] [] (fun _ => True) (fun v out => v = i64 0 ∧ out = []) := by
  have h1 := curve_Check (ptc P) (ptc_ok P)
  rwa [show pchk (ptc P).fX (ptc P).fY = 0 from pchk_on h] at h1

theorem curve_widen (P : Pt Fp) : Meets Tryz.prog 179 [agg (ptc P).cells] [] (fun _ => True) (fun v out => v = agg (wdc (Wd.of P)).cells ∧ out = []) := by
 intro W hW
 refine Ab Tryz.func179 J 14 Tryz.ntmps179 J (.sr (.boxA J J ?_))
 intro n1 hn1 hf1
 refine .alloc (cs := wide.zero.cells) J wide.zr J ?_
 intro n2 hn2 hf2
 refine .na (.seq (.draw [(0, 0), (1, 1), (0, 2), (1, 3), (0, 5), (1, 6), (0, 7), (1, 8), (3, 4), (3, 9), (0, 10), (4, 11)] Ar zK (.fld J J J Y79 J Ad dE _ J (.lN (Aa _) J J J Y77 J Ad Z1 (Point.row_fX zP) (Point.rl_fX zP) ?_))))
 refine .fld J J J Y79 J Ad dE _ J (.lN (Aa _) J J J Y77 J Ad Z1 (Point.row_fY zP) (Point.rl_fY zP) ?_)
 refine .fld J J J Y79 J Ad dE _ J (.lN (Aa _) J J J Y77 J Ad Z1 (Point.row_fX zP) (Point.rl_fX zP) ?_)
 refine .fld J J J Y79 J Ad dE _ J (.lN (Aa _) J J J Y77 J Ad Z1 (Point.row_fY zP) (Point.rl_fY zP) ?_)
 refine .cV J J J J Body171 (f_one) tV (.cV J J J J Cq (f_mul P.x P.y) tV (.build (cs := (wdc (Wd.of P)).cells) J J J (fun w => by kernel_rfl) ?_))
 refine .sA J J J J (wide.isCell (by exact Bx _)) Sz168 (wide.length (by exact Bx _)) Z0 (wide.length (by exact wide.zero_ok)) zU ?_
 refine .na (.ret (An ?_))
 refine ⟨_, [], Ao J J Tryz.underlying168 J Sz168 Z0 (by exact wide.length (by exact Bx _)), sP, sP, ?_, rfl⟩
 rfl

theorem wide_point (n : Nat) (w : Wd Fp) : Meets Tryz.prog 183 [ptr n 0] [] (fun W => Cc W n 0 (wdc w).cells) (fun v out => v = agg (ptc (⟨w.x * finv w.z, w.y * finv w.z⟩ : Pt Fp)).cells ∧ out = []) := by
 intro W hW
 have hinv := f_inv w.z
 revert hinv
 generalize finv w.z = iz
 intro hinv
 refine Ab Tryz.func183 J 22 Tryz.ntmps183 J (.sr (.alloc (cs := Point.zero.cells) J Point.zr J ?_))
 intro n2 hn2 hf2
 refine .nsr (.m J J J (.nC J J J (.fld J J J Tryz.underlying168 J Ad dE _ J (.loadEN (Aa (fb w.z)) J J J Y77 J Ad sP (by rw [Aa, List.length_map, Aq]) (sees_subC hW (wide.see_fZ (Bx w))) ?_))))
 refine .cV J J J J Body175 (hinv) tV (.alloc (cs := (Aa (List.replicate 32 0))) J Bs J ?_)
 intro n3 hn3 hf3
 refine .sA J J J J zE Ad zF Z0 sP zU ?_
 refine .na (.seq (.draw [(0, 0), (0, 1), (0, 2), (1, 3), (1, 4), (0, 6), (0, 7), (0, 8), (1, 9), (1, 10), (3, 5), (3, 11), (0, 12), (4, 13)] Ar zK (.m J J J (.nC J J J (.fld J J J Tryz.underlying168 J Ad dE _ J (.loadEN (Aa (fb w.x)) J J J Y77 J Ad sP (by rw [Aa, List.length_map, Aq]) (sees_subC hW (wide.see_fX (Bx w))) ?_))))))
 refine .lA J J J Y77 J Ad Z0 zF ?_
 refine .m J J J (.nC J J J (.fld J J J Tryz.underlying168 J Ad dE _ J (.loadEN (Aa (fb w.y)) J J J Y77 J Ad sP (by rw [Aa, List.length_map, Aq]) (sees_subC hW (wide.see_fY (Bx w))) ?_)))
 refine .lA J J J Y77 J Ad Z0 zF ?_
 refine .cV J J J J Cq (f_mul _ _) tV (.cV J J J J Cq (f_mul _ _) tV (.build (cs := (ptc (⟨w.x * iz, w.y * iz⟩ : Pt Fp)).cells) J J J (fun w => by kernel_rfl) ?_))
 refine .sA J J J J (Point.isCell zP) B9 (Point.length zP) Z1 (Point.length zZ) zV ?_
 refine .na (.ret (An ?_))
 refine ⟨_, [], Ao J J Y79 J B9 Z1 (by exact Point.length zP), sP, sP, ?_, rfl⟩
 rfl

theorem wide_finish (n : Nat) (w : Wd Fp) (e f g h : Fp) : Meets Tryz.prog 228 [ptr n 0, agg (Aa (fb e)), agg (Aa (fb f)), agg (Aa (fb g)), agg (Aa (fb h))] [n] (fun W => BlkOk W ⟨n, (wdc w).cells, 168, 128⟩) (fun v out => out = [⟨n, (wdc (Wd.fin e f g h)).cells, 168, 128⟩]) := by
 intro W hW
 refine Ba (hp0 := [⟨n, (wdc w).cells, 168, 128⟩]) Tryz.func228 J 34 Tryz.ntmps228 J (HRep.one hW) (.sr (.boxA J J ?_))
 intro n6 hn6 hf6
 refine .boxA J J ?_
 intro n7 hn7 hf7
 refine .boxA J J ?_
 intro n8 hn8 hf8
 refine .boxA J J ?_
 intro n9 hn9 hf9
 refine .na (.seq (.draw [(0, 0), (0, 1), (1, 2), (1, 3), (1, 5), (1, 6), (3, 4), (3, 7), (0, 8), (0, 9), (4, 10), (0, 11), (0, 12), (4, 13)] Ar zK (.m J J J (.m J J J (.lA J J J Y77 J Ad Z3 zF ?_)))))
 refine .lA J J J Y77 J Ad Z2 zF ?_
 refine .lA J J J Y77 J Ad Z1 zF ?_
 refine .lA J J J Y77 J Ad Z0 zF ?_
 refine .cV J J J J Cq (f_mul _ _) tV (.cV J J J J Cq (f_mul _ _) tV (.nC J J J (.fld J J J Tryz.underlying168 J Ad dE _ J (.storeN (Aa _) J J J J J zE Ad (by simp [Aq]) Z4 (by rw [wide.length (by exact Bx _)]; simp [Aq]) (wide.upd_fX (by exact Bx _) _ (by simp [Aq])) (by exact upd4) ?_))))
 refine .nC J J J (.fld J J J Tryz.underlying168 J Ad dE _ J (.storeN (Aa _) J J J J J zE Ad (by simp [Aq]) Z4 (by rw [wide.length (by exact ⟨C3 _, C3 _, C3 _, C3 _⟩)]; simp [Aq]) (wide.upd_fY (by exact ⟨C3 _, C3 _, C3 _, C3 _⟩) _ (by simp [Aq])) (by exact upd4) ?_))
 refine .na (.draw [(0, 0), (0, 1), (1, 2), (1, 3), (1, 5), (1, 6), (3, 4), (3, 7), (0, 8), (0, 9), (4, 10), (0, 11), (0, 12), (4, 13)] Ar zK (.m J J J (.m J J J (.lA J J J Y77 J Ad Z2 zF ?_))))
 refine .lA J J J Y77 J Ad Z1 zF ?_
 refine .lA J J J Y77 J Ad Z3 zF ?_
 refine .lA J J J Y77 J Ad Z0 zF ?_
 refine .cV J J J J Cq (f_mul _ _) tV (.cV J J J J Cq (f_mul _ _) tV (.nC J J J (.fld J J J Tryz.underlying168 J Ad dE _ J (.storeN (Aa _) J J J J J zE Ad (by simp [Aq]) Z4 (by rw [wide.length (by exact ⟨C3 _, C3 _, C3 _, C3 _⟩)]; simp [Aq]) (wide.upd_fZ (by exact ⟨C3 _, C3 _, C3 _, C3 _⟩) _ (by simp [Aq])) (by exact upd4) ?_))))
 refine .nC J J J (.fld J J J Tryz.underlying168 J Ad dE _ J (.storeN (Aa _) J J J J J zE Ad (by simp [Aq]) Z4 (by rw [wide.length (by exact ⟨C3 _, C3 _, C3 _, C3 _⟩)]; simp [Aq]) (wide.upd_fT (by exact ⟨C3 _, C3 _, C3 _, C3 _⟩) _ (by simp [Aq])) (by exact upd4) ?_))
 refine .nil (en_n ?_)
 exact ⟨_, [⟨n, (wdc (Wd.fin e f g h)).cells, 168, 128⟩], res_none rfl, (fun b hb => by rw [List.mem_singleton.1 hb]; exact Z4), Ce, rfl⟩

theorem wide_add (n q : Nat) (w p : Wd Fp) (tw : Fp) : Meets Tryz.prog 180 [ptr n 0, ptr q 0, agg (Aa (fb tw))] [n] (fun W => BlkOk W ⟨n, (wdc w).cells, 168, 128⟩ ∧ Cc W q 0 (wdc p).cells ∧ q ≠ n) (fun v out => out = [⟨n, (wdc (Wd.fin ((w.y + w.x) * (p.y + p.x) - (w.y - w.x) * (p.y - p.x)) (w.z * p.z + w.z * p.z - w.t * tw * p.t) (w.z * p.z + w.z * p.z + w.t * tw * p.t) ((w.y + w.x) * (p.y + p.x) + (w.y - w.x) * (p.y - p.x)))).cells, 168, 128⟩]) := by
 intro W hW
 refine Ba (hp0 := [⟨n, (wdc w).cells, 168, 128⟩]) Tryz.func180 J 85 Tryz.ntmps180 J (HRep.one hW.1) (.sr (.boxA J J ?_))
 intro n5 hn5 hf5
 refine .na (.seq (.draw [(0, 0), (0, 1), (0, 2), (1, 3), (0, 4), (0, 5), (0, 6), (1, 7), (0, 9), (0, 10), (0, 11), (1, 12), (0, 13), (0, 14), (0, 15), (1, 16), (3, 8), (3, 17), (3, 18), (2, 19), (4, 20)] Ar zK (.m J J J (.nC J J J (.fld J J J Tryz.underlying168 J Ad dE _ J (.lN (Aa _) J J J Y77 J Ad Z1 (wide.row_fY (by exact Bx _)) (wide.rl_fY (by exact Bx _)) ?_))))))
 refine .m J J J (.nC J J J (.fld J J J Tryz.underlying168 J Ad dE _ J (.lN (Aa _) J J J Y77 J Ad Z1 (wide.row_fX (by exact Bx _)) (wide.rl_fX (by exact Bx _)) ?_)))
 refine .m J J J (.nC J J J (.fld J J J Tryz.underlying168 J Ad dE _ J (.loadEN (Aa (fb p.y)) J J J Y77 J Ad (by simp; exact hW.2.2) (by rw [Aa, List.length_map, Aq]) (sees_subC hW.2.1 (wide.see_fY (Bx p))) ?_)))
 refine .m J J J (.nC J J J (.fld J J J Tryz.underlying168 J Ad dE _ J (.loadEN (Aa (fb p.x)) J J J Y77 J Ad (by simp; exact hW.2.2) (by rw [Aa, List.length_map, Aq]) (sees_subC hW.2.1 (wide.see_fX (Bx p))) ?_)))
 refine .cV J J J J Body170 (f_sub _ _) tV (.cV J J J J Body170 (f_sub _ _) tV (.cV J J J J Cq (f_mul _ _) tV (.alloc (cs := (Aa (List.replicate 32 0))) J Bs J ?_)))
 intro n6 hn6 hf6
 refine .sA J J J J zE Ad zF Z0 sP zU ?_
 refine .na (.seq (.draw [(0, 0), (0, 1), (0, 2), (1, 3), (0, 4), (0, 5), (0, 6), (1, 7), (0, 9), (0, 10), (0, 11), (1, 12), (0, 13), (0, 14), (0, 15), (1, 16), (3, 8), (3, 17), (3, 18), (2, 19), (4, 20)] Ar zK (.m J J J (.nC J J J (.fld J J J Tryz.underlying168 J Ad dE _ J (.lN (Aa _) J J J Y77 J Ad Z2 (wide.row_fY (by exact Bx _)) (wide.rl_fY (by exact Bx _)) ?_))))))
 refine .m J J J (.nC J J J (.fld J J J Tryz.underlying168 J Ad dE _ J (.lN (Aa _) J J J Y77 J Ad Z2 (wide.row_fX (by exact Bx _)) (wide.rl_fX (by exact Bx _)) ?_)))
 refine .m J J J (.nC J J J (.fld J J J Tryz.underlying168 J Ad dE _ J (.loadEN (Aa (fb p.y)) J J J Y77 J Ad (by simp; exact hW.2.2) (by rw [Aa, List.length_map, Aq]) (sees_subC hW.2.1 (wide.see_fY (Bx p))) ?_)))
 refine .m J J J (.nC J J J (.fld J J J Tryz.underlying168 J Ad dE _ J (.loadEN (Aa (fb p.x)) J J J Y77 J Ad (by simp; exact hW.2.2) (by rw [Aa, List.length_map, Aq]) (sees_subC hW.2.1 (wide.see_fX (Bx p))) ?_)))
 refine .cV J J J J Body172 (f_add _ _) tV (.cV J J J J Body172 (f_add _ _) tV (.cV J J J J Cq (f_mul _ _) tV (.alloc (cs := (Aa (List.replicate 32 0))) J Bs J ?_)))
 intro n7 hn7 hf7
 refine .sA J J J J zE Ad zF Z0 sP zU ?_
 refine .na (.seq (.draw [(0, 0), (0, 1), (0, 2), (1, 3), (1, 4), (0, 6), (0, 7), (0, 8), (1, 9), (3, 5), (3, 10), (2, 11), (4, 12)] Ar zK (.m J J J (.nC J J J (.fld J J J Tryz.underlying168 J Ad dE _ J (.lN (Aa _) J J J Y77 J Ad Z3 (wide.row_fT (by exact Bx _)) (wide.rl_fT (by exact Bx _)) ?_))))))
 refine .lA J J J Y77 J Ad Z2 zF ?_
 refine .m J J J (.nC J J J (.fld J J J Tryz.underlying168 J Ad dE _ J (.loadEN (Aa (fb p.t)) J J J Y77 J Ad (by simp; exact hW.2.2) (by rw [Aa, List.length_map, Aq]) (sees_subC hW.2.1 (wide.see_fT (Bx p))) ?_)))
 refine .cV J J J J Cq (f_mul _ _) tV (.cV J J J J Cq (f_mul _ _) tV (.alloc (cs := (Aa (List.replicate 32 0))) J Bs J ?_))
 intro n8 hn8 hf8
 refine .sA J J J J zE Ad zF Z0 sP zU ?_
 refine .na (.seq (.draw [(0, 0), (0, 1), (0, 2), (1, 3), (0, 4), (0, 5), (0, 6), (1, 7), (3, 8), (2, 9), (4, 10)] Ar zK (.m J J J (.nC J J J (.fld J J J Tryz.underlying168 J Ad dE _ J (.lN (Aa _) J J J Y77 J Ad Z4 (wide.row_fZ (by exact Bx _)) (wide.rl_fZ (by exact Bx _)) ?_))))))
 refine .m J J J (.nC J J J (.fld J J J Tryz.underlying168 J Ad dE _ J (.loadEN (Aa (fb p.z)) J J J Y77 J Ad (by simp; exact hW.2.2) (by rw [Aa, List.length_map, Aq]) (sees_subC hW.2.1 (wide.see_fZ (Bx p))) ?_)))
 refine .cV J J J J Cq (f_mul _ _) tV (.alloc (cs := (Aa (List.replicate 32 0))) J Bs J ?_)
 intro n9 hn9 hf9
 refine .sA J J J J zE Ad zF Z0 sP zU ?_
 refine .nsr (.lA J J J Y77 J Ad Z0 zF ?_)
 refine .lA J J J Y77 J Ad Z0 zF ?_
 refine .cV J J J J Body172 (f_add _ _) tV (.sA J J J J zE Ad zF Z0 zF zU ?_)
 refine .na (.draw [(0, 0), (1, 1), (1, 2), (1, 4), (1, 5), (1, 7), (1, 8), (1, 10), (1, 11), (3, 3), (3, 6), (3, 9), (3, 12), (4, 13)] Ar zK (.m J J J (.lA J J J Y77 J Ad Z2 zF ?_)))
 refine .lA J J J Y77 J Ad Z3 zF ?_
 refine .lA J J J Y77 J Ad Z0 zF ?_
 refine .lA J J J Y77 J Ad Z1 zF ?_
 refine .lA J J J Y77 J Ad Z0 zF ?_
 refine .lA J J J Y77 J Ad Z1 zF ?_
 refine .lA J J J Y77 J Ad Z2 zF ?_
 refine .lA J J J Y77 J Ad Z3 zF ?_
 refine .cV J J J J Body170 (f_sub _ _) tV (.cV J J J J Body170 (f_sub _ _) tV (.cV J J J J Body172 (f_add _ _) tV (.cV J J J J Body172 (f_add _ _) tV (.callL (L := [⟨n, (wdc w).cells, 168, 128⟩]) J J J J J Body228 (wide_finish n w ((w.y + w.x) * (p.y + p.x) - (w.y - w.x) * (p.y - p.x)) (w.z * p.z + w.z * p.z - w.t * tw * p.t) (w.z * p.z + w.z * p.z + w.t * tw * p.t) ((w.y + w.x) * (p.y + p.x) + (w.y - w.x) * (p.y - p.x))) (Ai rM Au) (Bp J) (fun w h => Av h (by exact mem5)) ?_))))
 rintro v84 out84 rfl
 refine .nil (en_n ?_)
 exact ⟨_, [⟨n, (wdc (Wd.fin ((w.y + w.x) * (p.y + p.x) - (w.y - w.x) * (p.y - p.x)) (w.z * p.z + w.z * p.z - w.t * tw * p.t) (w.z * p.z + w.z * p.z + w.t * tw * p.t) ((w.y + w.x) * (p.y + p.x) + (w.y - w.x) * (p.y - p.x)))).cells, 168, 128⟩], res_none rfl, (fun b hb => by rw [List.mem_singleton.1 hb]; exact Z0), Ce, rfl⟩

theorem wide_double (n : Nat) (w : Wd Fp) : Meets Tryz.prog 181 [ptr n 0] [n] (fun W => BlkOk W ⟨n, (wdc w).cells, 168, 128⟩) (fun v out => out = [⟨n, (wdc (Wd.dbl w)).cells, 168, 128⟩]) := by
 intro W hW
 refine Ba (hp0 := [⟨n, (wdc w).cells, 168, 128⟩]) Tryz.func181 J 66 Tryz.ntmps181 J (HRep.one hW) (.seq (.draw [(0, 0), (0, 1), (0, 2), (1, 3), (0, 4), (0, 5), (0, 6), (1, 7), (0, 9), (0, 10), (0, 11), (1, 12), (0, 13), (0, 14), (0, 15), (1, 16), (0, 18), (0, 19), (0, 20), (1, 21), (0, 22), (0, 23), (0, 24), (1, 25), (3, 8), (3, 17), (3, 26), (2, 27), (2, 28), (2, 29), (4, 30), (4, 31), (4, 32)] Ar zK (.m J J J (.nC J J J (.fld J J J Tryz.underlying168 J Ad dE _ J (.lN (Aa _) J J J Y77 J Ad Z0 (wide.row_fX (by exact Bx _)) (wide.rl_fX (by exact Bx _)) ?_))))))
 refine .m J J J (.nC J J J (.fld J J J Tryz.underlying168 J Ad dE _ J (.lN (Aa _) J J J Y77 J Ad Z0 (wide.row_fX (by exact Bx _)) (wide.rl_fX (by exact Bx _)) ?_)))
 refine .m J J J (.nC J J J (.fld J J J Tryz.underlying168 J Ad dE _ J (.lN (Aa _) J J J Y77 J Ad Z0 (wide.row_fY (by exact Bx _)) (wide.rl_fY (by exact Bx _)) ?_)))
 refine .m J J J (.nC J J J (.fld J J J Tryz.underlying168 J Ad dE _ J (.lN (Aa _) J J J Y77 J Ad Z0 (wide.row_fY (by exact Bx _)) (wide.rl_fY (by exact Bx _)) ?_)))
 refine .m J J J (.nC J J J (.fld J J J Tryz.underlying168 J Ad dE _ J (.lN (Aa _) J J J Y77 J Ad Z0 (wide.row_fZ (by exact Bx _)) (wide.rl_fZ (by exact Bx _)) ?_)))
 refine .m J J J (.nC J J J (.fld J J J Tryz.underlying168 J Ad dE _ J (.lN (Aa _) J J J Y77 J Ad Z0 (wide.row_fZ (by exact Bx _)) (wide.rl_fZ (by exact Bx _)) ?_)))
 refine .cV J J J J Cq (f_mul _ _) tV (.cV J J J J Cq (f_mul _ _) tV (.cV J J J J Cq (f_mul _ _) tV (.alloc (cs := (Aa (List.replicate 32 0))) J Bs J ?_)))
 intro n2 hn2 hf2
 refine .alloc (cs := (Aa (List.replicate 32 0))) J Bs J ?_
 intro n3 hn3 hf3
 refine .alloc (cs := (Aa (List.replicate 32 0))) J Bs J ?_
 intro n4 hn4 hf4
 refine .sA J J J J zE Ad zF Z2 sP (by exact upd2) ?_
 refine .sA J J J J zE Ad zF Z1 sP zV ?_
 refine .sA J J J J zE Ad zF Z0 sP zU ?_
 refine .na (.seq (.draw [(0, 0), (0, 1), (0, 2), (1, 3), (0, 4), (0, 5), (0, 6), (1, 7), (3, 8), (2, 9), (4, 10)] Ar zK (.m J J J (.nC J J J (.fld J J J Tryz.underlying168 J Ad dE _ J (.lN (Aa _) J J J Y77 J Ad Z3 (wide.row_fX (by exact Bx _)) (wide.rl_fX (by exact Bx _)) ?_))))))
 refine .m J J J (.nC J J J (.fld J J J Tryz.underlying168 J Ad dE _ J (.lN (Aa _) J J J Y77 J Ad Z3 (wide.row_fY (by exact Bx _)) (wide.rl_fY (by exact Bx _)) ?_)))
 refine .cV J J J J Body172 (f_add _ _) tV (.alloc (cs := (Aa (List.replicate 32 0))) J Bs J ?_)
 intro n5 hn5 hf5
 refine .sA J J J J zE Ad zF Z0 sP zU ?_
 refine .nsr (.lA J J J Y77 J Ad Z3 zF ?_)
 refine .lA J J J Y77 J Ad Z2 zF ?_
 refine .cV J J J J Body172 (f_add _ _) tV (.alloc (cs := (Aa (List.replicate 32 0))) J Bs J ?_)
 intro n6 hn6 hf6
 refine .sA J J J J zE Ad zF Z0 sP zU ?_
 refine .na (.seq (.draw [(1, 0), (1, 1), (1, 2), (3, 3), (3, 4), (2, 5), (4, 6)] Ar zK (.lA J J J Y77 J Ad Z0 zF ?_)))
 refine .lA J J J Y77 J Ad Z1 zF ?_
 refine .lA J J J Y77 J Ad Z1 zF ?_
 refine .cV J J J J Cq (f_mul _ _) tV (.cV J J J J Body170 (f_sub _ _) tV (.alloc (cs := (Aa (List.replicate 32 0))) J Bs J ?_))
 intro n7 hn7 hf7
 refine .sA J J J J zE Ad zF Z0 sP zU ?_
 refine .nsr (.lA J J J Y77 J Ad (by exact mem5) zF ?_)
 refine .lA J J J Y77 J Ad Z4 zF ?_
 refine .cV J J J J Body170 (f_sub _ _) tV (.alloc (cs := (Aa (List.replicate 32 0))) J Bs J ?_)
 intro n8 hn8 hf8
 refine .sA J J J J zE Ad zF Z0 sP zU ?_
 refine .na (.draw [(0, 0), (1, 1), (1, 2), (1, 3), (1, 5), (1, 7), (1, 8), (3, 4), (3, 6), (4, 9)] Ar zK (.m J J J (.lA J J J Y77 J Ad Z1 zF ?_)))
 refine .lA J J J Y77 J Ad Z4 zF ?_
 refine .lA J J J Y77 J Ad Z4 zF ?_
 refine .lA J J J Y77 J Ad Z0 zF ?_
 refine .lA J J J Y77 J Ad Z0 zF ?_
 refine .lA J J J Y77 J Ad Z2 zF ?_
 refine .cV J J J J Body172 (f_add _ _) tV (.cV J J J J Body172 (f_add _ _) tV (.callL (L := [⟨n, (wdc w).cells, 168, 128⟩]) J J J J J Body228 (wide_finish n w (w.x * w.x + w.y * w.y - (w.x + w.y) * (w.x + w.y)) (w.z * w.z + w.z * w.z + (w.x * w.x - w.y * w.y)) (w.x * w.x - w.y * w.y) (w.x * w.x + w.y * w.y)) (Ai rM Au) (Bp J) (fun w h => Av h (by exact mem7)) ?_))
 rintro v65 out65 rfl
 refine .nil (en_n ?_)
 exact ⟨_, [⟨n, (wdc (Wd.dbl w)).cells, 168, 128⟩], res_none rfl, (fun b hb => by rw [List.mem_singleton.1 hb]; exact Z0), Ce, rfl⟩

end Go.Proofs.YtpacobmjjjillaaGreat
end

section
namespace Go.Proofs.YtpacobmjjjillaaGreat
open Go Hw

open Ed

theorem own_ne {C : Cx} {hp R : List Blk} {w : World} {b1 b2 : Blk} (h : HRep C hp w) (p : hp.Perm ((b1 :: b2 :: []) ++ R)) : b2.n ≠ b1.n := fun e => by
  have := (p.map (·.n)).nodup_iff.1 h.nodup
  simp [e] at this
theorem wide_addD (n q : Nat) (w p : Wd Fp) : Meets Tryz.prog 180 [ptr n 0, ptr q 0, agg (Aa (fb (fD + fD)))] [n] (fun W => BlkOk W ⟨n, (wdc w).cells, 168, 128⟩ ∧ Cc W q 0 (wdc p).cells ∧ q ≠ n) (fun v out => out = [⟨n, (wdc (Wd.add fD w p)).cells, 168, 128⟩]) := wide_add n q w p (fD + fD)
theorem wide_pointR (n : Nat) (w : Wd Fp) (R : Pt Fp) (hw : w.rep R) : Meets Tryz.prog 183 [ptr n 0] [] (fun W => Cc W n 0 (wdc w).cells) (fun v out => v = agg (ptc R).cells ∧ out = []) := by
  have h := wide_point n w
  have e : (⟨w.x * finv w.z, w.y * finv w.z⟩ : Pt Fp) = R := cv.rep_pt hw
  rwa [e] at h
theorem pair_eg : Tryz.prog.eqGuardType Tryz.prog.depth 174 = false := by kernel_rfl
theorem pair_eq (a b c d : Bool) (w : World) : (Op.equalIn 10000 174 (agg [.bool a, .bool b]) (agg [.bool c, .bool d])).run Tryz.prog w = .ok (a == c && b == d) w := by
  cases a <;> cases b <;> cases c <;> cases d <;> kernel_rfl

theorem curve_Mul2 (a b : List UInt8) (P Q : Pt Fp) (ha : a.length = 32) (hb : b.length = 32) (hP : cv.on P) (hQ : cv.on Q) : Meets Tryz.prog 109 [agg (Aa a), agg (ptc P).cells, agg (Aa b), agg (ptc Q).cells] [] (fun _ => True) (fun v out => v = agg (ptc (cv.lin (le a) (le b) P Q)).cells ∧ out = []) := by
 intro W hW
 refine Ab Tryz.func109 J 65 Tryz.ntmps109 J (.sr (.boxA J J ?_))
 intro n4 hn4 hf4
 refine .boxA J J ?_
 intro n5 hn5 hf5
 refine .boxA J J ?_
 intro n6 hn6 hf6
 refine .boxA J J ?_
 intro n7 hn7 hf7
 refine .alloc (cs := Point.zero.cells) J Point.zr J ?_
 intro n8 hn8 hf8
 refine .na (.seq (.sr (.lA J J J Y79 J B9 Z3 (Point.length zP) ?_)))
 refine .cV J J J J Body177 (curve_Check_on P hP) tV (.nei J J J J (show (!decide _) = false from congrArg not (decide_eq_true (rfl))) (.m J J J (.lA J J J Y79 J B9 Z1 (Point.length zP) ?_)))
 refine .cV J J J J Body177 (curve_Check_on Q hQ) tV (.nei J J J J (show (!decide _) = false from congrArg not (decide_eq_true (rfl))) (.pick J J J J J J (.na (.cond_f J J (.skip (Ae (.sr (.cV J J J J Body173 (curve_D) tV (.cV J J J J Body173 (curve_D) tV (.cV J J J J Body172 (f_add _ _) tV (.alloc (cs := (Aa (List.replicate 32 0))) J Bs J ?_)))))))))))
 intro n9 hn9 hf9
 refine .sA J J J J zE Ad zF Z0 sP zU ?_
 refine .na (.seq (.draw [(1, 0), (1, 2), (1, 4), (3, 1), (3, 3), (3, 5), (3, 6), (3, 7), (2, 8), (2, 9), (2, 10), (2, 11), (4, 12), (4, 13), (4, 14), (4, 15)] Ar zK (.lA J J J Y79 J B9 Z4 (Point.length zP) ?_)))
 refine .lA J J J Y79 J B9 Z2 (Point.length zP) ?_
 refine .lA J J J Y79 J B9 Z4 (Point.length zP) ?_
 refine .cV J J J J Body179 (curve_widen P) tV (.cV J J J J Body179 (curve_widen Q) tV (.cV J J J J Body179 (curve_widen P) tV (.cV J J J J Body178 (curve_Zero) tV (.cV J J J J Body179 (curve_widen (zero : Pt Fp)) tV (.alloc (cs := wide.zero.cells) J wide.zr J ?_)))))
 intro n10 hn10 hf10
 refine .alloc (cs := wide.zero.cells) J wide.zr J ?_
 intro n11 hn11 hf11
 refine .alloc (cs := wide.zero.cells) J wide.zr J ?_
 intro n12 hn12 hf12
 refine .alloc (cs := wide.zero.cells) J wide.zr J ?_
 intro n13 hn13 hf13
 refine .sA J J J J (wide.isCell (by exact Bx _)) Sz168 (wide.length (by exact Bx _)) Z3 (wide.length (by exact wide.zero_ok)) (by exact upd3) ?_
 refine .sA J J J J (wide.isCell (by exact Bx _)) Sz168 (wide.length (by exact Bx _)) Z2 (wide.length (by exact wide.zero_ok)) (by exact upd2) ?_
 refine .sA J J J J (wide.isCell (by exact Bx _)) Sz168 (wide.length (by exact Bx _)) Z1 (wide.length (by exact wide.zero_ok)) zV ?_
 refine .sA J J J J (wide.isCell (by exact Bx _)) Sz168 (wide.length (by exact Bx _)) Z0 (wide.length (by exact wide.zero_ok)) zU ?_
 refine .nsr (.lA J J J Y77 J Ad Z4 zF ?_)
 refine .callL (L := [⟨n12, (wdc (Wd.of P)).cells, 168, 128⟩]) J J J J J Body180 (wide_addD n12 n11 (Wd.of P) (Wd.of Q)) (Ai rM Au) (Bp J) (fun w h => ⟨Av h Z1, Ak h Z2, own_ne (b1 := ⟨n12, (wdc (Wd.of P)).cells, 168, 128⟩) (b2 := ⟨n11, (wdc (Wd.of Q)).cells, 168, 128⟩) h (Ai rM (Ai rM Au))⟩) ?_
 rintro v36 out36 rfl
 simp only [List.cons_append, List.nil_append]
 refine .na (.seq (.sr (.a J J J (.na (.block (.loop (ι := Nat × Wd Fp) (fun p => ⟨[(4, ptr n4 0), (6, ptr n6 0), (8, ptr n8 0), (9, ptr n9 0), (10, ptr n10 0), (11, ptr n11 0), (12, ptr n12 0), (13, ptr n13 0), (14, i64 (255 - (p.1 : Int)))], [⟨n13, (wdc p.2).cells, 168, 128⟩, ⟨n12, (wdc (Wd.add fD (Wd.of P) (Wd.of Q))).cells, 168, 128⟩, ⟨n11, (wdc (Wd.of Q)).cells, 168, 128⟩, ⟨n10, (wdc (Wd.of P)).cells, 168, 128⟩, ⟨n9, Aa (fb (fD + fD)), 77, 32⟩, ⟨n8, Point.zero.cells, 79, 64⟩, ⟨n6, Aa b, 77, (Aa b).length⟩, ⟨n4, Aa a, 77, (Aa a).length⟩]⟩) (fun p => p.1 ≤ 256 ∧ p.2.rep (cv.lin (le a / 2 ^ (256 - p.1)) (le b / 2 ^ (256 - p.1)) P Q)) (fun p => 256 - p.1) ((0, Wd.of zero)) ?_ ?_ ?_))))))
 · exact ⟨Nat.zero_le _, lin_first a b ha hb P Q⟩
 · exact Bh (wk1 rfl (wk1 rfl (wk1 rfl (wk1 rfl (wk1 rfl (wk1 rfl (wk1 rfl (wk1 rfl (wk1 rfl wk0))))))))) (Ai rM (Ai rM (Ai rM (Ai rM (Ai rM (Ai rM (Ai rM (Ai rM Au))))))))
 ·
  rintro p ⟨hj1, hw⟩
  refine .seq (.sr (.m J J J (.geq J J J J J (.na (.condP J (fun hc1 => ?_) (fun hc1 => ?_))))))
  ·
   have hj : p.1 < 256 := by omega
   refine .skip (Ae (.join (ι := Wd Fp) (fun u => ⟨[(4, ptr n4 0), (6, ptr n6 0), (8, ptr n8 0), (9, ptr n9 0), (10, ptr n10 0), (11, ptr n11 0), (12, ptr n12 0), (13, ptr n13 0), (14, i64 (((255 - p.1 : Nat) : Int)))], [⟨n13, (wdc u).cells, 168, 128⟩, ⟨n12, (wdc (Wd.add fD (Wd.of P) (Wd.of Q))).cells, 168, 128⟩, ⟨n11, (wdc (Wd.of Q)).cells, 168, 128⟩, ⟨n10, (wdc (Wd.of P)).cells, 168, 128⟩, ⟨n9, Aa (fb (fD + fD)), 77, 32⟩, ⟨n8, Point.zero.cells, 79, 64⟩, ⟨n6, Aa b, 77, (Aa b).length⟩, ⟨n4, Aa a, 77, (Aa a).length⟩]⟩) (fun u => u.rep (cv.lin (le a / 2 ^ (256 - (p.1 + 1))) (le b / 2 ^ (256 - (p.1 + 1))) P Q)) ?_ ?_))
   ·
    refine .block (.sr (.callL (L := [⟨n13, (wdc p.2).cells, 168, 128⟩]) J J J J J Body181 (wide_double n13 p.2) (Ai rM Au) (Bp J) (fun w h => Av h Z0) ?_))
    rintro v41 out41 rfl
    simp only [List.cons_append, List.nil_append]
    rw [show (255 : Int) - (p.1 : Int) = ((255 - p.1 : Nat) : Int) by omega]
    refine .na (.seq (.draw [(1, 0), (0, 1), (1, 3), (0, 4), (3, 2), (3, 5), (0, 6)] Ar zK (.lA J J J Y77 J Ad (by exact mem7) (by (simp [ha]; done)) ?_)))
    refine .m J J J (.lA J J J Y77 J Ad (by exact mem6) (by (simp [hb]; done)) ?_)
    refine .m J J J (.callB J J J J Body182 (scalar_bit_at a ha (255 - p.1) oM) tV (fun hs10_20 => ?_) (fun hs10_20 => ?_))
    ·
     have hs10_2 := nd_t hs10_20
     have hs10_2 := hs10_20
     refine .callB J J J J Body182 (scalar_bit_at b hb (255 - p.1) oM) tV (fun hs10_50 => ?_) (fun hs10_50 => ?_)
     ·
      have hs10_5 := nd_t hs10_50
      have hs10_5 := hs10_50
      refine .build (cs := [.bool true, .bool true]) J J J (fun w => by kernel_rfl) ?_
      refine .na (.block (.sr (.build (cs := [.bool true, .bool true]) J J J (fun w => by kernel_rfl) ?_)))
      refine .eql_rec (q := (true == true && true == true)) (r := true) J J J J pair_eg (fun w => pair_eq true true true true w) J (.a J J J (.na (.cond_t J J (.region (.lA J J J Y77 J Ad Z4 zF ?_)))))
      refine .callL (L := [⟨n13, (wdc (Wd.dbl p.2)).cells, 168, 128⟩]) J J J J J Body180 (wide_addD n13 n12 (Wd.dbl p.2) (Wd.add fD (Wd.of P) (Wd.of Q))) (Ai rM Au) (Bp J) (fun w h => ⟨Av h Z0, Ak h Z1, own_ne (b1 := ⟨n13, (wdc (Wd.dbl p.2)).cells, 168, 128⟩) (b2 := ⟨n12, (wdc (Wd.add fD (Wd.of P) (Wd.of Q))).cells, 168, 128⟩) h (Ai rM (Ai rM Au))⟩) ?_
      rintro v53 out53 rfl
      simp only [List.cons_append, List.nil_append]
      refine .nil (Bj (Bj (Ae ?_)))
      (exact ⟨Wd.add fD (Wd.dbl p.2) (Wd.add fD (Wd.of P) (Wd.of Q)), (by rw [lin_tt hj hP hQ hs10_2 hs10_5]; exact cv.rep_add (cv.rep_dbl hw (cv.on_lin hP hQ _ _)) (cv.rep_add (cv.rep_of P) (cv.rep_of Q) hP hQ) (cv.on_add (cv.on_lin hP hQ _ _) (cv.on_lin hP hQ _ _)) (cv.on_add hP hQ)), Bh (wk1 rfl (wk1 rfl (wk1 rfl (wk1 rfl (wk1 rfl (wk1 rfl (wk1 rfl (wk1 rfl (wk1 rfl wk0))))))))) (Ai rM (Ai rM (Ai rM (Ai rM (Ai rM (Ai rM (Ai rM (Ai rM Au))))))))⟩)
     ·
      have hs10_5 := nd_f hs10_50
      have hs10_5 := hs10_50
      refine .build (cs := [.bool true, .bool false]) J J J (fun w => by kernel_rfl) ?_
      refine .na (.block (.sr (.build (cs := [.bool true, .bool true]) J J J (fun w => by kernel_rfl) ?_)))
      refine .eql_rec (q := (true == true && false == true)) (r := false) J J J J pair_eg (fun w => pair_eq true false true true w) J (.a J J J (.na (.cond_f J J (.sr (.build (cs := [.bool true, .bool false]) J J J (fun w => by kernel_rfl) ?_)))))
      refine .eql_rec (q := (true == true && false == false)) (r := true) J J J J pair_eg (fun w => pair_eq true false true false w) J (.a J J J (.na (.cond_t J J (.region (.lA J J J Y77 J Ad Z4 zF ?_)))))
      refine .callL (L := [⟨n13, (wdc (Wd.dbl p.2)).cells, 168, 128⟩]) J J J J J Body180 (wide_addD n13 n10 (Wd.dbl p.2) (Wd.of P)) (Ai rM Au) (Bp J) (fun w h => ⟨Av h Z0, Ak h Z3, own_ne (b1 := ⟨n13, (wdc (Wd.dbl p.2)).cells, 168, 128⟩) (b2 := ⟨n10, (wdc (Wd.of P)).cells, 168, 128⟩) h (Ai rM (Ai rM Au))⟩) ?_
      rintro v58 out58 rfl
      simp only [List.cons_append, List.nil_append]
      refine .nil (Bj (Bj (Ae ?_)))
      (exact ⟨Wd.add fD (Wd.dbl p.2) (Wd.of P), (by rw [lin_tf hj hP hQ hs10_2 hs10_5]; exact cv.rep_add (cv.rep_dbl hw (cv.on_lin hP hQ _ _)) (cv.rep_of P) (cv.on_add (cv.on_lin hP hQ _ _) (cv.on_lin hP hQ _ _)) hP), Bh (wk1 rfl (wk1 rfl (wk1 rfl (wk1 rfl (wk1 rfl (wk1 rfl (wk1 rfl (wk1 rfl (wk1 rfl wk0))))))))) (Ai rM (Ai rM (Ai rM (Ai rM (Ai rM (Ai rM (Ai rM (Ai rM Au))))))))⟩)
    ·
     have hs10_2 := nd_f hs10_20
     have hs10_2 := hs10_20
     refine .callB J J J J Body182 (scalar_bit_at b hb (255 - p.1) oM) tV (fun hs10_50 => ?_) (fun hs10_50 => ?_)
     ·
      have hs10_5 := nd_t hs10_50
      have hs10_5 := hs10_50
      refine .build (cs := [.bool false, .bool true]) J J J (fun w => by kernel_rfl) ?_
      refine .na (.block (.sr (.build (cs := [.bool true, .bool true]) J J J (fun w => by kernel_rfl) ?_)))
      refine .eql_rec (q := (false == true && true == true)) (r := false) J J J J pair_eg (fun w => pair_eq false true true true w) J (.a J J J (.na (.cond_f J J (.sr (.build (cs := [.bool true, .bool false]) J J J (fun w => by kernel_rfl) ?_)))))
      refine .eql_rec (q := (false == true && true == false)) (r := false) J J J J pair_eg (fun w => pair_eq false true true false w) J (.a J J J (.na (.cond_f J J (.sr (.build (cs := [.bool false, .bool true]) J J J (fun w => by kernel_rfl) ?_)))))
      refine .eql_rec (q := (false == false && true == true)) (r := true) J J J J pair_eg (fun w => pair_eq false true false true w) J (.a J J J (.na (.cond_t J J (.region (.lA J J J Y77 J Ad Z4 zF ?_)))))
      refine .callL (L := [⟨n13, (wdc (Wd.dbl p.2)).cells, 168, 128⟩]) J J J J J Body180 (wide_addD n13 n11 (Wd.dbl p.2) (Wd.of Q)) (Ai rM Au) (Bp J) (fun w h => ⟨Av h Z0, Ak h Z2, own_ne (b1 := ⟨n13, (wdc (Wd.dbl p.2)).cells, 168, 128⟩) (b2 := ⟨n11, (wdc (Wd.of Q)).cells, 168, 128⟩) h (Ai rM (Ai rM Au))⟩) ?_
      rintro v63 out63 rfl
      simp only [List.cons_append, List.nil_append]
      refine .nil (Bj (Bj (Ae ?_)))
      (exact ⟨Wd.add fD (Wd.dbl p.2) (Wd.of Q), (by rw [lin_ft hj hP hQ hs10_2 hs10_5]; exact cv.rep_add (cv.rep_dbl hw (cv.on_lin hP hQ _ _)) (cv.rep_of Q) (cv.on_add (cv.on_lin hP hQ _ _) (cv.on_lin hP hQ _ _)) hQ), Bh (wk1 rfl (wk1 rfl (wk1 rfl (wk1 rfl (wk1 rfl (wk1 rfl (wk1 rfl (wk1 rfl (wk1 rfl wk0))))))))) (Ai rM (Ai rM (Ai rM (Ai rM (Ai rM (Ai rM (Ai rM (Ai rM Au))))))))⟩)
     ·
      have hs10_5 := nd_f hs10_50
      have hs10_5 := hs10_50
      refine .build (cs := [.bool false, .bool false]) J J J (fun w => by kernel_rfl) ?_
      refine .na (.block (.sr (.build (cs := [.bool true, .bool true]) J J J (fun w => by kernel_rfl) ?_)))
      refine .eql_rec (q := (false == true && false == true)) (r := false) J J J J pair_eg (fun w => pair_eq false false true true w) J (.a J J J (.na (.cond_f J J (.sr (.build (cs := [.bool true, .bool false]) J J J (fun w => by kernel_rfl) ?_)))))
      refine .eql_rec (q := (false == true && false == false)) (r := false) J J J J pair_eg (fun w => pair_eq false false true false w) J (.a J J J (.na (.cond_f J J (.sr (.build (cs := [.bool false, .bool true]) J J J (fun w => by kernel_rfl) ?_)))))
      refine .eql_rec (q := (false == false && false == true)) (r := false) J J J J pair_eg (fun w => pair_eq false false false true w) J (.a J J J (.na (.cond_f J J (.skip (Bj (Bj (Ae ?_)))))))
      (exact ⟨Wd.dbl p.2, (by rw [lin_ff hj hP hQ hs10_2 hs10_5]; exact (cv.rep_dbl hw (cv.on_lin hP hQ _ _))), Bh (wk1 rfl (wk1 rfl (wk1 rfl (wk1 rfl (wk1 rfl (wk1 rfl (wk1 rfl (wk1 rfl (wk1 rfl wk0))))))))) (Ai rM (Ai rM (Ai rM (Ai rM (Ai rM (Ai rM (Ai rM (Ai rM Au))))))))⟩)
   ·
    intro u hj
    have hu := hj
    refine .region (.m J J J (.sub_i64 J J J J oM (.a J J J (.na ?_))))
    exact ⟨(p.1 + 1, u), ⟨by simp only []; omega, hu⟩, by simp only []; omega, Bh (wk1 rfl (wk1 rfl (wk1 rfl (wk1 rfl (wk1 rfl (wk1 rfl (wk1 rfl (wk1 rfl (wk1 (congrArg (fun z => some (i64 z)) (show ((255 - p.1 : Nat) : Int) - 1 = 255 - ((p.1 + 1 : Nat) : Int) by omega)) wk0))))))))) (Ai rM (Ai rM (Ai rM (Ai rM (Ai rM (Ai rM (Ai rM (Ai rM Au))))))))⟩
  ·
   have hje : p.1 = 256 := by omega
   have hfin : p.2.rep (cv.lin (le a) (le b) P Q) := by rw [hje, lin_last] at hw; exact hw
   refine .exit (A1 (A1 (B5 (Ae (.sr (.cV J J J J Body183 (wide_pointR n13 p.2 _ hfin) (fun w h => Ak h Z0) ?_))))))
   refine .sA J J J J (Point.isCell zP) B9 (Point.length zP) (by exact mem5) (Point.length zZ) (by exact upd5) ?_
   refine .na (.ret (An ?_))
   refine ⟨_, [], Ao J J Y79 J B9 (by exact mem5) (by exact Point.length zP), sP, sP, ?_, rfl⟩
   rfl

theorem ptc_y (P : Pt Fp) : (ptc P).fY = fb P.y := rfl
theorem le_zero32 : le (List.replicate 32 0) = 0 := by kernel_rfl
theorem curve_Mul2z (a : List UInt8) (P : Pt Fp) (ha : a.length = 32) (hP : cv.on P) : Meets Tryz.prog 109 [agg (Aa a), agg (ptc P).cells, agg (Aa (List.replicate 32 0)), agg (ptc (zero : Pt Fp)).cells] [] (fun _ => True) (fun v out => v = agg (ptc (cv.mul (le a) P)).cells ∧ out = []) := by
  have h := curve_Mul2 a (List.replicate 32 0) P zero ha rfl hP cv.on_zero
  rwa [le_zero32, lin_one] at h

theorem curve_Mul (a : List UInt8) (P : Pt Fp) (ha : a.length = 32) (hP : cv.on P) : Meets Tryz.prog 159 [agg (Aa a), agg (ptc P).cells] [] (fun _ => True) (fun v out => v = agg (ptc (cv.mul (le a) P)).cells ∧ out = []) := by
 intro W hW
 refine Ab Tryz.func159 J 10 Tryz.ntmps159 J (.sr (.boxA J J ?_))
 intro n2 hn2 hf2
 refine .boxA J J ?_
 intro n3 hn3 hf3
 refine .alloc (cs := Point.zero.cells) J Point.zr J ?_
 intro n4 hn4 hf4
 refine .na (.seq (.draw [(1, 0), (1, 1), (0, 2), (3, 3), (3, 4), (4, 5)] Ar zK (.lA J J J Y77 J Ad Z2 (by (simp [ha]; done)) ?_)))
 refine .lA J J J Y79 J B9 Z1 (Point.length zP) ?_
 refine .build (cs := Aa (List.replicate 32 0)) J J J (fun w => by kernel_rfl) ?_
 refine .cV J J J J Body178 (curve_Zero) tV (.cV J J J J Body109 (curve_Mul2z a P ha hP) tV (.sA J J J J (Point.isCell zP) B9 (Point.length zP) Z0 (Point.length zZ) zU ?_))
 refine .na (.ret (An ?_))
 refine ⟨_, [], Ao J J Y79 J B9 Z0 (by exact Point.length zP), sP, sP, ?_, rfl⟩
 rfl

theorem curve_Neg (P : Pt Fp) (hP : cv.on P) : Meets Tryz.prog 111 [agg (ptc P).cells] [] (fun _ => True) (fun v out => v = agg (ptc (neg P)).cells ∧ out = []) := by
 intro W hW
 refine Ab Tryz.func111 J 13 Tryz.ntmps111 J (.sr (.boxA J J ?_))
 intro n1 hn1 hf1
 refine .alloc (cs := Point.zero.cells) J Point.zr J ?_
 intro n2 hn2 hf2
 refine .na (.seq (.sr (.lA J J J Y79 J B9 Z1 (Point.length zP) ?_)))
 refine .cV J J J J Body177 (curve_Check_on P hP) tV (.nei J J J J (show (!decide _) = false from congrArg not (decide_eq_true (rfl))) (.na (.cond_f J (rfl) (.skip (Ae (.seq (.draw [(0, 0), (1, 1), (0, 3), (1, 4), (3, 2), (0, 5), (4, 6)] Ar zK (.fld J J J Y79 J Ad dE _ J (.lN (Aa _) J J J Y77 J Ad Z1 (Point.row_fX zP) (Point.rl_fX zP) ?_)))))))))
 refine .fld J J J Y79 J Ad dE _ J (.lN (Aa _) J J J Y77 J Ad Z1 (Point.row_fY zP) (Point.rl_fY zP) ?_)
 refine .cV J J J J Body176 (f_neg _) tV (.build (cs := (ptc (neg P)).cells) J J J (fun w => by kernel_rfl) ?_)
 refine .sA J J J J (Point.isCell zP) B9 (Point.length zP) Z0 (Point.length zZ) zU ?_
 refine .na (.ret (An ?_))
 refine ⟨_, [], Ao J J Y79 J B9 Z0 (by exact Point.length zP), sP, sP, ?_, rfl⟩
 rfl

theorem curve_Bytes (P : Pt Fp) (hP : cv.on P) : Meets Tryz.prog 158 [agg (ptc P).cells] [] (fun _ => True) (fun v out => v = .tuple #[agg (Aa (pb P)), i64 0] ∧ out = []) := by
 intro W hW
 refine Ab Tryz.func158 J 22 Tryz.ntmps158 J (.sr (.boxA J J ?_))
 intro n1 hn1 hf1
 refine .alloc (cs := (Aa (List.replicate 32 0))) J Zr23 J ?_
 intro n2 hn2 hf2
 refine .a J J J (.na (.seq (.sr (.lA J J J Y79 J B9 Z1 (Point.length zP) ?_))))
 refine .cV J J J J Body177 (curve_Check_on P hP) tV (.a J J J (.nsr (.m J J J (.nei J J J J (show (!decide _) = false from congrArg not (decide_eq_true (rfl))) (.na (.cond_f J (rfl) (.skip (Ae (.sr (.fld J J J Y79 J Ad dE _ J (.lN (Aa _) J J J Y77 J Ad Z1 (Point.row_fY zP) (Point.rl_fY zP) ?_)))))))))))
 refine .alloc (cs := (Aa (List.replicate 32 0))) J Zr23 J ?_
 intro n5 hn5 hf5
 refine .sA J J J J zE Sz23 (by (simp [Aq, ptc_y]; done)) Z0 sP zU ?_
 refine .na (.join (ι := Unit) (fun _u => ⟨[(2, ptr n2 0), (5, ptr n5 0)], [⟨n5, Aa (pb P), 23, 32⟩, ⟨n2, Aa (List.replicate 32 0), 23, 32⟩]⟩) (fun _u => True) ?_ ?_)
 ·
  refine .sr (.fld J J J Y79 J Ad dE _ J (.lN (Aa _) J J J Y77 J Ad Z2 (Point.row_fX zP) (Point.rl_fX zP) ?_))
  refine .cV J J J J Body215 (f_odd P.x) tV (.na (.condP J (fun hc1 => ?_) (fun hc1 => ?_)))
  ·
   refine .region (.i1 J J J J Y23 Sz5 31 J dE (.load1 J J J Y5 J Z0 (by rfl) ?_))
   refine .or_u8 J J J (show Ah _ _ = some (u8 128) from rfl) (.i1 J J J J Y23 Sz5 31 J dE (.s1 J J J J J Sz5 Z0 (by (simp [Aq, ptc_y]; done)) (by exact Bb _ _ _) zU ?_))
   refine .na ?_
   (rw [show pb P = (fb P.y).set 31 ((fb P.y).getD 31 0 ||| 128) from if_pos hc1]; exact ⟨(), trivial, Ac (wk1 rfl (wk1 rfl wk0)) (wh1 Z0 (wh1 Z1 wh0)) nD⟩)
  ·
   refine .skip (Ae ?_)
   (rw [show pb P = fb P.y from if_neg hc1]; exact ⟨(), trivial, Ac (wk1 rfl (wk1 rfl wk0)) (wh1 Z0 (wh1 Z1 wh0)) nD⟩)
 ·
  intro _u hj
  skip
  refine .sr (.lA J J J Y23 J Sz23 Z0 (by (simp [Bz]; done)) ?_)
  refine .sA J J J J zE Sz23 (by (simp [Bz]; done)) Z1 sP zV ?_
  refine .a J J J (.na (.ret (An ?_)))
  refine ⟨_, [], A0 J J J Y23 J Sz23 Z1 (by simp [Bz]), sP, sP, ?_, rfl⟩
  rfl

def rdV (b : List UInt8) : Value := match rdP b with
  | some P => .tuple #[agg (ptc P).cells, i64 0]
  | none => .tuple #[agg Point.zero.cells, i64 4]
theorem rdV_none {b : List UInt8} (h : rdP b = none) : rdV b = .tuple #[agg Point.zero.cells, i64 4] := by rw [rdV, h]
theorem rdV_some {b : List UInt8} {P : Pt Fp} (h : rdP b = some P) : rdV b = .tuple #[agg (ptc P).cells, i64 0] := by rw [rdV, h]
theorem rd_n1 {b : List UInt8} (h : ¬ fb (fe (le (lowB b))) = lowB b) : rdP b = none := by rw [rdP, if_neg h]
theorem rd_n2 {b : List UInt8} {r : Fp × Bool} (hx : xOf (fe (le (lowB b))) = r) (h : r.2 = false) : rdP b = none := by
  rw [rdP]
  split
  · rw [hx, if_neg (by rw [h]; simp)]
  · rfl
theorem rd_n3 {b : List UInt8} {r : Fp × Bool} (hx : xOf (fe (le (lowB b))) = r) (h1 : topB b = true) (h : fb r.1 = List.replicate 32 0) : rdP b = none := by
  have h2 : r.1 = 0 := fb_inj.1 (h.trans fb_zero.symm)
  rw [rdP]
  split
  · rw [hx, if_neg (fun e => e.2 ⟨h1, h2⟩)]
  · rfl
theorem rd_s1 {b : List UInt8} {r : Fp × Bool} (hc : fb (fe (le (lowB b))) = lowB b) (hx : xOf (fe (le (lowB b))) = r) (h2 : r.2 = true) (h1 : topB b = true) (h : ¬ fb r.1 = List.replicate 32 0) : rdP b = some ⟨-r.1, fe (le (lowB b))⟩ := by
  rw [rdP, if_pos hc, hx, if_pos ⟨h2, fun e => h (by rw [e.2, fb_zero])⟩, if_pos h1]
theorem rd_s2 {b : List UInt8} {r : Fp × Bool} (hc : fb (fe (le (lowB b))) = lowB b) (hx : xOf (fe (le (lowB b))) = r) (h2 : r.2 = true) (h1 : topB b = false) : rdP b = some ⟨r.1, fe (le (lowB b))⟩ := by
  rw [rdP, if_pos hc, hx, if_pos ⟨h2, fun e => by rw [h1] at e; cases e.1⟩, if_neg (by rw [h1]; decide)]
theorem topB_t {b : List UInt8} (h : ¬ ((b.getD 31 0 &&& 128).toNat : Int) = 0) : topB b = true := by rw [topB, decide_eq_false h]; rfl
theorem topB_f {b : List UInt8} (h : ((b.getD 31 0 &&& 128).toNat : Int) = 0) : topB b = false := by rw [topB, decide_eq_true h]; rfl

theorem curve_Read (b : List UInt8) (hb : b.length = 32) : Meets Tryz.prog 108 [agg (Aa b)] [] (fun _ => True) (fun v out => v = rdV b ∧ out = []) := by
 intro W hW
 have hll := lowB_length hb
 obtain ⟨Y, hY⟩ : ∃ Y, fe (le (lowB b)) = Y := ⟨_, rfl⟩
 have hcan := field_Canon (lowB b) hll
 have hmul := field_Mul (lowB b) (lowB b) hll hll
 have hinv := f_inv (fD * (Y * Y) + 1)
 have hxo : xOf Y = fRoot ((Y * Y - 1) * finv (fD * (Y * Y) + 1)) := rfl
 revert hinv hxo
 generalize finv (fD * (Y * Y) + 1) = iz
 intro hinv hxo
 have hroot := field_Root (fb ((Y * Y - 1) * iz)) ((Y * Y - 1) * iz) (Aq _) (fe_fb _)
 revert hroot hxo
 generalize fRoot ((Y * Y - 1) * iz) = xr
 intro hxo hroot
 rw [← hY] at hxo
 rw [hY] at hcan hmul
 refine Ab Tryz.func108 J 60 Tryz.ntmps108 J (.sr (.boxA J J ?_))
 intro n1 hn1 hf1
 refine .alloc (cs := Point.zero.cells) J Point.zr J ?_
 intro n2 hn2 hf2
 refine .a J J J (.nsr (.i1 J J J J Y23 Sz5 31 J dE (.load1 J J J Y5 J Z1 zG ?_)))
 refine .and_u8 J J J (show Ah _ _ = some (u8 128) from rfl) (two (fun r hr k => Tr.nei J J J J hr k) (fun hs1_30 => ?_) (fun hs1_30 => ?_))
 ·
  have hs1_3 := nd_t hs1_30
  refine .a J J J (.nsr (.lA J J J Y23 J Sz23 Z1 (by (simp [hb]; done)) ?_))
  refine .alloc (cs := (Aa (List.replicate 32 0))) J Bs J ?_
  intro n5 hn5 hf5
  refine .sA J J J J zE Ad (by (simp [hb]; done)) Z0 sP zU ?_
  refine .nsr (.i1 J J J J Y77 Sz5 31 J dE (.load1 J J J Y5 J Z0 zG ?_))
  refine .and_u8 J J J (show Ah _ _ = some (u8 127) from rfl) (.i1 J J J J Y77 Sz5 31 J dE (.s1 J J J J J Sz5 Z0 (by (simp [hb]; done)) (by exact Bb _ _ _) zU ?_))
  refine .na (.seq (.sr (.lA J J J Y77 J Ad Z0 (by (simp [hb]; done)) ?_)))
  refine .cV J J J J Body168 (hcan) tV (.not J J J (.na (.cond J (fun hc0 => ?_) (fun hc0 => ?_))))
  ·
   have hcn : ¬ fb Y = lowB b := of_decide_eq_false (by simpa using hc0)
   refine .sr (.build (cs := Point.zero.cells) J J J (fun w => by kernel_rfl) ?_)
   refine .sA J J J J (Point.isCell zZ) B9 (Point.length zZ) Z1 (Point.length zZ) zV ?_
   refine .a J J J (.na (.ret (Bg (An ?_))))
   refine ⟨_, [], A0 J J J Y79 J B9 Z1 (by exact Point.length zZ), sP, sP, ?_, rfl⟩
   exact (rdV_none (rd_n1 (by rw [hY]; exact hcn))).symm
  ·
   have hcy : fb Y = lowB b := of_decide_eq_true (by simpa using hc0)
   refine .skip (Ae (.sr (.lA J J J Y77 J Ad Z0 (by (simp [hb]; done)) ?_)))
   refine .lA J J J Y77 J Ad Z0 (by (simp [hb]; done)) ?_
   refine .cV J J J J Cq (hmul) tV (.alloc (cs := (Aa (List.replicate 32 0))) J Bs J ?_)
   intro n6 hn6 hf6
   refine .sA J J J J zE Ad zF Z0 sP zU ?_
   refine .na (.seq (.draw [(1, 0), (3, 1), (3, 2), (2, 3), (4, 4)] Ar zK (.lA J J J Y77 J Ad Z0 zF ?_)))
   refine .cV J J J J Body171 (f_one) tV (.cV J J J J Body170 (f_sub _ _) tV (.alloc (cs := (Aa (List.replicate 32 0))) J Bs J ?_))
   intro n7 hn7 hf7
   refine .sA J J J J zE Ad zF Z0 sP zU ?_
   refine .na (.seq (.draw [(1, 1), (3, 0), (3, 2), (3, 3), (3, 4), (2, 5), (4, 6)] Ar zK (.lA J J J Y77 J Ad Z1 zF ?_)))
   refine .cV J J J J Body173 (curve_D) tV (.cV J J J J Cq (f_mul _ _) tV (.cV J J J J Body171 (f_one) tV (.cV J J J J Body172 (f_add _ _) tV (.alloc (cs := (Aa (List.replicate 32 0))) J Bs J ?_))))
   intro n8 hn8 hf8
   refine .sA J J J J zE Ad zF Z0 sP zU ?_
   refine .na (.seq (.draw [(1, 0), (1, 1), (3, 2), (3, 3), (3, 4), (0, 5), (0, 6), (0, 7), (2, 8), (4, 9), (0, 10)] Ar zK (.lA J J J Y77 J Ad Z1 zF ?_)))
   refine .lA J J J Y77 J Ad Z0 zF ?_
   refine .cV J J J J Body175 (hinv) tV (.cV J J J J Cq (f_mul _ _) tV (.cV J J J J Body174 (hroot) tV (.m J J J (.eX J J J J (.extractB J J J J (fun hs9_70 => ?_) (fun hs9_70 => ?_))))))
   ·
    have hs9_7 := hs9_70
    refine .alloc (cs := (Aa (List.replicate 32 0))) J Bs J ?_
    intro n9 hn9 hf9
    refine .sA J J J J zE Ad zF Z0 sP zU ?_
    refine .a J J J (.na (.seq (.sr (.m J J J (.not J J J (.m J J J (.m J J J (.m J J J (.lA J J J Y77 J Ad Z0 zF ?_)))))))))
    refine .build (cs := Aa (List.replicate 32 0)) J J J (fun w => by kernel_rfl) ?_
    refine two (fun r hr k => Tr.eql_bytes J J J J Tryz.eqGuardType77 Y77 Y5 Sz5 zF sP hr k) (fun hs10_70 => ?_) (fun hs10_70 => ?_)
    ·
     have hs10_7 := of_decide_eq_true hs10_70
     refine .pick J J J J J J (.pick J J J J J J (.na (.cond_t J J (.sr (.build (cs := Point.zero.cells) J J J (fun w => by kernel_rfl) ?_)))))
     refine .sA J J J J (Point.isCell zZ) B9 (Point.length zZ) (by exact mem5) (Point.length zZ) (by exact upd5) ?_
     refine .a J J J (.na (.ret (Bg (An ?_))))
     refine ⟨_, [], A0 J J J Y79 J B9 (by exact mem5) (by exact Point.length zZ), sP, sP, ?_, rfl⟩
     exact (rdV_none (rd_n3 hxo (topB_t hs1_3) hs10_7)).symm
    ·
     have hs10_7 := of_decide_eq_false hs10_70
     refine .pick J J J J J J (.pick J J J J J J (.na (.cond_f J J (.skip (Ae (.seq (.sr (.m J J J (.na (.cond_t J J (.region (.lA J J J Y77 J Ad Z0 zF ?_))))))))))))
     refine .cV J J J J Body176 (f_neg _) tV (.sA J J J J zE Ad zF Z0 zF zU ?_)
     refine .nsr ?_
     rw [show b.set 31 (b.getD 31 0 &&& 127) = fb Y from hcy.symm]
     refine .lA J J J Y77 J Ad Z0 zF ?_
     refine .lA J J J Y77 J Ad Z4 zF ?_
     refine .build (cs := (⟨fb (-xr.1), fb Y⟩ : Point).cells) J J J (fun w => by kernel_rfl) ?_
     refine .sA J J J J (Point.isCell (by exact ⟨C3 _, C3 _⟩)) B9 (Point.length (by exact ⟨C3 _, C3 _⟩)) (by exact mem5) (Point.length zZ) (by exact upd5) ?_
     refine .a J J J (.na (.ret (An ?_)))
     refine ⟨_, [], A0 J J J Y79 J B9 (by exact mem5) (by exact Point.length (by exact ⟨C3 _, C3 _⟩)), sP, sP, ?_, rfl⟩
     (rw [rdV_some (rd_s1 (by rw [hY]; exact hcy) hxo hs9_7 (topB_t hs1_3) hs10_7), hY]; rfl)
   ·
    have hs9_7 := hs9_70
    refine .alloc (cs := (Aa (List.replicate 32 0))) J Bs J ?_
    intro n9 hn9 hf9
    refine .sA J J J J zE Ad zF Z0 sP zU ?_
    refine .a J J J (.na (.seq (.sr (.m J J J (.not J J J (.m J J J (.skp J J (.skp J J (.skp J J (.skp J J (.skp J J (.skp J J (.pick J J J J J J (.na (.cond_t J J (.sr (.build (cs := Point.zero.cells) J J J (fun w => by kernel_rfl) ?_)))))))))))))))))
    refine .sA J J J J (Point.isCell zZ) B9 (Point.length zZ) (by exact mem5) (Point.length zZ) (by exact upd5) ?_
    refine .a J J J (.na (.ret (Bg (An ?_))))
    refine ⟨_, [], A0 J J J Y79 J B9 (by exact mem5) (by exact Point.length zZ), sP, sP, ?_, rfl⟩
    exact (rdV_none (rd_n2 hxo hs9_7)).symm
 ·
  have hs1_3 := nd_f hs1_30
  refine .a J J J (.nsr (.lA J J J Y23 J Sz23 Z1 (by (simp [hb]; done)) ?_))
  refine .alloc (cs := (Aa (List.replicate 32 0))) J Bs J ?_
  intro n5 hn5 hf5
  refine .sA J J J J zE Ad (by (simp [hb]; done)) Z0 sP zU ?_
  refine .nsr (.i1 J J J J Y77 Sz5 31 J dE (.load1 J J J Y5 J Z0 zG ?_))
  refine .and_u8 J J J (show Ah _ _ = some (u8 127) from rfl) (.i1 J J J J Y77 Sz5 31 J dE (.s1 J J J J J Sz5 Z0 (by (simp [hb]; done)) (by exact Bb _ _ _) zU ?_))
  refine .na (.seq (.sr (.lA J J J Y77 J Ad Z0 (by (simp [hb]; done)) ?_)))
  refine .cV J J J J Body168 (hcan) tV (.not J J J (.na (.cond J (fun hc0 => ?_) (fun hc0 => ?_))))
  ·
   have hcn : ¬ fb Y = lowB b := of_decide_eq_false (by simpa using hc0)
   refine .sr (.build (cs := Point.zero.cells) J J J (fun w => by kernel_rfl) ?_)
   refine .sA J J J J (Point.isCell zZ) B9 (Point.length zZ) Z1 (Point.length zZ) zV ?_
   refine .a J J J (.na (.ret (Bg (An ?_))))
   refine ⟨_, [], A0 J J J Y79 J B9 Z1 (by exact Point.length zZ), sP, sP, ?_, rfl⟩
   exact (rdV_none (rd_n1 (by rw [hY]; exact hcn))).symm
  ·
   have hcy : fb Y = lowB b := of_decide_eq_true (by simpa using hc0)
   refine .skip (Ae (.sr (.lA J J J Y77 J Ad Z0 (by (simp [hb]; done)) ?_)))
   refine .lA J J J Y77 J Ad Z0 (by (simp [hb]; done)) ?_
   refine .cV J J J J Cq (hmul) tV (.alloc (cs := (Aa (List.replicate 32 0))) J Bs J ?_)
   intro n6 hn6 hf6
   refine .sA J J J J zE Ad zF Z0 sP zU ?_
   refine .na (.seq (.draw [(1, 0), (3, 1), (3, 2), (2, 3), (4, 4)] Ar zK (.lA J J J Y77 J Ad Z0 zF ?_)))
   refine .cV J J J J Body171 (f_one) tV (.cV J J J J Body170 (f_sub _ _) tV (.alloc (cs := (Aa (List.replicate 32 0))) J Bs J ?_))
   intro n7 hn7 hf7
   refine .sA J J J J zE Ad zF Z0 sP zU ?_
   refine .na (.seq (.draw [(1, 1), (3, 0), (3, 2), (3, 3), (3, 4), (2, 5), (4, 6)] Ar zK (.lA J J J Y77 J Ad Z1 zF ?_)))
   refine .cV J J J J Body173 (curve_D) tV (.cV J J J J Cq (f_mul _ _) tV (.cV J J J J Body171 (f_one) tV (.cV J J J J Body172 (f_add _ _) tV (.alloc (cs := (Aa (List.replicate 32 0))) J Bs J ?_))))
   intro n8 hn8 hf8
   refine .sA J J J J zE Ad zF Z0 sP zU ?_
   refine .na (.seq (.draw [(1, 0), (1, 1), (3, 2), (3, 3), (3, 4), (0, 5), (0, 6), (0, 7), (2, 8), (4, 9), (0, 10)] Ar zK (.lA J J J Y77 J Ad Z1 zF ?_)))
   refine .lA J J J Y77 J Ad Z0 zF ?_
   refine .cV J J J J Body175 (hinv) tV (.cV J J J J Cq (f_mul _ _) tV (.cV J J J J Body174 (hroot) tV (.m J J J (.eX J J J J (.extractB J J J J (fun hs9_70 => ?_) (fun hs9_70 => ?_))))))
   ·
    have hs9_7 := hs9_70
    refine .alloc (cs := (Aa (List.replicate 32 0))) J Bs J ?_
    intro n9 hn9 hf9
    refine .sA J J J J zE Ad zF Z0 sP zU ?_
    refine .a J J J (.na (.seq (.sr (.m J J J (.not J J J (.m J J J (.m J J J (.m J J J (.skp J J (.skp J J (.skp J J (.pick J J J J J J (.pick J J J J J J (.na (.cond_f J J (.skip (Ae (.seq (.sr (.m J J J (.na (.cond_f J J (.skip (Ae (.sr ?_)))))))))))))))))))))))))
    rw [show b.set 31 (b.getD 31 0 &&& 127) = fb Y from hcy.symm]
    refine .lA J J J Y77 J Ad Z0 zF ?_
    refine .lA J J J Y77 J Ad Z4 zF ?_
    refine .build (cs := (⟨fb xr.1, fb Y⟩ : Point).cells) J J J (fun w => by kernel_rfl) ?_
    refine .sA J J J J (Point.isCell (by exact ⟨C3 _, C3 _⟩)) B9 (Point.length (by exact ⟨C3 _, C3 _⟩)) (by exact mem5) (Point.length zZ) (by exact upd5) ?_
    refine .a J J J (.na (.ret (An ?_)))
    refine ⟨_, [], A0 J J J Y79 J B9 (by exact mem5) (by exact Point.length (by exact ⟨C3 _, C3 _⟩)), sP, sP, ?_, rfl⟩
    (rw [rdV_some (rd_s2 (by rw [hY]; exact hcy) hxo hs9_7 (topB_f hs1_3)), hY]; rfl)
   ·
    have hs9_7 := hs9_70
    refine .alloc (cs := (Aa (List.replicate 32 0))) J Bs J ?_
    intro n9 hn9 hf9
    refine .sA J J J J zE Ad zF Z0 sP zU ?_
    refine .a J J J (.na (.seq (.sr (.m J J J (.not J J J (.m J J J (.skp J J (.skp J J (.skp J J (.skp J J (.skp J J (.skp J J (.pick J J J J J J (.na (.cond_t J J (.sr (.build (cs := Point.zero.cells) J J J (fun w => by kernel_rfl) ?_)))))))))))))))))
    refine .sA J J J J (Point.isCell zZ) B9 (Point.length zZ) (by exact mem5) (Point.length zZ) (by exact upd5) ?_
    refine .a J J J (.na (.ret (Bg (An ?_))))
    refine ⟨_, [], A0 J J J Y79 J B9 (by exact mem5) (by exact Point.length zZ), sP, sP, ?_, rfl⟩
    exact (rdV_none (rd_n2 hxo hs9_7)).symm

end Go.Proofs.YtpacobmjjjillaaGreat
end

section
namespace Go.Proofs.YtpacobmjjjillaaGreat
open Go Hw

open Ed

def Cd (l : List UInt8) : List UInt8 := sumUp (allW kW startW l) 64
theorem Cy (l : List UInt8) : (Cd l).length = 64 := Cz _ _
theorem sha_StartS (s : List UInt64) (h : Hid (startW = s)) : Meets Tryz.prog 204 [] [] (fun _ => True) (fun v out => v = agg (Af s) ∧ out = []) := by
  rw [← h.out]; exact sha_Start

theorem sha_Sum512 (p : Option Addr) (n c : Nat) (ss : List Sl) (ls : List (List UInt8)) (hss : ss.length = n) (hls : ls.length = n) (hsl : ∀ j, j < n → (ss.getD j Sl.nil).n = (ls.getD j []).length ∧ ((ss.getD j Sl.nil).p = none → (ss.getD j Sl.nil).n = 0)) (F : List UInt8) (hF : ls.flatten = F) (htot : F.length ≤ 90000) (hn : n ≤ 1000000) (s : List UInt8) (hs : Hid (Cd F = s))  : Meets Tryz.prog 160 [.slice p n c] [] (fun W => SeesP W p (ss.map Sl.v) ∧ ∀ j, j < n → SeesP W (ss.getD j Sl.nil).p (Aa (ls.getD j []))) (fun v out => v = agg (Aa s) ∧ out = []) := by
 intro W hW
 have hs64 : s.length = 64 := by rw [← hs.out]; exact Cy F
 obtain ⟨k, hk⟩ : ∃ k, Hid (kW = k) := ⟨_, ⟨rfl⟩⟩
 obtain ⟨st, hst⟩ : ∃ k, Hid (startW = k) := ⟨_, ⟨rfl⟩⟩
 obtain ⟨r, hr⟩ : ∃ r, Hid (allW k st F = r) := ⟨_, ⟨rfl⟩⟩
 have hk80 : k.length = 80 := by rw [← hk.out]; rfl
 have hst8 : st.length = 8 := by rw [← hst.out]; rfl
 have hr8 : r.length = 8 := by rw [← hr.out, allW_length]; exact hst8
 have hs2 : Hid (sumUp r 64 = s) := ⟨by rw [← hs.out, Cd, hk.out, hst.out, hr.out]⟩
 refine Ab Tryz.func160 J 7 Tryz.ntmps160 J (.sr (.alloc (cs := (Aa (List.replicate 64 0))) J Zr26 J ?_))
 intro n2 hn2 hf2
 refine .nsr (.cV J J J J Body204 (sha_StartS st hst) tV (.m J J J (.cV J J J J Body127 (sha_whole st hst8 k hk hk80 p n c ss ls hss hls hsl F hF htot hn) (fun w h => ⟨Ax h J hW.1, fun j hj => Ax h J (hW.2 j hj)⟩) ?_)))
 rw [hr.out]
 refine .cV J J J J Body126 (sha_sum r hr8 s hs2) tV (.sA J J J J zE Sz26 (by (simp [hs64]; done)) Z0 sP zU ?_)
 refine .na (.ret (An ?_))
 refine ⟨_, [], Ao J J Y26 J Sz26 Z0 (by simp [hs64]), sP, sP, ?_, rfl⟩
 rfl

theorem sign_residue (p : Option Addr) (n c : Nat) (ss : List Sl) (ls : List (List UInt8)) (hss : ss.length = n) (hls : ls.length = n) (hsl : ∀ j, j < n → (ss.getD j Sl.nil).n = (ls.getD j []).length ∧ ((ss.getD j Sl.nil).p = none → (ss.getD j Sl.nil).n = 0)) (F : List UInt8) (hF : ls.flatten = F) (htot : F.length ≤ 90000) (hn : n ≤ 1000000) (s : List UInt8) (hs : Hid (Cd F = s))  : Meets Tryz.prog 105 [.slice p n c] [] (fun W => SeesP W p (ss.map Sl.v) ∧ ∀ j, j < n → SeesP W (ss.getD j Sl.nil).p (Aa (ls.getD j []))) (fun v out => v = agg (Aa (leb 32 (le s % L))) ∧ out = []) := by
 intro W hW
 have hs64 : s.length = 64 := by rw [← hs.out]; exact Cy F
 refine Ab Tryz.func105 J 14 Tryz.ntmps105 J (.sr (.alloc (cs := (Aa (List.replicate 32 0))) J Bs J ?_))
 intro n2 hn2 hf2
 refine .nsr (.m J J J (.cV J J J J Body160 (sha_Sum512 p n c ss ls hss hls hsl F hF htot hn s hs) (fun w h => ⟨Ax h J hW.1, fun j hj => Ax h J (hW.2 j hj)⟩) (.alloc (cs := (Aa (List.replicate 64 0))) J Zr26 J ?_)))
 intro n3 hn3 hf3
 refine .sA J J J J zE Sz26 (by (simp [hs64]; done)) Z0 sP zU ?_
 refine .nsr (.sliceArr J J J Y26 Sz5 (.cV J J J J Body161 (scalar_rest n3 0 64 64 s hs64 dE) (fun w h => Ak h Z0) ?_))
 refine .m J J J (.eX J J J J (.eX J J J J (.alloc (cs := (Aa (List.replicate 32 0))) J Bs J ?_)))
 intro n4 hn4 hf4
 refine .sA J J J J zE Ad (by (simp [Aj]; done)) Z0 sP zU ?_
 refine .a J J J (.nsr (.lA J J J Y77 J Ad Z0 (by (simp [Aj]; done)) ?_))
 refine .sA J J J J zE Ad (by (simp [Aj]; done)) Z2 sP (by exact upd2) ?_
 refine .na (.ret (An ?_))
 refine ⟨_, [], Ao J J Y77 J Ad Z2 (by simp [Aj]), sP, sP, ?_, rfl⟩
 rfl

theorem sign_multiple (a : List UInt8) (ha : a.length = 32) : Meets Tryz.prog 103 [agg (Aa a)] [] (fun _ => True) (fun v out => v = agg (Aa (pb (cv.mul (le a) bP))) ∧ out = []) := by
 intro W hW
 obtain ⟨Q, hQ⟩ : ∃ Q, cv.mul (le a) bP = Q := ⟨_, rfl⟩
 have hQo : cv.on Q := by rw [← hQ]; exact cv.on_mul bP_on _
 have hmul := curve_Mul a bP ha bP_on
 rw [hQ] at hmul ⊢
 refine Ab Tryz.func103 J 13 Tryz.ntmps103 J (.sr (.boxA J J ?_))
 intro n1 hn1 hf1
 refine .alloc (cs := (Aa (List.replicate 32 0))) J Zr23 J ?_
 intro n2 hn2 hf2
 refine .na (.seq (.draw [(1, 0), (3, 1), (3, 2), (3, 3), (0, 4), (0, 5), (0, 6), (2, 7), (4, 8), (0, 9)] Ar zK (.lA J J J Y77 J Ad Z1 (by (simp [ha]; done)) ?_)))
 refine .cV J J J J Body110 (curve_Base) tV (.cV J J J J Body159 (hmul) tV (.cV J J J J Body158 (curve_Bytes Q hQo) tV (.m J J J (.eX J J J J (.eX J J J J (.alloc (cs := (Aa (List.replicate 32 0))) J Zr23 J ?_))))))
 intro n3 hn3 hf3
 refine .sA J J J J zE Sz23 (by (simp [Bz]; done)) Z0 sP zU ?_
 refine .a J J J (.nsr (.lA J J J Y23 J Sz23 Z0 (by (simp [Bz]; done)) ?_))
 refine .sA J J J J zE Sz23 (by (simp [Bz]; done)) Z1 sP zV ?_
 refine .na (.ret (An ?_))
 refine ⟨_, [], Ao J J Y23 J Sz23 Z1 (by simp [Bz]), sP, sP, ?_, rfl⟩
 rfl

def clampB (l : List UInt8) : List UInt8 := (l.set 0 (l.getD 0 0 &&& 248)).set 31 (((l.getD 31 0) &&& 127) ||| 64)
theorem clampB_length {l : List UInt8} (h : l.length = 32) : (clampB l).length = 32 := by simp [clampB, h]
theorem clamp_all (l z : List UInt8) (h : l.length = 32) : ((l ++ z).set 0 ((l ++ z).getD 0 0 &&& 248)).set 31 (((((l ++ z).set 0 ((l ++ z).getD 0 0 &&& 248)).getD 31 0) &&& 127) ||| 64) = clampB l ++ z := by
  have g : ∀ i, i < 32 → (l ++ z).getD i 0 = l.getD i 0 := fun i hi => by
    rw [List.getD_eq_getElem?_getD, List.getElem?_append_left oM, ← List.getD_eq_getElem?_getD]
  have g2 : ((l ++ z).set 0 ((l ++ z).getD 0 0 &&& 248)).getD 31 0 = l.getD 31 0 := by
    rw [List.getD_eq_getElem?_getD, List.getElem?_set_ne dE, ← List.getD_eq_getElem?_getD, g 31 dE]
  rw [g2, g 0 dE, List.set_append_left _ _ oM, List.set_append_left _ _ (by simp; omega)]
  rfl
def secB (h : List UInt8) : secrets := ⟨clampB (h.take 32), h.drop 32⟩
theorem secB_ok {h : List UInt8} (hl : h.length = 64) : (secB h).ok := ⟨clampB_length (by rw [List.length_take, hl]; rfl), by show (h.drop 32).length = 32; rw [List.length_drop, hl]⟩
theorem sec_first (l : List UInt8) : ({ secrets.zero with fNumber := l } : secrets).cells = Aa (l ++ List.replicate 32 0) := by
  show Aa l ++ Aa (List.replicate 32 0) = _
  simp [Aa]
theorem sec_last (l : List UInt8) : Aa (clampB l ++ List.replicate 32 0) = (⟨clampB l, List.replicate 32 0⟩ : secrets).cells := by
  show _ = Aa (clampB l) ++ Aa (List.replicate 32 0)
  simp [Aa]
theorem d64 {s : List UInt8} (h : s.length = 64) : (s.drop 32).take 32 = s.drop 32 := List.take_of_length_le (by rw [List.length_drop, h]; decide)

theorem sign_expand (seed : List UInt8) (h32 : seed.length = 32) (s : List UInt8) (hs : Hid (Cd seed = s)) : Meets Tryz.prog 104 [agg (Aa seed)] [] (fun _ => True) (fun v out => v = agg (secB s).cells ∧ out = []) := by
 intro W hW
 have hs64 : s.length = 64 := by rw [← hs.out]; exact Cy seed
 have ht32 : (s.take 32).length = 32 := by rw [List.length_take, hs64]; rfl
 have hd32 : (s.drop 32).length = 32 := by rw [List.length_drop, hs64]
 refine Ab Tryz.func104 J 29 Tryz.ntmps104 J (.sr (.boxA J J ?_))
 intro n1 hn1 hf1
 refine .alloc (cs := secrets.zero.cells) J secrets.zr J ?_
 intro n2 hn2 hf2
 refine .nsr (.sliceArr J J J Y23 Sz5 (.mkRow2 (z := .slice none 0 0) [.slice (some ⟨n1, 0, none⟩) 32 32] [.slice (some ⟨n1, 0, none⟩) 32 32] rfl J Y133 Co Zr39 J J (by intro v hv; rw [List.mem_singleton.1 hv]; rfl) dE J ?_))
 intro q5
 refine .cV J J J J Body160 (sha_Sum512 (some ⟨q5, 0, none⟩) 1 1 [⟨some ⟨n1, 0, none⟩, 32, 32⟩] [seed] rfl J (fun j hj => (by obtain rfl : j = 0 := oM; exact ⟨by simp [h32], fun e => by cases e⟩)) seed sP oM dE s hs) (fun w h => ⟨SeesP.of (Ak h Z0), fun j hj => (by obtain rfl : j = 0 := oM; exact SeesP.of (Ak h Z2))⟩) ?_
 refine .alloc (cs := (Aa (List.replicate 64 0))) J Zr26 J ?_
 intro n3 hn3 hf3
 refine .sA J J J J zE Sz26 (by (simp [hs64]; done)) Z0 sP zU ?_
 refine .nsr (.sliceArrHi 32 J J J J J dE dE Y26 Sz5 (.s2a J J J Y77 oM (.lN (Aa (s.take 32)) J J J Y77 J Ad Z0 (by rw [List.drop_zero, ← List.map_take]) (by rw [List.length_map]; exact ht32) ?_)))
 refine .fld J J J Tryz.underlying114 J Ad dE _ J (.storeN (Aa _) J J J J J zE Ad (by simp [hs64]) Z2 (by rw [secrets.length (by exact secrets.zero_ok)]; simp [hs64]) (secrets.upd_fNumber (by exact secrets.zero_ok) _ (by simp [ht32])) (by exact upd2) ?_)
 refine .nsr ?_
 rw [sec_first]
 refine .fld J J J Tryz.underlying114 J Ad dE _ J (.i1 J J J J Y77 Sz5 0 J dE (.load1 J J J Y5 J Z2 (B0 (by simp [ht32])) ?_))
 refine .and_u8 J J J (show Ah _ _ = some (u8 248) from rfl) (.fld J J J Tryz.underlying114 J Ad dE _ J (.i1 J J J J Y77 Sz5 0 J dE (.s1 J J J J J Sz5 Z2 (by rw [Aa, List.length_map]; simp [ht32]) (by exact Bb _ 0 _) (by exact upd2) ?_)))
 refine .nsr (.fld J J J Tryz.underlying114 J Ad dE _ J (.i1 J J J J Y77 Sz5 31 J dE (.load1 J J J Y5 J Z2 (B0 (by simp [ht32])) ?_)))
 refine .and_u8 J J J (show Ah _ _ = some (u8 127) from rfl) (.or_u8 J J J (show Ah _ _ = some (u8 64) from rfl) (.fld J J J Tryz.underlying114 J Ad dE _ J (.i1 J J J J Y77 Sz5 31 J dE (.s1 J J J J J Sz5 Z2 (by rw [Aa, List.length_map]; simp [ht32]) (by exact Bb _ 31 _) (by exact upd2) ?_))))
 refine .nsr ?_
 rw [clamp_all _ _ ht32, sec_last]
 refine .sliceArrLo 32 J J J J J dE Y26 Sz5 (.s2a J J J Y23 oM (.lN (Aa (s.drop 32)) J J J Y23 J Sz23 Z0 (by show ((s.map u8).drop 32).take 32 = _; rw [← List.map_drop, ← List.map_take, d64 hs64]) (by rw [List.length_map]; exact hd32) ?_))
 refine .fld J J J Tryz.underlying114 J Sz23 dE _ J (.storeN (Aa _) J J J J J zE Sz23 (by simp [hs64]) Z2 (by rw [secrets.length (by exact ⟨clampB_length ht32, rfl⟩)]; simp [hs64]) (secrets.upd_fRest (by exact ⟨clampB_length ht32, rfl⟩) _ (by simp [hd32])) (by exact upd2) ?_)
 refine .nsr (.lA J J J Tryz.underlying114 J Sz114 Z2 (secrets.length (by exact secB_ok hs64)) ?_)
 refine .sA J J J J (secrets.isCell (by exact secB_ok hs64)) Sz114 (secrets.length (by exact secB_ok hs64)) Z2 (secrets.length (by exact secB_ok hs64)) (by exact upd2) ?_
 refine .na (.ret (An ?_))
 refine ⟨_, [], Ao J J Tryz.underlying114 J Sz114 Z2 (by exact secrets.length (by exact secB_ok hs64)), sP, sP, ?_, rfl⟩
 rfl

theorem sign_Key (seed : List UInt8) (h32 : seed.length = 32) (s : List UInt8) (hs : Hid (Cd seed = s)) : Meets Tryz.prog 58 [agg (Aa seed)] [] (fun _ => True) (fun v out => v = agg (Aa (pb (cv.mul (le (clampB (s.take 32))) bP))) ∧ out = []) := by
 intro W hW
 have hs64 : s.length = 64 := by rw [← hs.out]; exact Cy seed
 have hc32 : (clampB (s.take 32)).length = 32 := clampB_length (by rw [List.length_take, hs64]; rfl)
 have hm := sign_multiple (clampB (s.take 32)) hc32
 refine Ab Tryz.func58 J 7 Tryz.ntmps58 J (.sr (.boxA J J ?_))
 intro n1 hn1 hf1
 refine .alloc (cs := (Aa (List.replicate 32 0))) J Zr25 J ?_
 intro n2 hn2 hf2
 refine .nsr (.lA J J J Y23 J Sz23 Z1 (by (simp [h32]; done)) ?_)
 refine .cV J J J J Body104 (sign_expand seed h32 s hs) tV (.fieldN (Aa (clampB (s.take 32))) J J J Tryz.underlying114 J Y77 J Ad (secrets.row_fNumber (secB_ok hs64)) (.cV J J J J Body103 (hm) tV (.sA J J J J zE Sz25 (by (simp [Bz]; done)) Z0 sP zU ?_)))
 refine .na (.ret (An ?_))
 refine ⟨_, [], Ao J J Y25 J Sz25 Z0 (by simp [Bz]), sP, sP, ?_, rfl⟩
 rfl

end Go.Proofs.YtpacobmjjjillaaGreat
end

section
namespace Go.Proofs.YtpacobmjjjillaaGreat
open Go Hw

open Ed

def sgR (s : List UInt8) : List UInt8 := leb 32 (le s % L)
theorem sgR_length (s : List UInt8) : (sgR s).length = 32 := Aj _ _
def sgF (s1 : List UInt8) : List UInt8 := pb (cv.mul (le (sgR s1)) bP)
def sgK (s : List UInt8) : List UInt8 := pb (cv.mul (le (clampB (s.take 32))) bP)
theorem sgF_length (s : List UInt8) : (sgF s).length = 32 := Bz _
theorem sgK_length (s : List UInt8) : (sgK s).length = 32 := Bz _
def sgS (s s1 s2 : List UInt8) : List UInt8 := leb 32 ((le (sgR s2) * le (clampB (s.take 32)) + le (sgR s1)) % L)
theorem sgS_length (s s1 s2 : List UInt8) : (sgS s s1 s2).length = 32 := Aj _ _
theorem upd_first {f : List UInt8} (h : f.length = 32) : upd (Aa (List.replicate 64 0)) 0 (Aa f) = Aa (f ++ List.replicate 32 0) := by
  simp [upd, Aa, h]
theorem upd_last {f g : List UInt8} (h : f.length = 32) (hg : g.length = 32) : upd (Aa (f ++ List.replicate 32 0)) 32 (Aa g) = Aa (f ++ g) := by
  simp [upd, Aa, h, hg]

theorem sign_residueR (p : Option Addr) (n c : Nat) (ss : List Sl) (ls : List (List UInt8)) (hss : ss.length = n) (hls : ls.length = n) (hsl : ∀ j, j < n → (ss.getD j Sl.nil).n = (ls.getD j []).length ∧ ((ss.getD j Sl.nil).p = none → (ss.getD j Sl.nil).n = 0)) (F : List UInt8) (hF : ls.flatten = F) (htot : F.length ≤ 90000) (hn : n ≤ 1000000) (s : List UInt8) (hs : Hid (Cd F = s)) (r : List UInt8) (hr : Hid (sgR s = r))  : Meets Tryz.prog 105 [.slice p n c] [] (fun W => SeesP W p (ss.map Sl.v) ∧ ∀ j, j < n → SeesP W (ss.getD j Sl.nil).p (Aa (ls.getD j []))) (fun v out => v = agg (Aa r) ∧ out = []) := by
  have h := sign_residue p n c ss ls hss hls hsl F hF htot hn s hs
  rwa [show leb 32 (le s % L) = r from hr.out] at h

theorem take_sees {l : List UInt8} {n i : Nat} {v : Value} (h : (Aa (l.take n))[i]? = some v) : (Aa l)[i]? = some v := by
  rw [Aa, List.map_take, List.getElem?_take] at h
  split at h
  · exact h
  · cases h

theorem sign_Sign (seed : List UInt8) (h32 : seed.length = 32) (sb : Sl) (bb : List UInt8) (hbn : bb.length ≤ 80000) (s s1 s2 : List UInt8) (hs : Hid (Cd seed = s)) (hs1 : Hid (Cd (s.drop 32 ++ bb) = s1)) (hs2 : Hid (Cd (sgF s1 ++ (sgK s ++ bb)) = s2)) : Meets Tryz.prog 59 [agg (Aa seed), sb.v] [] (fun W => BytesAt W sb bb) (fun v out => v = agg (Aa (sgF s1 ++ sgS s s1 s2)) ∧ out = []) := by
 intro W hW
 have hs64 : s.length = 64 := by rw [← hs.out]; exact Cy seed
 have hexp := sign_expand seed h32 s hs
 obtain ⟨sc, hsc⟩ : ∃ sc, secB s = sc := ⟨_, rfl⟩
 rw [hsc] at hexp
 have hok : sc.ok := by rw [← hsc]; exact secB_ok hs64
 have hnum : clampB (s.take 32) = sc.fNumber := by rw [← hsc]; rfl
 have hrst : s.drop 32 = sc.fRest := by rw [← hsc]; rfl
 have hnl := hok.l_fNumber
 have hrl := hok.l_fRest
 obtain ⟨r1, hr1⟩ : ∃ r, Hid (sgR s1 = r) := ⟨_, ⟨rfl⟩⟩
 obtain ⟨r2, hr2⟩ : ∃ r, Hid (sgR s2 = r) := ⟨_, ⟨rfl⟩⟩
 have hr1l : r1.length = 32 := by rw [← hr1.out]; exact sgR_length s1
 have hr2l : r2.length = 32 := by rw [← hr2.out]; exact sgR_length s2
 have hm1 := sign_multiple sc.fNumber hnl
 have hm2 := sign_multiple r1 hr1l
 obtain ⟨K1, hK1⟩ : ∃ l, Hid (sgK s = l) := ⟨_, ⟨rfl⟩⟩
 obtain ⟨F1, hF1⟩ : ∃ l, Hid (sgF s1 = l) := ⟨_, ⟨rfl⟩⟩
 obtain ⟨S1, hS1⟩ : ∃ l, Hid (sgS s s1 s2 = l) := ⟨_, ⟨rfl⟩⟩
 have hF1l : F1.length = 32 := by rw [← hF1.out]; exact sgF_length s1
 have hK1l : K1.length = 32 := by rw [← hK1.out]; exact sgK_length s
 have hSl : S1.length = 32 := by rw [← hS1.out]; exact sgS_length s s1 s2
 rw [show pb (cv.mul (le sc.fNumber) bP) = K1 from by rw [← hK1.out, sgK, hnum]] at hm1
 rw [show pb (cv.mul (le r1) bP) = F1 from by rw [← hF1.out, sgF, hr1.out]] at hm2
 have hma := scalar_muladd r2 sc.fNumber r1 hr2l hnl hr1l
 rw [show leb 32 ((le r2 * le sc.fNumber + le r1) % L) = S1 from by rw [← hS1.out, sgS, hr1.out, hr2.out, hnum]] at hma
 rw [hF1.out, hS1.out]
 rw [hF1.out, hK1.out] at hs2
 rw [hrst] at hs1
 clear hsc hnum hrst
 refine Ab Tryz.func59 J 39 Tryz.ntmps59 J (.sr (.boxA J J ?_))
 intro n2 hn2 hf2
 refine .alloc (cs := (Aa (List.replicate 64 0))) J Zr27 J ?_
 intro n4 hn4 hf4
 refine .nsr (.lA J J J Y23 J Sz23 Z1 (by (simp [h32]; done)) ?_)
 refine .cV J J J J Body104 (hexp) tV (.alloc (cs := secrets.zero.cells) J secrets.zr J ?_)
 intro n5 hn5 hf5
 refine .sA J J J J (secrets.isCell (by exact hok)) Sz114 (secrets.length (by exact hok)) Z0 (secrets.length (by exact secrets.zero_ok)) zU ?_
 refine .nsr (.fld J J J Tryz.underlying114 J Ad dE _ J (.lN (Aa _) J J J Y77 J Ad Z0 (secrets.row_fNumber (by exact hok)) (secrets.rl_fNumber (by exact hok)) ?_))
 refine .cV J J J J Body103 (hm1) tV (.alloc (cs := (Aa (List.replicate 32 0))) J Zr23 J ?_)
 intro n6 hn6 hf6
 refine .sA J J J J zE Sz23 (by (simp [hK1l]; done)) Z0 sP zU ?_
 refine .nsr (.fld J J J Tryz.underlying114 J Sz23 dE _ J (.sliceArr J J J Y23 Sz5 (.m J J J (.mkRow2 (z := .slice none 0 0) [.slice (some ⟨n5, 32, none⟩) 32 32, sb.v] [.slice (some ⟨n5, 32, none⟩) 32 32, sb.v] rfl J Y133 Co Zr39 J J (by intro v hv; simp only [List.mem_cons, List.not_mem_nil, or_false] at hv; rcases hv with rfl | rfl <;> rfl) dE J ?_))))
 intro q19
 refine .cV J J J J Body105 (sign_residueR (some ⟨q19, 0, none⟩) 2 2 [⟨some ⟨n5, 32, none⟩, 32, 32⟩, sb] [sc.fRest, bb] rfl J (fun j hj => (by
   rcases (show j = 0 ∨ j = 1 by omega) with rfl | rfl
   · exact ⟨by show 32 = List.length _; exact hrl.symm, fun e => by cases e⟩
   · exact ⟨by show sb.n = bb.length; exact hW.len.symm, fun e => by have h1 := hW.nil e; have h2 := hW.cap; show sb.n = 0; omega⟩)) (sc.fRest ++ bb) sP (by simp [hrl]; omega) dE s1 hs1 r1 hr1) (fun w h => ⟨SeesP.of (Ak h Z0), (fun j hj => (by
   rcases (show j = 0 ∨ j = 1 by omega) with rfl | rfl
   · exact SeesP.of (by have h9 := sees_subC (Ak h Z2) (secrets.see_fRest hok); exact h9)
   · exact Ax h rfl hW.see))⟩) ?_
 refine .alloc (cs := (Aa (List.replicate 32 0))) J Bs J ?_
 intro n7 hn7 hf7
 refine .sA J J J J zE Ad (by (simp [hr1l]; done)) Z0 sP zU ?_
 refine .nsr (.lA J J J Y77 J Ad Z0 (by (simp [hr1l]; done)) ?_)
 refine .cV J J J J Body103 (hm2) tV (.alloc (cs := (Aa (List.replicate 32 0))) J Zr23 J ?_)
 intro n8 hn8 hf8
 refine .sA J J J J zE Sz23 (by (simp [hF1l]; done)) Z0 sP zU ?_
 refine .na (.seq (.draw [(0, 0), (0, 1), (0, 2), (0, 5), (1, 6), (1, 7), (2, 3), (3, 4), (3, 8), (2, 9), (4, 10)] Ar zK (.sliceArr J J J Y23 Sz5 (.sliceArr J J J Y23 Sz5 (.m J J J (.fld J J J Tryz.underlying114 J Ad dE _ J (.lN (Aa _) J J J Y77 J Ad Z4 (secrets.row_fNumber (by exact hok)) (secrets.rl_fNumber (by exact hok)) ?_)))))))
 refine .lA J J J Y77 J Ad Z1 (by (simp [hr1l]; done)) ?_
 refine .mkRow2 (z := .slice none 0 0) [.slice (some ⟨n8, 0, none⟩) 32 32, .slice (some ⟨n6, 0, none⟩) 32 32, sb.v] [.slice (some ⟨n8, 0, none⟩) 32 32, .slice (some ⟨n6, 0, none⟩) 32 32, sb.v] rfl J Y133 Co Zr39 J J (by intro v hv; simp only [List.mem_cons, List.not_mem_nil, or_false] at hv; rcases hv with rfl | rfl | rfl <;> rfl) dE J ?_
 intro q26
 refine .cV J J J J Body105 (sign_residueR (some ⟨q26, 0, none⟩) 3 3 [⟨some ⟨n8, 0, none⟩, 32, 32⟩, ⟨some ⟨n6, 0, none⟩, 32, 32⟩, sb] [F1, K1, bb] rfl J (fun j hj => (by
   rcases (show j = 0 ∨ j = 1 ∨ j = 2 by omega) with rfl | rfl | rfl
   · exact ⟨by show 32 = List.length _; exact hF1l.symm, fun e => by cases e⟩
   · exact ⟨by show 32 = List.length _; exact hK1l.symm, fun e => by cases e⟩
   · exact ⟨by show sb.n = bb.length; exact hW.len.symm, fun e => by have h1 := hW.nil e; have h2 := hW.cap; show sb.n = 0; omega⟩)) (F1 ++ (K1 ++ bb)) sP (by simp [hF1l, hK1l]; omega) dE s2 hs2 r2 hr2) (fun w h => ⟨SeesP.of (Ak h Z0), (fun j hj => (by
   rcases (show j = 0 ∨ j = 1 ∨ j = 2 by omega) with rfl | rfl | rfl
   · exact SeesP.of (Ak (cs := Aa F1) h Z1)
   · exact SeesP.of (Ak (cs := Aa K1) h Z4)
   · exact Ax h rfl hW.see))⟩) ?_
 refine .cV J J J J Body106 (hma) tV (.alloc (cs := (Aa (List.replicate 32 0))) J Bs J ?_)
 intro n9 hn9 hf9
 refine .sA J J J J zE Ad (by (simp [hSl]; done)) Z0 sP zU ?_
 refine .nsr (.alloc (cs := (Aa (List.replicate 64 0))) J Zr27 J ?_)
 intro n10 hn10 hf10
 refine .na (.seq (.draw [(0, 0), (0, 1), (4, 2)] Ar zK (.sliceArrHi 32 J J J J J dE dE Y27 Sz5 (.sliceArr J J J Y23 Sz5 (.copyP (Aa F1) 32 J J J J J Y39 Sz5 (fun w h => SeesP.of (Ak h Z3)) (fun e => by cases e) (by rw [Aa, List.length_map]; exact hF1l) J (by rw [Aa, ← List.map_take, List.take_of_length_le (Nat.le_of_eq hF1l)]) (Aw _) Z0 sP (by exact upd_first hF1l) zU ?_)))))
 refine .na (.seq (.draw [(0, 0), (0, 1), (4, 2)] Ar zK (.sliceArrLo 32 J J J J J dE Y27 Sz5 (.sliceArr J J J Y77 Sz5 (.copyP (Aa S1) 32 J J J J J Y39 Sz5 (fun w h => SeesP.of (Ak h Z1)) (fun e => by cases e) (by rw [Aa, List.length_map]; exact hSl) J (by rw [Aa, ← List.map_take, List.take_of_length_le (Nat.le_of_eq hSl)]) (Aw _) Z0 (by (simp; omega)) (by exact upd_last hF1l hSl) zU ?_)))))
 refine .nsr (.lA J J J Y27 J Sz27 Z0 (by (simp [hF1l, hSl]; done)) ?_)
 refine .sA J J J J zE Sz27 (by (simp [hF1l, hSl]; done)) mR sP (by (repeat (first | exact upd0 | apply Upd.tail))) ?_
 refine .na (.ret (An ?_))
 refine ⟨_, [], Ao J J Y27 J Sz27 mR (by simp [hF1l, hSl]), sP, sP, ?_, rfl⟩
 rfl

theorem curve_Read_none (b : List UInt8) (hb : b.length = 32) (h : rdP b = none) : Meets Tryz.prog 108 [agg (Aa b)] [] (fun _ => True) (fun v out => v = .tuple #[agg Point.zero.cells, i64 4] ∧ out = []) := by
  have := curve_Read b hb
  rwa [rdV_none h] at this
theorem curve_Read_some (b : List UInt8) (P : Pt Fp) (hb : b.length = 32) (h : rdP b = some P) : Meets Tryz.prog 108 [agg (Aa b)] [] (fun _ => True) (fun v out => v = .tuple #[agg (ptc P).cells, i64 0] ∧ out = []) := by
  have := curve_Read b hb
  rwa [rdV_some h] at this
open Classical in
noncomputable def goodB (k bb sg : List UInt8) : Bool := decide (le (sg.drop 32) < L ∧ ∃ A R, rdP k = some A ∧ rdP (sg.take 32) = some R ∧ cv.lin (le (sg.drop 32)) (le (sgR (Cd (sg.take 32 ++ (k ++ bb))))) bP (neg A) = R)
theorem good_dec {k bb sg : List UInt8} {A R Q : Pt Fp} (h1 : le (sg.drop 32) < L) (h2 : rdP k = some A) (h3 : rdP (sg.take 32) = some R) (h4 : cv.lin (le (sg.drop 32)) (le (sgR (Cd (sg.take 32 ++ (k ++ bb))))) bP (neg A) = Q) : @decide (ptc Q = ptc R) (Classical.propDecidable _) = goodB k bb sg := by
  rw [goodB, Bool.eq_iff_iff]
  simp only [decide_eq_true_eq, ptc_inj]
  constructor
  · intro h
    exact ⟨h1, A, R, h2, h3, h4.trans h⟩
  · rintro ⟨_, A', R', e1, e2, e3⟩
    rw [h2] at e1; rw [h3] at e2
    cases e1; cases e2
    exact h4.symm.trans e3
theorem good_no {k bb sg : List UInt8} (h : ¬ (le (sg.drop 32) < L ∧ (∃ A, rdP k = some A) ∧ ∃ R, rdP (sg.take 32) = some R)) : goodB k bb sg = false := by
  rw [goodB, decide_eq_false_iff_not]
  intro e
  refine h ?_
  obtain ⟨h1, A, R, h2, h3, _⟩ := e
  exact ⟨h1, ⟨A, h2⟩, ⟨R, h3⟩⟩

theorem sign_Good_c (k : List UInt8) (hk : k.length = 32) (sb : Sl) (bb : List UInt8) (hbn : bb.length ≤ 80000) (sg : List UInt8) (hsg : sg.length = 64) (hc : ¬ le (sg.drop 32) < L) : Meets Tryz.prog 60 [agg (Aa k), sb.v, agg (Aa sg)] [] (fun W => BytesAt W sb bb) (fun v out => v = .bool false ∧ out = []) := by
 intro W hW
 have hd32 : (sg.drop 32).length = 32 := by rw [List.length_drop, hsg]
 have ht32 : (sg.take 32).length = 32 := by rw [List.length_take, hsg]; rfl
 refine Ab Tryz.func60 J 45 Tryz.ntmps60 J (.sr (.boxA J J ?_))
 intro n3 hn3 hf3
 refine .boxA J J ?_
 intro n5 hn5 hf5
 refine .a J J J (.nsr (.sliceArrLo 32 J J J J J dE Y27 Sz5 (.s2a J J J Y77 oM (.lN (Aa (sg.drop 32)) J J J Y77 J Ad Z0 (by show ((sg.map u8).drop 32).take 32 = _; rw [← List.map_drop, ← List.map_take, d64 hsg]) (by rw [List.length_map]; exact hd32) ?_))))
 refine .alloc (cs := (Aa (List.replicate 32 0))) J Bs J ?_
 intro n7 hn7 hf7
 refine .sA J J J J zE Ad (by (simp [hsg]; done)) Z0 sP zU ?_
 refine .na (.seq (.sr (.lA J J J Y77 J Ad Z0 (by (simp [hsg]; done)) ?_)))
 refine .cV J J J J Body107 (scalar_canon (sg.drop 32) hd32) tV (.not J J J (.na (.cond_t J (by rw [decide_eq_false hc]; rfl) ?_)))
 refine .sr (.a J J J (.na (.ret (Bg (An ?_)))))
 refine ⟨_, [], Ag J J, sP, sP, ?_, rfl⟩
 rfl

theorem sign_Good_k (k : List UInt8) (hk : k.length = 32) (sb : Sl) (bb : List UInt8) (hbn : bb.length ≤ 80000) (sg : List UInt8) (hsg : sg.length = 64) (hc : le (sg.drop 32) < L) (h1 : rdP k = none) : Meets Tryz.prog 60 [agg (Aa k), sb.v, agg (Aa sg)] [] (fun W => BytesAt W sb bb) (fun v out => v = .bool false ∧ out = []) := by
 intro W hW
 have hd32 : (sg.drop 32).length = 32 := by rw [List.length_drop, hsg]
 have ht32 : (sg.take 32).length = 32 := by rw [List.length_take, hsg]; rfl
 refine Ab Tryz.func60 J 45 Tryz.ntmps60 J (.sr (.boxA J J ?_))
 intro n3 hn3 hf3
 refine .boxA J J ?_
 intro n5 hn5 hf5
 refine .a J J J (.nsr (.sliceArrLo 32 J J J J J dE Y27 Sz5 (.s2a J J J Y77 oM (.lN (Aa (sg.drop 32)) J J J Y77 J Ad Z0 (by show ((sg.map u8).drop 32).take 32 = _; rw [← List.map_drop, ← List.map_take, d64 hsg]) (by rw [List.length_map]; exact hd32) ?_))))
 refine .alloc (cs := (Aa (List.replicate 32 0))) J Bs J ?_
 intro n7 hn7 hf7
 refine .sA J J J J zE Ad (by (simp [hsg]; done)) Z0 sP zU ?_
 refine .na (.seq (.sr (.lA J J J Y77 J Ad Z0 (by (simp [hsg]; done)) ?_)))
 refine .cV J J J J Body107 (scalar_canon (sg.drop 32) hd32) tV (.not J J J (.na (.cond_f J (by rw [decide_eq_true hc]; rfl) ?_)))
 refine .skip (Ae (.sr (.lA J J J Y25 J Sz25 Z2 (by (simp [hk]; done)) ?_)))
 refine .cV J J J J Body108 (curve_Read_none k hk h1) tV (.m J J J (.eX J J J J (.eX J J J J (.alloc (cs := Point.zero.cells) J Point.zr J ?_))))
 intro n8 hn8 hf8
 refine .sA J J J J (Point.isCell zZ) B9 (Point.length zZ) Z0 (Point.length zZ) zU ?_
 refine .a J J J (.na (.seq (.sr (.m J J J (.nei J J J J (show (!decide _) = true from congrArg not (decide_eq_false dE)) (.na (.cond_t J (rfl) (.sr (.a J J J (.na (.ret (Bg (An ?_)))))))))))))
 refine ⟨_, [], Ag J J, sP, sP, ?_, rfl⟩
 rfl

theorem sign_Good_r (k : List UInt8) (hk : k.length = 32) (sb : Sl) (bb : List UInt8) (hbn : bb.length ≤ 80000) (sg : List UInt8) (hsg : sg.length = 64) (hc : le (sg.drop 32) < L) (A : Pt Fp) (h1 : rdP k = some A) (h2 : rdP (sg.take 32) = none) : Meets Tryz.prog 60 [agg (Aa k), sb.v, agg (Aa sg)] [] (fun W => BytesAt W sb bb) (fun v out => v = .bool false ∧ out = []) := by
 intro W hW
 have hd32 : (sg.drop 32).length = 32 := by rw [List.length_drop, hsg]
 have ht32 : (sg.take 32).length = 32 := by rw [List.length_take, hsg]; rfl
 refine Ab Tryz.func60 J 45 Tryz.ntmps60 J (.sr (.boxA J J ?_))
 intro n3 hn3 hf3
 refine .boxA J J ?_
 intro n5 hn5 hf5
 refine .a J J J (.nsr (.sliceArrLo 32 J J J J J dE Y27 Sz5 (.s2a J J J Y77 oM (.lN (Aa (sg.drop 32)) J J J Y77 J Ad Z0 (by show ((sg.map u8).drop 32).take 32 = _; rw [← List.map_drop, ← List.map_take, d64 hsg]) (by rw [List.length_map]; exact hd32) ?_))))
 refine .alloc (cs := (Aa (List.replicate 32 0))) J Bs J ?_
 intro n7 hn7 hf7
 refine .sA J J J J zE Ad (by (simp [hsg]; done)) Z0 sP zU ?_
 refine .na (.seq (.sr (.lA J J J Y77 J Ad Z0 (by (simp [hsg]; done)) ?_)))
 refine .cV J J J J Body107 (scalar_canon (sg.drop 32) hd32) tV (.not J J J (.na (.cond_f J (by rw [decide_eq_true hc]; rfl) ?_)))
 refine .skip (Ae (.sr (.lA J J J Y25 J Sz25 Z2 (by (simp [hk]; done)) ?_)))
 refine .cV J J J J Body108 (curve_Read_some k A hk h1) tV (.m J J J (.eX J J J J (.eX J J J J (.alloc (cs := Point.zero.cells) J Point.zr J ?_))))
 intro n8 hn8 hf8
 refine .sA J J J J (Point.isCell zP) B9 (Point.length zP) Z0 (Point.length zZ) zU ?_
 refine .a J J J (.na (.seq (.sr (.m J J J (.nei J J J J (show (!decide _) = false from congrArg not (decide_eq_true (rfl))) (.na (.cond_f J (rfl) (.skip (Ae (.sr (.sliceArrHi 32 J J J J J dE dE Y27 Sz5 (.s2a J J J Y23 oM (.lN (Aa (sg.take 32)) J J J Y23 J Sz23 Z2 (by rw [List.drop_zero, ← List.map_take]) (by rw [List.length_map]; exact ht32) ?_)))))))))))))
 refine .cV J J J J Body108 (curve_Read_none (sg.take 32) ht32 h2) tV (.m J J J (.eX J J J J (.eX J J J J (.alloc (cs := Point.zero.cells) J Point.zr J ?_))))
 intro n10 hn10 hf10
 refine .sA J J J J (Point.isCell zZ) B9 (Point.length zZ) Z0 (Point.length zZ) zU ?_
 refine .a J J J (.na (.seq (.sr (.m J J J (.nei J J J J (show (!decide _) = true from congrArg not (decide_eq_false dE)) (.na (.cond_t J (rfl) (.sr (.a J J J (.na (.ret (Bg (An ?_)))))))))))))
 refine ⟨_, [], Ag J J, sP, sP, ?_, rfl⟩
 rfl

theorem sign_Good_ok (k : List UInt8) (hk : k.length = 32) (sb : Sl) (bb : List UInt8) (hbn : bb.length ≤ 80000) (sg : List UInt8) (hsg : sg.length = 64) (hc : le (sg.drop 32) < L) (A R : Pt Fp) (h1 : rdP k = some A) (h2 : rdP (sg.take 32) = some R) (s r : List UInt8) (hs : Hid (Cd (sg.take 32 ++ (k ++ bb)) = s)) (hr : Hid (sgR s = r)) (hrl : r.length = 32) : Meets Tryz.prog 60 [agg (Aa k), sb.v, agg (Aa sg)] [] (fun W => BytesAt W sb bb) (fun v out => v = .bool (goodB k bb sg) ∧ out = []) := by
 intro W hW
 have hd32 : (sg.drop 32).length = 32 := by rw [List.length_drop, hsg]
 have ht32 : (sg.take 32).length = 32 := by rw [List.length_take, hsg]; rfl
 have hA := rdP_on h1
 obtain ⟨Q, hQ⟩ : ∃ Q, cv.lin (le (sg.drop 32)) (le (sgR (Cd (sg.take 32 ++ (k ++ bb))))) bP (neg A) = Q := ⟨_, rfl⟩
 have hmul := curve_Mul2 (sg.drop 32) r bP (neg A) hd32 hrl bP_on (cv.on_neg hA)
 rw [show cv.lin (le (sg.drop 32)) (le r) bP (neg A) = Q from by rw [← hr.out, ← hs.out]; exact hQ] at hmul
 refine Ab Tryz.func60 J 45 Tryz.ntmps60 J (.sr (.boxA J J ?_))
 intro n3 hn3 hf3
 refine .boxA J J ?_
 intro n5 hn5 hf5
 refine .a J J J (.nsr (.sliceArrLo 32 J J J J J dE Y27 Sz5 (.s2a J J J Y77 oM (.lN (Aa (sg.drop 32)) J J J Y77 J Ad Z0 (by show ((sg.map u8).drop 32).take 32 = _; rw [← List.map_drop, ← List.map_take, d64 hsg]) (by rw [List.length_map]; exact hd32) ?_))))
 refine .alloc (cs := (Aa (List.replicate 32 0))) J Bs J ?_
 intro n7 hn7 hf7
 refine .sA J J J J zE Ad (by (simp [hsg]; done)) Z0 sP zU ?_
 refine .na (.seq (.sr (.lA J J J Y77 J Ad Z0 (by (simp [hsg]; done)) ?_)))
 refine .cV J J J J Body107 (scalar_canon (sg.drop 32) hd32) tV (.not J J J (.na (.cond_f J (by rw [decide_eq_true hc]; rfl) ?_)))
 refine .skip (Ae (.sr (.lA J J J Y25 J Sz25 Z2 (by (simp [hk]; done)) ?_)))
 refine .cV J J J J Body108 (curve_Read_some k A hk h1) tV (.m J J J (.eX J J J J (.eX J J J J (.alloc (cs := Point.zero.cells) J Point.zr J ?_))))
 intro n8 hn8 hf8
 refine .sA J J J J (Point.isCell zP) B9 (Point.length zP) Z0 (Point.length zZ) zU ?_
 refine .a J J J (.na (.seq (.sr (.m J J J (.nei J J J J (show (!decide _) = false from congrArg not (decide_eq_true (rfl))) (.na (.cond_f J (rfl) (.skip (Ae (.sr (.sliceArrHi 32 J J J J J dE dE Y27 Sz5 (.s2a J J J Y23 oM (.lN (Aa (sg.take 32)) J J J Y23 J Sz23 Z2 (by rw [List.drop_zero, ← List.map_take]) (by rw [List.length_map]; exact ht32) ?_)))))))))))))
 refine .cV J J J J Body108 (curve_Read_some (sg.take 32) R ht32 h2) tV (.m J J J (.eX J J J J (.eX J J J J (.alloc (cs := Point.zero.cells) J Point.zr J ?_))))
 intro n10 hn10 hf10
 refine .sA J J J J (Point.isCell zP) B9 (Point.length zP) Z0 (Point.length zZ) zU ?_
 refine .a J J J (.na (.seq (.sr (.m J J J (.nei J J J J (show (!decide _) = false from congrArg not (decide_eq_true (rfl))) (.na (.cond_f J (rfl) (.skip (Ae (.seq (.draw [(1, 0), (0, 2), (0, 3), (0, 4), (1, 7), (1, 10), (3, 1), (2, 5), (3, 6), (3, 8), (3, 9), (0, 11), (0, 12)] Ar zK (.lA J J J Y77 J Ad Z2 (by (simp [hsg]; done)) ?_))))))))))))
 refine .sliceArrHi 32 J J J J J dE dE Y27 Sz5 (.sliceArr J J J Y25 Sz5 (.m J J J (.lA J J J Y79 J B9 Z1 (Point.length zP) ?_)))
 refine .lA J J J Y79 J B9 Z0 (Point.length zP) ?_
 refine .cV J J J J Body110 (curve_Base) tV (.mkRow2 (z := .slice none 0 0) [.slice (some ⟨n5, 0, none⟩) 32 64, .slice (some ⟨n3, 0, none⟩) 32 32, sb.v] [.slice (some ⟨n5, 0, none⟩) 32 64, .slice (some ⟨n3, 0, none⟩) 32 32, sb.v] rfl J Y133 Co Zr39 J J (by intro v hv; simp only [List.mem_cons, List.not_mem_nil, or_false] at hv; rcases hv with rfl | rfl | rfl <;> rfl) dE J ?_)
 intro q38
 refine .cV J J J J Body105 (sign_residueR (some ⟨q38, 0, none⟩) 3 3 [⟨some ⟨n5, 0, none⟩, 32, 64⟩, ⟨some ⟨n3, 0, none⟩, 32, 32⟩, sb] [sg.take 32, k, bb] rfl J (fun j hj => (by
   rcases (show j = 0 ∨ j = 1 ∨ j = 2 by omega) with rfl | rfl | rfl
   · exact ⟨by show 32 = List.length _; exact ht32.symm, fun e => by cases e⟩
   · exact ⟨by show 32 = List.length _; exact hk.symm, fun e => by cases e⟩
   · exact ⟨by show sb.n = bb.length; exact hW.len.symm, fun e => by have h1 := hW.nil e; have h2 := hW.cap; show sb.n = 0; omega⟩)) (sg.take 32 ++ (k ++ bb)) sP (by simp [hsg, hk]; omega) dE s hs r hr) (fun w h => ⟨SeesP.of (Ak h Z0), (fun j hj => (by
   rcases (show j = 0 ∨ j = 1 ∨ j = 2 by omega) with rfl | rfl | rfl
   · exact SeesP.of (by have h9 := Ak (cs := Aa sg) h Z4; exact fun i v hv => h9 i v (take_sees hv))
   · exact SeesP.of (Ak (cs := Aa k) h (by exact mem5))
   · exact Ax h rfl hW.see))⟩) ?_
 refine .cV J J J J Body111 (curve_Neg A hA) tV (.cV J J J J Body109 (hmul) tV (.eql_rec J J J J Point.eg (fun w => Point.eq_runC (ptc_ok _) (ptc_ok _) w) (good_dec hc h1 h2 hQ) (.a J J J (.na (.ret (An ?_))))))
 refine ⟨_, [], Ag J J, sP, sP, ?_, rfl⟩
 rfl

theorem sign_Good (k : List UInt8) (hk : k.length = 32) (sb : Sl) (bb : List UInt8) (hbn : bb.length ≤ 80000) (sg : List UInt8) (hsg : sg.length = 64) : Meets Tryz.prog 60 [agg (Aa k), sb.v, agg (Aa sg)] [] (fun W => BytesAt W sb bb) (fun v out => v = .bool (goodB k bb sg) ∧ out = []) := by
  by_cases hc : le (sg.drop 32) < L
  · cases h1 : rdP k with
    | none =>
      rw [good_no (fun e => by obtain ⟨_, ⟨A, h⟩, _⟩ := e; rw [h1] at h; cases h)]
      exact sign_Good_k k hk sb bb hbn sg hsg hc h1
    | some A =>
      cases h2 : rdP (sg.take 32) with
      | none =>
        rw [good_no (fun e => by obtain ⟨_, _, ⟨R, h⟩⟩ := e; rw [h2] at h; cases h)]
        exact sign_Good_r k hk sb bb hbn sg hsg hc A h1 h2
      | some R => exact sign_Good_ok k hk sb bb hbn sg hsg hc A R h1 h2 _ _ ⟨rfl⟩ ⟨rfl⟩ (sgR_length _)
  · rw [good_no (fun e => hc e.1)]
    exact sign_Good_c k hk sb bb hbn sg hsg hc
end Go.Proofs.YtpacobmjjjillaaGreat
end

section
namespace Hw
open Go
set_option maxRecDepth 100000

def padW (N n k : Nat) : List UInt8 := leb k n ++ List.replicate (N - k) 0
theorem padW_length (N n k : Nat) (h : k ≤ N) : (padW N n k).length = N := by simp [padW, Aj]; omega
theorem padW_zero (N n : Nat) : padW N n 0 = List.replicate N 0 := by simp [padW, leb]
theorem padW_all (N n : Nat) : padW N n N = leb N n := by simp [padW]
theorem leb_getD (k n i : Nat) (h : i < k) : (leb k n).getD i 0 = UInt8.ofNat (n / 256 ^ i) := by
  rw [List.getD_eq_getElem?_getD, leb_get k n i h]; rfl
theorem ofNat8 {m n : Nat} (h : m % 256 = n % 256) : UInt8.ofNat m = UInt8.ofNat n := by
  apply UInt8.toNat_inj.1
  rw [UInt8.toNat_ofNat', UInt8.toNat_ofNat']; exact h
theorem byte_low (A m k i : Nat) (h : i < k) : (A + 256 ^ k * m) / 256 ^ i % 256 = A / 256 ^ i % 256 := by
  have e : 256 ^ k * m = 256 ^ i * (256 * (256 ^ (k - i - 1) * m)) := by
    rw [← Nat.mul_assoc, ← Nat.mul_assoc, ← Nat.pow_succ, ← Nat.pow_add]
    congr 2; omega
  rw [e, Nat.add_mul_div_left _ _ (Nat.pow_pos dE), Nat.add_mul_mod_self_left]
theorem leb_low (A m k : Nat) : leb k (A + 256 ^ k * m) = leb k A := by
  apply List.ext_getElem?
  intro i
  rcases Nat.lt_or_ge i k with h | h
  · rw [leb_get _ _ i h, leb_get _ _ i h]
    congr 1
    exact ofNat8 (byte_low A m k i h)
  · rw [List.getElem?_eq_none (by rw [Aj]; exact h), List.getElem?_eq_none (by rw [Aj]; exact h)]
theorem leb_succ' (k n : Nat) : leb (k + 1) n = leb k n ++ [UInt8.ofNat (n / 256 ^ k)] := by
  apply List.ext_getElem?
  intro i
  rcases Nat.lt_trichotomy i k with h | h | h
  · rw [leb_get _ _ i oM, List.getElem?_append_left (by rw [Aj]; exact h), leb_get _ _ i h]
  · subst h
    rw [leb_get _ _ i oM, List.getElem?_append_right (by rw [Aj]; omega), Aj, Nat.sub_self]; rfl
  · rw [List.getElem?_eq_none (by rw [Aj]; omega), List.getElem?_eq_none (by simp [Aj]; omega)]
theorem byteOf_mod (s : Int) : byteOf (s % 256) = byteOf s := by simp [byteOf]
theorem byteOf_nat (n : Nat) : byteOf (n : Int) = UInt8.ofNat n := by
  apply ofNat8
  omega
theorem set_end {α : Type} (l : List α) (x y : α) (r : List α) (k : Nat) (h : l.length = k) : (l ++ x :: r).set k y = l ++ [y] ++ r := by
  subst h; simp
theorem padW_step (N A m k : Nat) (hk : k < N) (s : Int) (hs : s = ((A / 256 ^ k + m : Nat) : Int)) :
    (padW N A k).set k (byteOf s) = padW N (A + 256 ^ k * m) (k + 1) := by
  subst hs
  have e : List.replicate (N - k) (0 : UInt8) = 0 :: List.replicate (N - (k + 1)) 0 := by
    rw [show N - k = (N - (k + 1)) + 1 by omega]; rfl
  rw [padW, e, set_end _ _ _ _ _ (Aj k A), padW, leb_succ', leb_low, Nat.add_mul_div_left _ _ (Nat.pow_pos dE), byteOf_nat]
theorem carry_step (A m k : Nat) (s : Int) (hs : s = ((A / 256 ^ k + m : Nat) : Int)) : s / 256 = (((A + 256 ^ k * m) / 256 ^ (k + 1) : Nat) : Int) := by
  subst hs
  rw [Nat.pow_succ, ← Nat.div_div_eq_div_mul, Nat.add_mul_div_left _ _ (Nat.pow_pos dE)]
  omega
theorem le_lt_at {a b : List UInt8} {i : Nat} (ha : a.length = 32) (hb : b.length = 32) (hi : i < 32) (hd : a.drop (i + 1) = b.drop (i + 1)) (hne : (a.getD i 0).toNat ≠ (b.getD i 0).toNat) :
    ((a.getD i 0).toNat < (b.getD i 0).toNat) ↔ le a < le b := by
  have h1 := le_take_drop a (i + 1) oM
  have h2 := le_take_drop b (i + 1) oM
  rw [le_take_succ a i oM] at h1
  rw [le_take_succ b i oM, ← hd] at h2
  have l1 := le_take_lt a i
  have l2 := le_take_lt b i
  generalize 256 ^ (i + 1) * le (a.drop (i + 1)) = X at h1 h2
  generalize hP : 256 ^ i = P at h1 h2 l1 l2
  generalize (a.getD i 0).toNat = x at *
  generalize (b.getD i 0).toNat = y at *
  rw [h1, h2]
  constructor
  · intro h
    have : P * (x + 1) ≤ P * y := Nat.mul_le_mul_left _ h
    rw [Nat.mul_add, Nat.mul_one] at this
    omega
  · intro h
    apply Nat.lt_of_not_le
    intro h'
    have : P * (y + 1) ≤ P * x := Nat.mul_le_mul_left _ oM
    rw [Nat.mul_add, Nat.mul_one] at this
    omega
theorem drop_step {a b : List UInt8} {i : Nat} (ha : a.length = 32) (hb : b.length = 32) (hi : i < 32) (hd : a.drop (i + 1) = b.drop (i + 1)) (he : (a.getD i 0).toNat = (b.getD i 0).toNat) : a.drop i = b.drop i := by
  rw [List.drop_eq_getElem_cons oM, List.drop_eq_getElem_cons (l := b) oM, hd]
  congr 1
  have := UInt8.toNat_inj.1 he
  rw [List.getD_eq_getElem?_getD, List.getD_eq_getElem?_getD, List.getElem?_eq_getElem oM, List.getElem?_eq_getElem oM] at this
  exact this

def bor (D m k : Nat) : Nat := (D % 256 ^ k + m % 256 ^ k) / 256 ^ k
theorem bor_zero (D m : Nat) : bor D m 0 = 0 := by simp [bor, Nat.mod_one]
theorem mod_succ256 (n k : Nat) : n % 256 ^ (k + 1) = n % 256 ^ k + 256 ^ k * (n / 256 ^ k % 256) := by
  rw [Nat.pow_succ, Nat.mod_mul]
theorem bor_step (D m k : Nat) : bor D m (k + 1) = (D / 256 ^ k % 256 + m / 256 ^ k % 256 + bor D m k) / 256 := by
  unfold bor
  rw [mod_succ256, mod_succ256, Nat.pow_succ, ← Nat.div_div_eq_div_mul]
  have e : D % 256 ^ k + 256 ^ k * (D / 256 ^ k % 256) + (m % 256 ^ k + 256 ^ k * (m / 256 ^ k % 256)) = (D % 256 ^ k + m % 256 ^ k) + 256 ^ k * (D / 256 ^ k % 256 + m / 256 ^ k % 256) := by
    rw [Nat.mul_add]; omega
  rw [e, Nat.add_mul_div_left _ _ (Nat.pow_pos dE), Nat.add_comm (_ / _)]
theorem bor_le (D m k : Nat) : bor D m k ≤ 1 := by
  unfold bor
  have h1 : D % 256 ^ k < 256 ^ k := Nat.mod_lt _ (Nat.pow_pos dE)
  have h2 : m % 256 ^ k < 256 ^ k := Nat.mod_lt _ (Nat.pow_pos dE)
  rw [← Nat.lt_succ_iff, Nat.div_lt_iff_lt_mul (Nat.pow_pos dE)]
  omega
theorem sum_byte (D m k : Nat) : (D + m) / 256 ^ k % 256 = (D / 256 ^ k % 256 + m / 256 ^ k % 256 + bor D m k) % 256 := by
  have e : D + m = (D % 256 ^ k + m % 256 ^ k) + 256 ^ k * (D / 256 ^ k + m / 256 ^ k) := by
    have h1 := Nat.mod_add_div D (256 ^ k)
    have h2 := Nat.mod_add_div m (256 ^ k)
    rw [Nat.mul_add]; omega
  rw [e, Nat.add_mul_div_left _ _ (Nat.pow_pos dE)]
  change (bor D m k + _) % 256 = _
  omega
def subB (D m k : Nat) : List UInt8 := leb k D ++ (leb 32 (D + m)).drop k
theorem subB_length (D m k : Nat) (h : k ≤ 32) : (subB D m k).length = 32 := by simp [subB, Aj]; omega
theorem subB_zero (D m : Nat) : subB D m 0 = leb 32 (D + m) := by simp [subB, leb]
theorem subB_all (D m : Nat) : subB D m 32 = leb 32 D := by simp [subB, Aj]
theorem subB_get (D m k : Nat) (h : k < 32) : (subB D m k).getD k 0 = UInt8.ofNat ((D + m) / 256 ^ k) := by
  rw [List.getD_eq_getElem?_getD, subB, List.getElem?_append_right (by rw [Aj]; omega), Aj, Nat.sub_self, List.getElem?_drop, Nat.add_zero, leb_get _ _ _ h]; rfl
theorem subB_step (D m k : Nat) (h : k < 32) (d : Int) (hd : d = (((D + m) / 256 ^ k % 256 : Nat) : Int) - ((m / 256 ^ k % 256 : Nat) : Int) + -((bor D m k : Nat) : Int)) :
    (subB D m k).set k (byteOf (d + 256)) = subB D m (k + 1) := by
  have e : (leb 32 (D + m)).drop k = UInt8.ofNat ((D + m) / 256 ^ k) :: (leb 32 (D + m)).drop (k + 1) := by
    rw [List.drop_eq_getElem_cons (by rw [Aj]; omega)]
    congr 1
    have := leb_get 32 (D + m) k h
    rw [List.getElem?_eq_getElem (by rw [Aj]; omega)] at this
    exact Option.some.inj this
  rw [subB, e, set_end _ _ _ _ _ (Aj k D), subB, leb_succ' k D]
  congr 2
  have hb := sum_byte D m k
  have hle := bor_le D m k
  generalize bor D m k = c at *
  generalize (D + m) / 256 ^ k % 256 = x at *
  have hm : m / 256 ^ k % 256 < 256 := Nat.mod_lt _ dE
  generalize m / 256 ^ k % 256 = y at *
  rw [show UInt8.ofNat (D / 256 ^ k) = UInt8.ofNat (D / 256 ^ k % 256) from ofNat8 oM]
  have hz : D / 256 ^ k % 256 < 256 := Nat.mod_lt _ dE
  generalize D / 256 ^ k % 256 = z at *
  congr 1
  apply ofNat8
  subst hd
  omega
theorem bor_next (D m k : Nat) (d : Int) (hd : d = (((D + m) / 256 ^ k % 256 : Nat) : Int) - ((m / 256 ^ k % 256 : Nat) : Int) + -((bor D m k : Nat) : Int)) :
    (d < 0 → bor D m (k + 1) = 1) ∧ (¬ d < 0 → bor D m (k + 1) = 0) := by
  rw [bor_step]
  have hb := sum_byte D m k
  have hle := bor_le D m k
  generalize bor D m k = c at *
  generalize (D + m) / 256 ^ k % 256 = x at *
  have hm : m / 256 ^ k % 256 < 256 := Nat.mod_lt _ dE
  generalize m / 256 ^ k % 256 = y at *
  have hz : D / 256 ^ k % 256 < 256 := Nat.mod_lt _ dE
  generalize D / 256 ^ k % 256 = z at *
  subst hd
  omega
theorem ofNat8_toNat (n : Nat) : (UInt8.ofNat n).toNat = n % 256 := by rw [UInt8.toNat_ofNat']
theorem Ck (n : Int) (h : 0 ≤ n ∧ n < 18446744073709551616) : ((Bn n).toNat : Int) = n := by
  rw [Bn, UInt64.toNat_ofNat']; omega
theorem zero_set (n : UInt64) (k : Nat) (hk : k < 8) : (padW 32 n.toNat k).set k (As n (8 * k)).toUInt8 = padW 32 n.toNat (k + 1) := by
  have e : List.replicate (32 - k) (0 : UInt8) = 0 :: List.replicate (32 - (k + 1)) 0 := by
    rw [show 32 - k = (32 - (k + 1)) + 1 by omega]; rfl
  rw [padW, e, set_end _ _ _ _ _ (Aj k _), padW, leb_succ']
  congr 3
  apply UInt8.toNat_inj.1
  rw [UInt64.toNat_toUInt8, A7, UInt8.toNat_ofNat', pow256]
theorem pad_small (n : UInt64) : padW 32 n.toNat 8 = leb 32 n.toNat := by
  have h := n.toNat_lt
  apply List.ext_getElem?
  intro i
  rw [padW]
  rcases Nat.lt_or_ge i 8 with hi | hi
  · rw [List.getElem?_append_left (by rw [Aj]; exact hi), leb_get _ _ _ hi, leb_get _ _ _ oM]
  · rw [List.getElem?_append_right (by rw [Aj]; exact hi), Aj]
    rcases Nat.lt_or_ge i 32 with h2 | h2
    · rw [leb_get _ _ _ h2, List.getElem?_replicate, if_pos oM, Nat.div_eq_of_lt]; rfl
      refine Nat.lt_of_lt_of_le h ?_
      rw [pow256]; exact Nat.pow_le_pow_right dE oM
    · rw [List.getElem?_replicate, if_neg oM, List.getElem?_eq_none (by rw [Aj]; exact h2)]
theorem div_bit (n j : Nat) : n / 2 ^ j = 2 * (n / 2 ^ (j + 1)) + (if n.testBit j then 1 else 0) := by
  rw [Nat.pow_succ, ← Nat.div_div_eq_div_mul, Nat.testBit_eq_decide_div_mod_eq]
  by_cases h : n / 2 ^ j % 2 = 1
  · rw [if_pos (decide_eq_true h)]; omega
  · rw [if_neg (by simpa using h)]; omega
theorem le_one' : le ((List.replicate 32 0).set 0 1) = 1 := by decide
theorem dbl_mod (m : Nat) : (m % L + m % L) % L = (2 * m) % L := by
  rw [← Nat.add_mod, Nat.two_mul]
theorem dbl_mod1 (m : Nat) : ((m % L + m % L) % L + 1) % L = (2 * m + 1) % L := by
  rw [← Nat.add_mod, Nat.mod_add_mod, Nat.two_mul]
theorem le_zero_div (xs : List UInt8) (n : Nat) (h : xs.length = n) : le xs / 2 ^ (8 * n) = 0 := by
  apply Nat.div_eq_of_lt
  rw [← pow256, ← h]; exact le_lt xs
theorem leb_zero32 : leb 32 0 = List.replicate 32 0 := by decide
theorem zero_modL : 0 % L = 0 := Nat.zero_mod L
theorem mod_bit (n k : Nat) : n % 2 ^ (k + 1) = n % 2 ^ k + (if n.testBit k then 2 ^ k else 0) := by
  rw [Nat.pow_succ, Nat.mod_mul, Nat.testBit_eq_decide_div_mod_eq]
  by_cases h : n / 2 ^ k % 2 = 1
  · rw [if_pos (decide_eq_true h), h, Nat.mul_one]
  · rw [if_neg (by simpa using h), show n / 2 ^ k % 2 = 0 by omega, Nat.mul_zero]
end Hw
end

section
namespace Ed
open Hw Go

def BB : Nat := 115792089237316195423570985008687907853269984665640564039457584007913129639936
def pk (x y z t : Nat) : Nat := (x + BB * (y + BB * (z + BB * t))) + 1
def ux (s : Nat) : Nat := (s - 1) % BB
def uy (s : Nat) : Nat := (s - 1) / BB % BB
def uz (s : Nat) : Nat := (s - 1) / BB / BB % BB
def ut (s : Nat) : Nat := (s - 1) / BB / BB / BB
def subN (a b : Nat) : Nat := (a + (PF - b % PF)) % PF
def finN (e f g h : Nat) : Nat := pk (e * f % PF) (g * h % PF) (f * g % PF) (e * h % PF)
def twoDN : Nat := 2 * fD.val
def addN (s p : Nat) : Nat :=
  finN (subN ((uy s + ux s) * (uy p + ux p)) (subN (uy s) (ux s) * subN (uy p) (ux p))) (subN (uz s * uz p + uz s * uz p) (ut s * twoDN % PF * ut p)) ((uz s * uz p + uz s * uz p + ut s * twoDN % PF * ut p) % PF) (((uy s + ux s) * (uy p + ux p) + subN (uy s) (ux s) * subN (uy p) (ux p)) % PF)
theorem fp_cases {a : Fp} (h : a * a = 1) : a = 1 ∨ a = -1 := by
  have h1 : (a - 1) * (a + 1) = 0 := by grind
  rcases cv.zero_or h1 with e | e
  · exact .inl (by grind)
  · exact .inr (by grind)
theorem sq_cases {a b : Fp} (h : a * a = b * b) : a = b ∨ a = -b := by
  have h1 : (a - b) * (a + b) = 0 := by grind
  rcases cv.zero_or h1 with e | e
  · exact .inl (by grind)
  · exact .inr (by grind)
def unit2 : Fp := C0 (fe 2) ((PF - 1) / 4)
theorem unit2_sq : unit2 * unit2 = -1 := by kernel_rfl
theorem fpow_one' (a : Fp) : C0 a 1 = a := by
  rw [show (1 : Nat) = 0 + 1 from rfl, fpow_succ dE, fpow_zero]; grind
theorem fpow_sq2 (x : Fp) : x * x = C0 x 2 := by
  rw [show (2 : Nat) = 2 * 1 from rfl, fpow_two dE, fpow_one']
theorem root_pow (x : Fp) : C0 (x * x) ((PF + 3) / 8) * C0 (x * x) ((PF + 3) / 8) = x * x * C0 x ((PF - 1) / 2) := by
  rw [← fpow_two dE, fpow_sq2, fpow_mul dE dE dE, ← fpow_add dE]
  rfl
theorem half_cases {x : Fp} (h : x ≠ 0) : C0 x ((PF - 1) / 2) = 1 ∨ C0 x ((PF - 1) / 2) = -1 := by
  refine fp_cases ?_
  rw [← fpow_two dE]
  exact ferm h
theorem fRoot1_sq (x : Fp) : fRoot1 (x * x) * fRoot1 (x * x) = x * x := by
  have h0 := root_pow x
  have hu := unit2_sq
  unfold fRoot1
  change (if C0 (x * x) ((PF + 3) / 8) * C0 (x * x) ((PF + 3) / 8) = x * x then C0 (x * x) ((PF + 3) / 8) else C0 (x * x) ((PF + 3) / 8) * unit2) * (if C0 (x * x) ((PF + 3) / 8) * C0 (x * x) ((PF + 3) / 8) = x * x then C0 (x * x) ((PF + 3) / 8) else C0 (x * x) ((PF + 3) / 8) * unit2) = x * x
  have hc : C0 (x * x) ((PF + 3) / 8) * C0 (x * x) ((PF + 3) / 8) = x * x ∨ C0 (x * x) ((PF + 3) / 8) * C0 (x * x) ((PF + 3) / 8) = -(x * x) := by
    by_cases hx : x = 0
    · left
      rw [h0, hx]; grind
    · rcases half_cases hx with e | e
      · left; rw [h0, e]; grind
      · right; rw [h0, e]; grind
  revert hc
  generalize C0 (x * x) ((PF + 3) / 8) = r
  generalize unit2 = u at *
  intro hc
  clear h0
  by_cases h1 : r * r = x * x
  · rw [if_pos h1]; exact h1
  · rw [if_neg h1]
    rcases hc with e | e
    · exact absurd e h1
    · have : r * u * (r * u) = r * r * (u * u) := by grind
      rw [this, e, hu]; grind
theorem val_neg {x : Fp} (h : x ≠ 0) : (-x).val + x.val = PF := by
  have h1 : fe ((-x).val + x.val) = 0 := by
    rw [fe_add, fe_of, fe_of]; grind
  have h2 : ((-x).val + x.val) % PF = 0 := congrArg Fin.val h1
  have h3 := (-x).isLt
  have h4 := x.isLt
  have h5 : x.val ≠ 0 := fun e => h (Fin.ext e)
  have h6 : PF ∣ (-x).val + x.val := Nat.dvd_of_mod_eq_zero h2
  obtain ⟨k, hk⟩ := h6
  generalize (-x).val = a at *
  generalize x.val = b at *
  clear h h1 h2
  have hP : 0 < PF := by decide
  generalize PF = q at *
  have h7 : k = 1 := by
    rcases Nat.lt_or_ge k 1 with h | h
    · obtain rfl : k = 0 := by omega
      rw [Nat.mul_zero] at hk; omega
    · rcases Nat.lt_or_ge 1 k with h9 | h9
      · have : q * 2 ≤ q * k := Nat.mul_le_mul_left _ h9
        omega
      · omega
  rw [h7, Nat.mul_one] at hk
  exact hk
theorem neg_neg' (x : Fp) : - -x = x := by grind
theorem fRoot_eq (x : Fp) : fRoot (x * x) = ((if x.val % 2 = 1 then -x else x), true) := by
  have h1 := fRoot1_sq x
  have h2 := sq_cases h1
  unfold fRoot
  generalize fRoot1 (x * x) = r at *
  rw [if_pos h1]
  congr 1
  by_cases hx : x = 0
  · have : r = 0 := by rcases h2 with e | e <;> rw [e, hx] <;> grind
    rw [this, hx]
  · have hv := val_neg hx
    have hodd : PF % 2 = 1 := by decide
    rcases h2 with e | e
    · rw [e]
    · rw [e]
      have hn : -x ≠ 0 := fun e2 => hx (by grind)
      by_cases h3 : x.val % 2 = 1
      · rw [if_pos h3, if_neg oM]
      · rw [if_neg h3, if_pos oM, neg_neg']
theorem on_xsq {x y : Fp} (h : cv.on ⟨x, y⟩) : (y * y - 1) * finv (fD * (y * y) + 1) = x * x := by
  have h1 := finv_mul (cv.below_ne y)
  have h2 := (cv.on_iff ⟨x, y⟩).1 h
  have h3 : y * y - x * x = 1 + fD * (x * x * (y * y)) := h2
  have h4 : (cv.d * (y * y) + 1) * finv (cv.d * (y * y) + 1) = 1 := h1
  change (fD * (y * y) + 1) * finv (fD * (y * y) + 1) = 1 at h4
  generalize finv (fD * (y * y) + 1) = u at *
  generalize fD = d at *
  have h5 : y * y - 1 = x * x * (d * (y * y) + 1) := by grind
  rw [h5]
  have : x * x * (d * (y * y) + 1) * u = x * x * ((d * (y * y) + 1) * u) := by grind
  rw [this, h4]; grind
theorem xOf_eq {x y : Fp} (h : cv.on ⟨x, y⟩) : xOf y = ((if x.val % 2 = 1 then -x else x), true) := by
  rw [xOf, on_xsq h, fRoot_eq]
theorem fb_top (x : Fp) : ((fb x).getD 31 0).toNat < 128 := by
  have h : (fb x).getD 31 0 = UInt8.ofNat (x.val / 256 ^ 31) := leb_getD 32 x.val 31 dE
  have h1 := x.isLt
  have h2 : x.val / 256 ^ 31 < 128 := by
    rw [Nat.div_lt_iff_lt_mul dE]
    exact Nat.lt_of_lt_of_le h1 dE
  rw [h, UInt8.toNat_ofNat']
  omega
theorem getD_set (l : List UInt8) (i : Nat) (v : UInt8) (hi : i < l.length) : (l.set i v).getD i 0 = v := by
  rw [List.getD_eq_getElem?_getD, List.getElem?_set_self hi, Option.getD_some]
end Ed
end

section
namespace Go.Proofs.YtpacobmjjjillaaGreat
open Go Hw

open Ed

theorem own_bytes {W : World} {q n c : Nat} {l : List UInt8} (hs : SeesP W (some ⟨q, 0, none⟩) (Aa l)) (hl : l.length = n) (hc : n ≤ c) (hm : n ≤ maxLen) : BytesAt W ⟨some ⟨q, 0, none⟩, n, c⟩ l := ⟨hl, hc, hs, hm, fun e => by cases e⟩
end Go.Proofs.YtpacobmjjjillaaGreat
end

section
namespace Hw
open Go Go.RowKit

def Bq (w : List Nat) : List Value := Ca (w.map Int.ofNat)
theorem Al (w : List Nat) : (Bq w).length = w.length := by simp [Bq, Ca]
theorem get_wds {w : List Nat} {o : Nat} (h : o < w.length) : (Bq w)[o]? = some (i64 ((w.getD o 0 : Nat) : Int)) := by
  rw [Bq, get_ints (by simpa using h)]
  congr 2
  rw [List.getD_eq_getElem?_getD, List.getD_eq_getElem?_getD, List.getElem?_map, List.getElem?_eq_getElem h]
  rfl
theorem set_wds (w : List Nat) (o v : Nat) : (Bq w).set o (i64 (v : Int)) = Bq (w.set o v) := by
  simp [Bq, Ca, List.map_set]
theorem Cs (w : List Nat) : ∀ u ∈ Bq w, isCell u = true := by
  intro u hu
  simp only [Bq, Ca, List.mem_map] at hu
  obtain ⟨x, _, rfl⟩ := hu
  rfl
section
variable {C : Cx} {ops : Array Oper} {rest : List (Nat × Oper)} {sl : List (Nat × Value)} {hp : List Blk} {Q : St → Prop} {c d : Nat} {ty : TypeId} {pos : String} {af : Array Edge} {g : Option (Nat × Bool)}
variable {xT yT : TypeId} {x y : Operand}
theorem Tr.addN (a b : Nat) (hg : Am ops sl g = true) (hk : okD c d C.N = true) (hx : Ah sl x = some (i64 (a : Int))) (hy : Ah sl y = some (i64 (b : Int))) (hr : a + b ≤ 9223372036854775807)
    (k : Tr C ops rest ⟨(d, i64 ((a + b : Nat) : Int)) :: sl, hp⟩ Q) : Tr C ops ((c, ⟨some d, .binOp .add xT x y yT, ty, pos, af, g⟩) :: rest) ⟨sl, hp⟩ Q := by
  refine Tr.aI hg hk hx hy oM ?_
  rwa [show ((a : Int) + b) = ((a + b : Nat) : Int) by omega]
theorem Tr.subN (a b : Nat) (hg : Am ops sl g = true) (hk : okD c d C.N = true) (hx : Ah sl x = some (i64 (a : Int))) (hy : Ah sl y = some (i64 (b : Int))) (hr : b ≤ a ∧ a ≤ 9223372036854775807)
    (k : Tr C ops rest ⟨(d, i64 ((a - b : Nat) : Int)) :: sl, hp⟩ Q) : Tr C ops ((c, ⟨some d, .binOp .sub xT x y yT, ty, pos, af, g⟩) :: rest) ⟨sl, hp⟩ Q := by
  refine .sub_i64 hg hk hx hy oM ?_
  rwa [show ((a : Int) - b) = ((a - b : Nat) : Int) by omega]
theorem Tr.mulN (a b : Nat) (hg : Am ops sl g = true) (hk : okD c d C.N = true) (hx : Ah sl x = some (i64 (a : Int))) (hy : Ah sl y = some (i64 (b : Int))) (hr : a * b ≤ 9223372036854775807)
    (k : Tr C ops rest ⟨(d, i64 ((a * b : Nat) : Int)) :: sl, hp⟩ Q) : Tr C ops ((c, ⟨some d, .binOp .mul xT x y yT, ty, pos, af, g⟩) :: rest) ⟨sl, hp⟩ Q := by
  have e : ((a : Int) * b) = ((a * b : Nat) : Int) := (Int.natCast_mul a b).symm
  refine .mul_i64 hg hk hx hy (by rw [e]; omega) ?_
  rwa [e]
theorem Tr.remN (a b : Nat) (hg : Am ops sl g = true) (hk : okD c d C.N = true) (hx : Ah sl x = some (i64 (a : Int))) (hy : Ah sl y = some (i64 (b : Int))) (hr : 1 ≤ b)
    (k : Tr C ops rest ⟨(d, i64 ((a % b : Nat) : Int)) :: sl, hp⟩ Q) : Tr C ops ((c, ⟨some d, .binOp .rem xT x y yT, ty, pos, af, g⟩) :: rest) ⟨sl, hp⟩ Q := by
  refine .rem_i64 hg hk hx hy oM ?_
  rwa [show ((a : Int) % b) = ((a % b : Nat) : Int) from rfl]
theorem Tr.quoN (a b : Nat) (hg : Am ops sl g = true) (hk : okD c d C.N = true) (hx : Ah sl x = some (i64 (a : Int))) (hy : Ah sl y = some (i64 (b : Int))) (hr : 1 ≤ b ∧ a ≤ 9223372036854775807)
    (k : Tr C ops rest ⟨(d, i64 ((a / b : Nat) : Int)) :: sl, hp⟩ Q) : Tr C ops ((c, ⟨some d, .binOp .quo xT x y yT, ty, pos, af, g⟩) :: rest) ⟨sl, hp⟩ Q := by
  refine .quo_i64 hg hk hx hy oM ?_
  rwa [show ((a : Int) / b) = ((a / b : Nat) : Int) from rfl]
theorem Tr.shrN (a n : Nat) {ky : IntKind} {b : Int} (hg : Am ops sl g = true) (hk : okD c d C.N = true) (hx : Ah sl x = some (i64 (a : Int))) (hy : Ah sl y = some (.int ky b)) (hn : b = n) (hr : n ≤ 64)
    (k : Tr C ops rest ⟨(d, i64 ((a / 2 ^ n : Nat) : Int)) :: sl, hp⟩ Q) : Tr C ops ((c, ⟨some d, .binOp .shr xT x y yT, ty, pos, af, g⟩) :: rest) ⟨sl, hp⟩ Q :=
  .bin hg hk hx hy (fun w => by
    subst hn
    simp only [binOp, Op.shift, IntKind.bits]
    rw [if_neg oM, Int.toNat_natCast, Nat.min_eq_left hr]
    have e : ((2 : Int) ^ n) = ((2 ^ n : Nat) : Int) := by simp
    rw [e, Int.fdiv_eq_ediv_of_nonneg _ (Int.natCast_nonneg _)]
    rfl) k
theorem Tr.shlN (a n : Nat) {ky : IntKind} {b : Int} (hg : Am ops sl g = true) (hk : okD c d C.N = true) (hx : Ah sl x = some (i64 (a : Int))) (hy : Ah sl y = some (.int ky b)) (hn : b = n) (hn2 : n ≤ 64) (hr : a * 2 ^ n ≤ 9223372036854775807)
    (k : Tr C ops rest ⟨(d, i64 ((a * 2 ^ n : Nat) : Int)) :: sl, hp⟩ Q) : Tr C ops ((c, ⟨some d, .binOp .shl xT x y yT, ty, pos, af, g⟩) :: rest) ⟨sl, hp⟩ Q :=
  .bin hg hk hx hy (fun w => by
    subst hn
    simp only [binOp, Op.shift, IntKind.bits]
    rw [if_neg oM, Int.toNat_natCast, Nat.min_eq_left hn2]
    have e : ((a : Int) * 2 ^ n) = ((a * 2 ^ n : Nat) : Int) := by simp
    rw [e, i64_wrap oM]; rfl) k
theorem Tr.quo_u8 {p : UInt8} {b : Int} (hg : Am ops sl g = true) (hk : okD c d C.N = true) (hx : Ah sl x = some (u8 p)) (hy : Ah sl y = some (.int .u8 b)) (n : Nat) (hn : b = n) (h0 : 0 < n)
    (k : Tr C ops rest ⟨(d, u8 (UInt8.ofNat (p.toNat / n))) :: sl, hp⟩ Q) : Tr C ops ((c, ⟨some d, .binOp .quo xT x y yT, ty, pos, af, g⟩) :: rest) ⟨sl, hp⟩ Q :=
  .bin hg hk hx hy (fun w => by
    subst hn
    simp [binOp, Op.intDiv, show ¬ n = 0 by omega]
    exact IntKind.wrap_u8 _) k
end
end Hw
end

section
namespace Go.Proofs.YtpacobmjjjillaaGreat
open Go Hw

theorem rolW_64 (x : UInt64) (n : Nat) (h : n ≤ 64) : As x n ||| A2 x (64 - n) = rolW x (64 - n) := by
  rw [rolW, show 64 - (64 - n) = n by omega, UInt64.or_comm]
theorem W8.of_l {st : List UInt64} (h : st.length = 8) : (W8.of st).l = st := by
  match st, h with
  | [a, b, c, d, e, f, g, i], _ => rfl
theorem addUp_gets (st xs : List UInt64) : ∀ i j, i ≤ st.length → j < st.length → (addUp st xs i).getD j 0 = if j < i then st.getD j 0 + xs.getD j 0 else st.getD j 0
  | 0, j, _, hj => by rw [if_neg oM]; rfl
  | i + 1, j, hi, hj => by
    have hl := Cg st xs i
    rw [addUp, List.getD_eq_getElem?_getD, List.getElem?_set]
    split
    · rename_i e
      subst e
      rw [if_pos oM, if_pos oM, Option.getD_some, addUp_get st xs i i (Nat.le_refl _)]
    · rename_i e
      rw [← List.getD_eq_getElem?_getD, addUp_gets st xs i j oM hj]
      by_cases h : j < i
      · rw [if_pos h, if_pos oM]
      · rw [if_neg h, if_neg oM]
theorem addUp_comm {st xs : List UInt64} (h : st.length = 8) (hx : xs.length = 8) : addUp xs st 8 = addUp st xs 8 := by
  have h1 := Cg xs st 8
  have h2 := Cg st xs 8
  apply List.ext_getElem oM
  intro j ha hb
  have e1 := addUp_gets xs st 8 j oM oM
  have e2 := addUp_gets st xs 8 j oM oM
  rw [if_pos oM] at e1 e2
  rw [List.getD_eq_getElem?_getD, List.getElem?_eq_getElem ha, Option.getD_some] at e1
  rw [List.getD_eq_getElem?_getD, List.getElem?_eq_getElem hb, Option.getD_some] at e2
  rw [e1, e2, UInt64.add_comm]
def schT (p : List UInt8) (A : List UInt64) (t : Nat) : List UInt64 := if t ≤ 16 then schA p (8 * t) else schB A (t - 16)
theorem schT_lo {p : List UInt8} {A : List UInt64} {t : Nat} (h : t ≤ 16) : schT p A t = schA p (8 * t) := if_pos h
theorem schT_hi {p : List UInt8} {A : List UInt64} {t : Nat} (hA : schA p 128 = A) (h : 16 ≤ t) : schT p A t = schB A (t - 16) := by
  unfold schT
  split
  · obtain rfl : t = 16 := by omega
    exact hA
  · rfl
theorem schT_step {p : List UInt8} {A : List UInt64} {j : Nat} (hA : schA p 128 = A) : schT p A (16 + j + 1) = (schB A j).set (16 + j) ((schB A j).getD j 0 + sig0 ((schB A j).getD (j + 1) 0) + (schB A j).getD (j + 9) 0 + sig1 ((schB A j).getD (j + 14) 0)) := by
  rw [schT_hi hA oM, show 16 + j + 1 - 16 = j + 1 by omega]; rfl
theorem schA_step (p : List UInt8) (t i : Nat) (hi : i < 8) : schA p (8 * t + (i + 1)) = (schA p (8 * t + i)).set t (A2 ((schA p (8 * t + i)).getD t 0) 8 ||| (p.getD (8 * t + i) 0).toUInt64) := by
  have e : (8 * t + i) / 8 = t := by omega
  show schA p ((8 * t + i) + 1) = _
  rw [schA, e]

theorem r2_K (k : List UInt64) (hk : Hid (kW = k)) : Meets Tryz.prog 239 [] [] (fun _ => True) (fun v out => v = agg (Af k) ∧ out = []) := by
 intro W hW
 rw [← hk.out]
 refine Ab Tryz.func239 J 2 Tryz.ntmps239 J (.sr (.alloc (cs := (Af (List.replicate 80 0))) J Zr209 J ?_))
 intro n0 hn0 hf0
 refine .nsr (.build (cs := Af kW) J J J (fun w => by kernel_rfl) ?_)
 refine .sA J J J J zB Sz209 (by (simp [kW]; done)) Z0 sP zU ?_
 refine .na (.ret (An ?_))
 refine ⟨_, [], Ao J J Y209 J Sz209 Z0 (by simp [kW]), sP, sP, ?_, rfl⟩
 rfl

theorem r2_Start (k : List UInt64) (hk : Hid (startW = k)) : Meets Tryz.prog 208 [] [] (fun _ => True) (fun v out => v = agg (Af k) ∧ out = []) := by
 intro W hW
 rw [← hk.out]
 refine Ab Tryz.func208 J 2 Tryz.ntmps208 J (.sr (.alloc (cs := (Af (List.replicate 8 0))) J Zr135 J ?_))
 intro n0 hn0 hf0
 refine .nsr (.build (cs := Af startW) J J J (fun w => by kernel_rfl) ?_)
 refine .sA J J J J zB Sz135 (by (simp [startW]; done)) Z0 sP zU ?_
 refine .na (.ret (An ?_))
 refine ⟨_, [], Ao J J Dc J Sz135 Z0 (by simp [startW]), sP, sP, ?_, rfl⟩
 rfl

theorem r2_rot (x : UInt64) (n : Nat) (hn : n ≤ 63) : Meets Tryz.prog 240 [u64 x, i64 (n : Int)] [] (fun _ => True) (fun v out => v = u64 (rolW x (64 - n)) ∧ out = []) := by
 intro W hW
 refine Ab Tryz.func240 J 15 Tryz.ntmps240 J (.sr (.a J J (show Ah _ _ = some (u64 0) from rfl) (.nsr (.m J J J (.m J J J (.conv J J J Y3 Y35 (A4 _) (.shr_u64 J J J J n (by rw [Ck _ oM]) oM ?_)))))))
 refine .m J J J (.m J J J (.subN 64 n J J J J oM (.conv J J J Y3 Y35 (A4 _) (.shl_u64 J J J J (64 - n) (by rw [Ck _ oM]) oM ?_))))
 refine .or_u64 J J J J (.a J J J (.na (.ret (An ?_))))
 refine ⟨_, [], Ag J J, sP, sP, ?_, rfl⟩
 rw [rolW_64 x n oM]

theorem r2_piece (st : List UInt64) (hst : st.length = 8) (p : List UInt8) (hp : p.length = 128) (q o c : Nat) (A w k : List UInt64) (R : W8) (hA : Hid (schA p 128 = A)) (hwp : Hid (schB A 64 = w)) (hk : Hid (kW = k)) (hk80 : k.length = 80) (hR : Hid (rnds k w (W8.of st) 80 = R)) : Meets Tryz.prog 213 [agg (Af st), .slice (some ⟨q, o, none⟩) 128 c] [] (fun W => Cc W q o (Aa p)) (fun v out => v = agg (Af (addUp st R.l 8)) ∧ out = []) := by
 intro W hW
 have hA80 : A.length = 80 := by rw [← hA.out]; exact schA_length p 128
 have hw80 : w.length = 80 := by rw [← hwp.out, schB_length]; exact hA80
 have hRl := W8.l_length R
 have hlw := hw80
 have hcm := addUp_comm hst hRl
 refine Ab Tryz.func213 J 176 Tryz.ntmps213 J (.sr (.boxA J J ?_))
 intro n2 hn2 hf2
 refine .alloc (cs := (Af (List.replicate 8 0))) J Zr135 J ?_
 intro n4 hn4 hf4
 refine .nsr (.cV J J J J Body239 (r2_K k hk) tV (.alloc (cs := (Af (List.replicate 80 0))) J Zr209 J ?_))
 intro n5 hn5 hf5
 refine .sA J J J J zB Sz209 (by (simp [hk80]; done)) Z0 sP zU ?_
 refine .nsr (.alloc (cs := (Af (List.replicate 80 0))) J Zr209 J ?_)
 intro n6 hn6 hf6
 refine .na (.seq (.sr (.a J J J (.na (.block (.loop (ι := Nat) (fun t => ⟨[(1, .slice (some ⟨q, o, none⟩) 128 c), (2, ptr n2 0), (4, ptr n4 0), (5, ptr n5 0), (6, ptr n6 0), (7, i64 (t : Int))], [⟨n6, Af (schT p A t), 209, 80⟩, ⟨n5, Af k, 209, 80⟩, ⟨n4, Af (List.replicate 8 0), 135, 8⟩, ⟨n2, Af st, 135, (Af st).length⟩]⟩) (fun t => t ≤ 80) (fun t => 80 - t) (0) ?_ ?_ ?_))))))
 · omega
 · exact Ac (wk1 rfl (wk1 rfl (wk1 rfl (wk1 rfl (wk1 rfl (wk1 rfl wk0)))))) (wh1 (by rw [schT_lo oM]; exact Bo) (wh1 Z1 (wh1 Z2 (wh1 Z3 wh0)))) nD
 ·
  rintro t ht
  refine .seq (.sr (.m J J J (.lss J J J J J (.na (.condP J (fun hc0 => ?_) (fun hc0 => ?_))))))
  ·
   refine .skip (Ae (.seq (.block (.seq (.sr (.m J J J (.lss J J J J J (.na (.condP J (fun hc1 => ?_) (fun hc1 => ?_))))))))))
   ·
    refine .seq (.sr (.a J J J (.na (.block (.loop (ι := Nat) (fun i => ⟨[(1, .slice (some ⟨q, o, none⟩) 128 c), (2, ptr n2 0), (4, ptr n4 0), (5, ptr n5 0), (6, ptr n6 0), (7, i64 (t : Int)), (8, i64 (i : Int))], [⟨n6, Af (schA p (8 * t + i)), 209, 80⟩, ⟨n5, Af k, 209, 80⟩, ⟨n4, Af (List.replicate 8 0), 135, 8⟩, ⟨n2, Af st, 135, (Af st).length⟩]⟩) (fun i => i ≤ 8) (fun i => 8 - i) (0) ?_ ?_ ?_)))))
    · omega
    · exact Ac (wk1 rfl (wk1 rfl (wk1 rfl (wk1 rfl (wk1 rfl (wk1 rfl (wk1 rfl wk0))))))) (wh1 (by rw [Nat.add_zero, ← schT_lo (p := p) (A := A) (by omega : t ≤ 16)]; exact Bo) (wh1 Z1 (wh1 Z2 (wh1 Z3 wh0)))) nD
    ·
     rintro i hi
     have hlw := schA_length p (8 * t + i)
     refine .seq (.sr (.m J J J (.lss J J J J J (.na (.condP J (fun hc2 => ?_) (fun hc2 => ?_))))))
     ·
      refine .skip (Ae (.seq (.block (.draw [(0, 0), (0, 1), (0, 2), (1, 3), (0, 4), (0, 5), (0, 6), (0, 7), (0, 8), (0, 9), (0, 10), (1, 11), (0, 12), (0, 13), (0, 14), (4, 15)] Ar zK (.m J J J (.m J J J (.i1 J J J J Y209 Ap _ J oM (.load1 J J J Y22 J Z0 (by exact A3 oM) ?_))))))))
      refine .shl_u64 J J J J 8 J dE (.m J J J (.m J J J (.mulN 8 t J J J J oM (.m J J J (.addN (8 * t) i J J J J oM (.idxSlO J J J J Y39 Sz5 (8 * t + i) oM oM (.loadE J J J Y5 J sP (hW (8 * t + i) _ (B0 oM)) (.conv J J J Y5 Y22 (Cu _) (.or_u64 J J J J (.i1 J J J J Y209 Ap _ J oM (.s1 J J J J J Ap Z0 (by (simp [hlw]; omega)) (by exact A9 _ _ _) zU ?_)))))))))))
      refine .nil (Bj (Ae (.region (.m J J J (.aI J J J J oM (.a J J J (.na ?_)))))))
      exact ⟨i + 1, by omega, by omega, Ac (wk1 rfl (wk1 rfl (wk1 rfl (wk1 rfl (wk1 rfl (wk1 rfl (wk1 rfl wk0))))))) (wh1 (by rw [schA_step p t i oM]; exact Bo) (wh1 Z1 (wh1 Z2 (wh1 Z3 wh0)))) nD⟩
     ·
      refine .exit (A1 (A1 (B5 (Ae (.exit (A1 (B5 (Ae (.region (.m J J J (.aI J J J J oM (.a J J J (.na ?_)))))))))))))
      exact ⟨t + 1, by omega, by omega, Ac (wk1 rfl (wk1 rfl (wk1 rfl (wk1 rfl (wk1 rfl (wk1 rfl wk0)))))) (wh1 (by (rw [schT_lo (by omega : t + 1 ≤ 16), show 8 * (t + 1) = 8 * t + i by omega]; exact Bo)) (wh1 Z1 (wh1 Z2 (wh1 Z3 wh0)))) nD⟩
   ·
    obtain ⟨j, rfl⟩ : ∃ j, t = 16 + j := ⟨t - 16, by omega⟩
    rw [schT_hi hA.out (show 16 ≤ 16 + j by omega), show 16 + j - 16 = j by omega]
    have hlw : (schB A j).length = 80 := by rw [schB_length]; exact hA80
    refine .skip (Ae (.seq (.draw [(0, 0), (0, 1), (0, 2), (1, 3), (0, 4), (0, 5), (0, 6), (1, 7), (0, 8), (0, 9)] Ar zK (.m J J J (.sub_i64 J J J J oM (.i1 J J J J Y209 Ap (j + 1) oM oM (.load1 J J J Y22 J Z0 (by exact A3 oM) ?_)))))))
    refine .m J J J (.sub_i64 J J J J oM (.i1 J J J J Y209 Ap (j + 14) oM oM (.load1 J J J Y22 J Z0 (by exact A3 oM) ?_)))
    refine .a J J J (.a J J J (.na (.draw [(0, 0), (0, 1), (0, 2), (0, 3), (1, 4), (0, 5), (0, 7), (0, 10), (0, 11), (0, 14), (0, 15), (0, 16), (1, 17), (0, 19), (0, 21), (0, 24), (0, 25), (3, 6), (3, 8), (0, 9), (0, 12), (0, 13), (0, 18), (3, 20), (3, 22), (0, 23), (0, 26), (0, 27), (0, 28), (4, 29)] Ar zK (.m J J J (.m J J J (.sub_i64 J J J J oM (.i1 J J J J Y209 Ap j oM oM (.load1 J J J Y22 J Z0 (by exact A3 oM) ?_))))))))
    refine .m J J J (.m J J J (.m J J J (.shr_u64 J J J J 7 J dE (.m J J J (.sub_i64 J J J J oM (.i1 J J J J Y209 Ap (j + 9) oM oM (.load1 J J J Y22 J Z0 (by exact A3 oM) ?_)))))))
    refine .m J J J (.m J J J (.m J J J (.shr_u64 J J J J 6 J dE (.cV J J J J Body240 (r2_rot _ 1 dE) tV (.cV J J J J Body240 (r2_rot _ 8 dE) tV (.xor_u64 J J J J (.xor_u64 J J J J (.add_u64 J J J J (.add_u64 J J J J (.cV J J J J Body240 (r2_rot _ 19 dE) tV (.cV J J J J Body240 (r2_rot _ 61 dE) tV (.xor_u64 J J J J (.xor_u64 J J J J (.add_u64 J J J J (.i1 J J J J Y209 Ap (16 + j) oM oM (.s1 J J J J J Ap Z0 (by (simp [hlw]; omega)) (by exact A9 _ _ _) zU ?_))))))))))))))))
    refine .nil (Bj (Ae (.region (.m J J J (.aI J J J J oM (.a J J J (.na ?_)))))))
    exact ⟨16 + j + 1, by omega, by omega, Ac (wk1 rfl (wk1 rfl (wk1 rfl (wk1 rfl (wk1 rfl (wk1 rfl wk0)))))) (wh1 (by (rw [schT_step hA.out]; exact Bo)) (wh1 Z1 (wh1 Z2 (wh1 Z3 wh0)))) nD⟩
  ·
   obtain rfl : t = 80 := by omega
   rw [show schT p A 80 = w from by rw [schT_hi hA.out dE]; exact hwp.out]
   refine .exit (A1 (A1 (B5 (Ae (.sr (.lA J J J Dc J Sz135 Z3 (by (simp [hst]; done)) ?_))))))
   refine .alloc (cs := (Af (List.replicate 8 0))) J Zr135 J ?_
   intro n11 hn11 hf11
   refine .sA J J J J zB Sz135 (by (simp [hst]; done)) Z0 sP zU ?_
   refine .na (.seq (.sr (.a J J J (.na (.block (.loop (ι := Nat) (fun t => ⟨[(2, ptr n2 0), (4, ptr n4 0), (5, ptr n5 0), (6, ptr n6 0), (11, ptr n11 0), (12, i64 (t : Int))], [⟨n11, Af (rnds k w (W8.of st) t).l, 135, 8⟩, ⟨n6, Af w, 209, 80⟩, ⟨n5, Af k, 209, 80⟩, ⟨n4, Af (List.replicate 8 0), 135, 8⟩, ⟨n2, Af st, 135, (Af st).length⟩]⟩) (fun t => t ≤ 80) (fun t => 80 - t) (0) ?_ ?_ ?_))))))
   · omega
   · exact Ac (wk1 rfl (wk1 rfl (wk1 rfl (wk1 rfl (wk1 rfl (wk1 rfl wk0)))))) (wh1 (by rw [show (rnds k w (W8.of st) 0).l = st from W8.of_l hst]; exact Bo) (wh1 Z1 (wh1 Z2 (wh1 Z3 (wh1 Z4 wh0))))) nD
   ·
    rintro t ht
    have hlr := W8.l_length (rnds k w (W8.of st) t)
    refine .seq (.sr (.m J J J (.lss J J J J J (.na (.condP J (fun hc3 => ?_) (fun hc3 => ?_))))))
    ·
     refine .skip (Ae (.seq (.block (.seq (.draw [(0, 0), (1, 1), (0, 2), (1, 3), (0, 4), (0, 5)] Ar zK (.i1 J J J J Dc Ap 0 J dE (.load1 J J J Y22 J Z0 (by rfl) ?_)))))))
     refine .i1 J J J J Dc Ap 4 J dE (.load1 J J J Y22 J Z0 (by rfl) ?_)
     refine .a J J J (.a J J J (.na (.seq (.draw [(0, 0), (1, 1), (0, 2), (0, 4), (0, 7), (0, 11), (0, 12), (1, 13), (0, 14), (0, 15), (0, 16), (0, 17), (1, 18), (0, 19), (0, 20), (0, 22), (0, 23), (1, 24), (0, 26), (0, 27), (1, 28), (3, 3), (3, 5), (0, 6), (3, 8), (0, 9), (0, 10), (0, 21), (0, 25), (0, 29), (0, 30)] Ar zK (.i1 J J J J Dc Ap 7 J dE (.load1 J J J Y22 J Z0 (by rfl) ?_))))))
     refine .m J J J (.m J J J (.m J J J (.m J J J (.i1 J J J J Dc Ap 5 J dE (.load1 J J J Y22 J Z0 (by rfl) ?_)))))
     refine .and_u64 J J J J (.m J J J (.not_u64 J J J (.i1 J J J J Dc Ap 6 J dE (.load1 J J J Y22 J Z0 (by rfl) ?_))))
     refine .and_u64 J J J J (.xor_u64 J J J J (.m J J J (.i1 J J J J Y209 Ap _ J oM (.load1 J J J Y22 J Z2 (by exact A3 oM) ?_))))
     refine .m J J J (.i1 J J J J Y209 Ap _ J oM (.load1 J J J Y22 J Z1 (by exact A3 oM) ?_))
     refine .cV J J J J Body240 (r2_rot _ 14 dE) tV (.cV J J J J Body240 (r2_rot _ 18 dE) tV (.xor_u64 J J J J (.cV J J J J Body240 (r2_rot _ 41 dE) tV (.xor_u64 J J J J (.add_u64 J J J J (.add_u64 J J J J (.add_u64 J J J J (.add_u64 J J J J (.a J J J (.na (.seq (.draw [(0, 0), (0, 2), (0, 5), (0, 8), (0, 9), (1, 10), (0, 11), (0, 12), (0, 13), (1, 14), (0, 15), (0, 16), (0, 17), (1, 18), (0, 19), (1, 20), (0, 21), (0, 22), (3, 1), (3, 3), (0, 4), (3, 6), (0, 7), (0, 23), (0, 24)] Ar zK (.m J J J (.m J J J (.m J J J (.m J J J (.i1 J J J J Dc Ap 1 J dE (.load1 J J J Y22 J Z0 (by rfl) ?_))))))))))))))))))
     refine .and_u64 J J J J (.m J J J (.i1 J J J J Dc Ap 2 J dE (.load1 J J J Y22 J Z0 (by rfl) ?_)))
     refine .and_u64 J J J J (.xor_u64 J J J J (.i1 J J J J Dc Ap 1 J dE (.load1 J J J Y22 J Z0 (by rfl) ?_)))
     refine .i1 J J J J Dc Ap 2 J dE (.load1 J J J Y22 J Z0 (by rfl) ?_)
     refine .and_u64 J J J J (.xor_u64 J J J J (.cV J J J J Body240 (r2_rot _ 28 dE) tV (.cV J J J J Body240 (r2_rot _ 34 dE) tV (.xor_u64 J J J J (.cV J J J J Body240 (r2_rot _ 39 dE) tV (.xor_u64 J J J J (.add_u64 J J J J (.a J J J (.na (.region (.m J J J (.m J J J (.add_u64 J J J J (.m J J J (.i1 J J J J Dc Ap 1 J dE (.load1 J J J Y22 J Z0 (by rfl) ?_))))))))))))))))
     refine .i1 J J J J Dc Ap 2 J dE (.load1 J J J Y22 J Z0 (by rfl) ?_)
     refine .i1 J J J J Dc Ap 3 J dE (.load1 J J J Y22 J Z0 (by rfl) ?_)
     refine .m J J J (.add_u64 J J J J (.m J J J (.i1 J J J J Dc Ap 5 J dE (.load1 J J J Y22 J Z0 (by rfl) ?_))))
     refine .i1 J J J J Dc Ap 6 J dE (.load1 J J J Y22 J Z0 (by rfl) ?_)
     refine .build (cs := Af (rnd1 (rnds k w (W8.of st) t) (k.getD t 0) (w.getD t 0)).l) J J J (fun w => by kernel_rfl) ?_
     refine .sA J J J J zB Sz135 (by (simp [W8.l_length]; done)) Z0 (by (simp [W8.l_length]; done)) zU ?_
     refine .nil (Bj (Ae (.region (.m J J J (.aI J J J J oM (.a J J J (.na ?_)))))))
     exact ⟨t + 1, by omega, by omega, Ac (wk1 rfl (wk1 rfl (wk1 rfl (wk1 rfl (wk1 rfl (wk1 rfl wk0)))))) (wh1 Z0 (wh1 Z1 (wh1 Z2 (wh1 Z3 (wh1 Z4 wh0))))) nD⟩
    ·
     obtain rfl : t = 80 := by omega
     rw [hR.out]
     refine .exit (A1 (A1 (B5 (Ae (.seq (.sr (.a J J J (.na (.block (.loop (ι := Nat) (fun i => ⟨[(2, ptr n2 0), (4, ptr n4 0), (11, ptr n11 0), (17, i64 (i : Int))], [⟨n11, Af (addUp R.l st i), 135, 8⟩, ⟨n4, Af (List.replicate 8 0), 135, 8⟩, ⟨n2, Af st, 135, (Af st).length⟩]⟩) (fun i => i ≤ 8) (fun i => 8 - i) (0) ?_ ?_ ?_))))))))))
     · omega
     · exact Ac (wk1 rfl (wk1 rfl (wk1 rfl (wk1 rfl wk0)))) (wh1 Z0 (wh1 Z3 (wh1 Z4 wh0))) nD
     ·
      rintro i hi
      have hlu := Cg R.l st i
      refine .seq (.sr (.m J J J (.lss J J J J J (.na (.condP J (fun hc4 => ?_) (fun hc4 => ?_))))))
      ·
       refine .skip (Ae (.seq (.block (.draw [(0, 0), (0, 1), (0, 2), (1, 3), (0, 4), (0, 5), (1, 6), (0, 7), (0, 8), (4, 9)] Ar zK (.m J J J (.m J J J (.i1 J J J J Dc Ap _ J oM (.load1 J J J Y22 J Z0 (by exact A3 oM) ?_))))))))
       refine .m J J J (.i1 J J J J Dc Ap _ J oM (.load1 J J J Y22 J Z2 (by exact A3 oM) ?_))
       refine .add_u64 J J J J (.i1 J J J J Dc Ap _ J oM (.s1 J J J J J Ap Z0 (by (simp [hRl, Cg]; omega)) (by exact A9 _ _ _) zU ?_))
       refine .nil (Bj (Ae (.region (.m J J J (.aI J J J J oM (.a J J J (.na ?_)))))))
       exact ⟨i + 1, by omega, by omega, Ac (wk1 rfl (wk1 rfl (wk1 rfl (wk1 rfl wk0)))) (wh1 Z0 (wh1 Z1 (wh1 Z2 wh0))) nD⟩
      ·
       obtain rfl : i = 8 := by omega
       rw [hcm]
       refine .exit (A1 (A1 (B5 (Ae (.sr (.lA J J J Dc J Sz135 Z0 (by (simp [hst, Cg]; done)) ?_))))))
       refine .sA J J J J zB Sz135 (by (simp [hst, Cg]; done)) Z1 sP zV ?_
       refine .na (.ret (An ?_))
       refine ⟨_, [], Ao J J Dc J Sz135 Z1 (by simp [hst, Cg]), sP, sP, ?_, rfl⟩
       rfl

theorem r2_bytes (st : List UInt64) (hst : st.length = 8) (s : List UInt8) (hs : Hid (sumUp st 64 = s)) : Meets Tryz.prog 140 [agg (Af st)] [] (fun _ => True) (fun v out => v = agg (Aa s) ∧ out = []) := by
 intro W hW
 have hs64 : s.length = 64 := by rw [← hs.out]; exact Cz st 64
 refine Ab Tryz.func140 J 23 Tryz.ntmps140 J (.sr (.boxA J J ?_))
 intro n1 hn1 hf1
 refine .alloc (cs := (Aa (List.replicate 64 0))) J Zr26 J ?_
 intro n2 hn2 hf2
 refine .nsr (.alloc (cs := (Aa (List.replicate 64 0))) J Zr26 J ?_)
 intro n3 hn3 hf3
 refine .na (.seq (.sr (.a J J J (.na (.block (.loop (ι := Nat) (fun k => ⟨[(1, ptr n1 0), (2, ptr n2 0), (3, ptr n3 0), (4, i64 (k : Int))], [⟨n3, Aa (sumUp st k), 26, 64⟩, ⟨n2, Aa (List.replicate 64 0), 26, 64⟩, ⟨n1, Af st, 135, (Af st).length⟩]⟩) (fun k => k ≤ 64) (fun k => 64 - k) (0) ?_ ?_ ?_))))))
 · omega
 · exact Ac (wk1 rfl (wk1 rfl (wk1 rfl (wk1 rfl wk0)))) (wh1 Z0 (wh1 Z1 (wh1 Z2 wh0))) nD
 ·
  rintro k hi
  have hlk := Cz st k
  refine .seq (.sr (.m J J J (.lss J J J J J (.na (.condP J (fun hc0 => ?_) (fun hc0 => ?_))))))
  ·
   refine .skip (Ae (.seq (.block (.region (.m J J J (.m J J J (.quo_i64 J J J J oM (.i1 J J J J Dc Ap (k / 8) oM oM (.load1 J J J Y22 J Z2 (by exact A3 oM) ?_)))))))))
   refine .m J J J (.remN k 8 J J J J dE (.mulN 8 (k % 8) J J J J oM (.subN 56 (8 * (k % 8)) J J J J oM (.conv J J J Y3 Y35 (A4 _) (.shr_u64 J J J J (56 - 8 * (k % 8)) (by rw [Ck _ oM]) oM ?_)))))
   refine .conv J J J Y22 Y5 (Cm _) (.i1 J J J J Y26 Sz5 _ J oM (.s1 J J J J J Sz5 Z0 (by (simp [Cz]; omega)) (by exact Bb _ _ _) zU ?_))
   refine .nil (Bj (Ae (.region (.m J J J (.aI J J J J oM (.a J J J (.na ?_)))))))
   exact ⟨k + 1, by omega, by omega, Ac (wk1 rfl (wk1 rfl (wk1 rfl (wk1 rfl wk0)))) (wh1 Z0 (wh1 Z1 (wh1 Z2 wh0))) nD⟩
  ·
   obtain rfl : k = 64 := by omega
   rw [hs.out]
   clear hlk
   refine .exit (A1 (A1 (B5 (Ae (.sr (.lA J J J Y26 J Sz26 Z0 (by (simp [hs64]; done)) ?_))))))
   refine .sA J J J J zE Sz26 (by (simp [hs64]; done)) Z1 sP zV ?_
   refine .na (.ret (An ?_))
   refine ⟨_, [], Ao J J Y26 J Sz26 Z1 (by simp [hs64]), sP, sP, ?_, rfl⟩
   rfl

theorem r2_join (p : Option Addr) (n c : Nat) (ss : List Sl) (ls : List (List UInt8)) (hss : ss.length = n) (hls : ls.length = n) (hsl : ∀ j, j < n → (ss.getD j Sl.nil).n = (ls.getD j []).length ∧ ((ss.getD j Sl.nil).p = none → (ss.getD j Sl.nil).n = 0)) (F : List UInt8) (hF : ls.flatten = F) (htot : F.length ≤ 90000) (hn : n ≤ 1000000)  : Meets Tryz.prog 143 [.slice p n c] [] (fun W => SeesP W p (ss.map Sl.v) ∧ ∀ j, j < n → SeesP W (ss.getD j Sl.nil).p (Aa (ls.getD j []))) (fun v out => ∃ s, v = s.v ∧ Acc s out (Aa F) 5 F.length 1) := by
 intro W hW
 have hle := take_flat_le ls
 rw [hF] at hle
 refine Ab Tryz.func143 J 18 Tryz.ntmps143 J (.sr (.a J J J (.nsr (.a J J J (.na (.seq (.sr (.a J J J (.na (.block (.loop (ι := Nat × Sl × List Blk) (fun x => ⟨[(0, .slice p n c), (3, x.2.1.v), (4, i64 (x.1 : Int))], (x.2.2 ++ [])⟩) (fun x => x.1 ≤ n ∧ Acc x.2.1 x.2.2 (Aa (ls.take x.1).flatten) 5 (ls.take x.1).flatten.length 1) (fun x => n - x.1) ((0, Sl.nil, [])) ?_ ?_ ?_)))))))))))
 · exact ⟨Nat.zero_le _, Acc.none⟩
 · exact Bh (wk1 rfl (wk1 rfl (wk1 rfl wk0))) (pm_none Au)
 ·
  rintro x ⟨hx, hax⟩
  refine .seq (.sr (.m J J J (.m J J J (.lenSl J J J Y133 (.lss J J J J J (.na (.condP J (fun hc0 => ?_) (fun hc0 => ?_))))))))
  ·
   have hx3 : x.1 < n := by omega
   obtain ⟨b, o, hbp, hbs⟩ := hW.1.at (by rw [List.length_map]; omega)
   have hv : W.cell? ⟨b, o + x.1 * 1, none⟩ = some (ss.getD x.1 Sl.nil).v := by rw [Nat.mul_one]; exact hbs x.1 _ (sl_get oM)
   have hstep := hle (x.1 + 1)
   rw [take_flat oM, List.length_append, ← (hsl x.1 oM).1] at hstep
   refine .skip (Ae (.seq (.block (.region (.m J J J (.m J J J (.m J J J (.idxSlP 1 J J J hbp J Y133 Co x.1 J oM (.loadE J J J Y39 J sP (hv) (.appendAcc (z := u8 0) (by' := 1) (Aa (ls.getD x.1 [])) J J J J J Y39 Y39 Sz5 Zr5 (by unfold By; kernel_rfl) J hax sG (fun w h => Ax h J (hW.2 x.1 oM)) (hsl x.1 oM).2 (Aw _) oM oM (by rw [Aa, List.length_map, Nat.mul_one]; exact (hsl x.1 oM).1.symm) ?_))))))))))
   intro s16 bl16 hac16
   refine .a J J J (.nil (Bj (Ae (.region (.m J J J (.aI J J J J oM (.a J J J (.na ?_))))))))
   refine ⟨(x.1 + 1, s16, bl16), ⟨by simp only []; omega, ?_⟩, by simp only []; omega, Bh (wk1 J (wk1 J (wk1 J wk0))) (B6 sG Au)⟩
   rw [take_flat oM, List.length_append, ← (hsl x.1 oM).1]
   simpa [Aa] using hac16
  ·
   have hx3 : x.1 = n := by omega
   rw [hx3, List.take_of_length_le oM, hF] at hax
   refine .exit (A1 (A1 (B5 (Ae (.sr (.m J J J (.a J J J (.na (.ret (An (Be (out := (x.2.2 ++ [])) (Ag J J) (B6 sG Au) ?_)))))))))))
   exact ⟨x.2.1, rfl, by rw [List.append_nil]; exact hax⟩

theorem pad_acc (F : List UInt8) {q c : Nat} (x : UInt64) (h : F.length + 1 + padZ F.length + 8 ≤ c) : Acc ⟨some ⟨q, 0, none⟩, F.length + 1 + padZ F.length + 8, c⟩ [⟨q, Aa (F ++ [128] ++ List.replicate (padZ F.length) 0) ++ List.replicate 8 (u8 0), 5, c⟩] (Aa (F ++ [128] ++ List.replicate (padZ F.length) 0 ++ beUp 0 8 ++ beUp x 0)) 5 (F.length + 1 + padZ F.length + 8 + 0) 1 := by
  have e : Aa (F ++ [128] ++ List.replicate (padZ F.length) 0) ++ List.replicate 8 (u8 0) = Aa (F ++ [128] ++ List.replicate (padZ F.length) 0 ++ beUp 0 8 ++ beUp x 0) := by
    rw [show beUp x 0 = [] from rfl, List.append_nil, bytesV_app (b := beUp 0 8)]
    rfl
  have h2 : (Aa (F ++ [128] ++ List.replicate (padZ F.length) 0 ++ beUp 0 8 ++ beUp x 0)).length = (F.length + 1 + padZ F.length + 8) * 1 := by
    simp [Aa, beUp_length]; omega
  have h3 := Acc.some (q := q) (E := 5) (size := 1) h h2
  rw [Nat.mul_one] at h3
  rw [e]
  exact h3

theorem r2_Pad (s : Sl) (F : List UInt8) (hsl : s.n = F.length) (hsn : s.p = none → s.n = 0) (htot : F.length ≤ 90000) : Meets Tryz.prog 212 [s.v] [] (fun W => SeesP W s.p (Aa F)) (fun v out => ∃ s, v = s.v ∧ Acc s out (Aa (padB F)) 5 (padB F).length 1) := by
 intro W hW
 have hz := padZ_lt F.length
 refine Ab Tryz.func212 J 38 Tryz.ntmps212 J (.sr (.a J J J (.nsr (.mkRow (z := u8 0) [] ([]) J J J Y39 Sz5 Zr5 J J (by intro v hv; cases hv) dE J ?_))))
 intro q6
 refine .m J J J (.appendSl (z := u8 0) (by' := 1) (Aa F) J J J J J Y39 Y39 Sz5 Zr5 (by unfold By; kernel_rfl) J (fun w h => Ax h J hW) hsn (Aw _) rM J J oM oM oM (by rw [Aa, List.length_map]; omega) ?_)
 intro q8 c8 hq8
 refine .mkRow (z := u8 0) [u8 (128)] (Aa [128]) J J J Y39 Sz5 Zr5 J J (by intro v hv; rw [List.mem_singleton.1 hv]; rfl) dE J ?_
 intro q9
 refine .appendSl (z := u8 0) (by' := 1) (Aa [128]) J J J J J Y39 Y39 Sz5 Zr5 (by unfold By; kernel_rfl) J (fun w h => SeesP.of (Ak h Z0)) (fun e => by cases e) (Aw _) rM J (by rw [List.nil_append, Aa, List.length_map]; omega) oM oM oM (by rfl) ?_
 intro q10 c10 hq10
 refine .a J J J (.na (.seq (.block (.loop (ι := Nat × Sl × List Blk) (fun z => ⟨[(0, s.v), (3, z.2.1.v)], (z.2.2 ++ [])⟩) (fun z => z.1 ≤ padZ F.length ∧ Acc z.2.1 z.2.2 (Aa (F ++ [128] ++ List.replicate z.1 0)) 5 (F.length + 1 + z.1) 1) (fun z => padZ F.length - z.1) ((0, ⟨some ⟨q10, 0, none⟩, 0 + s.n + 1, c10⟩, [⟨q10, [] ++ Aa F ++ Aa [128], 5, c10 * 1⟩])) ?_ ?_ ?_))))
 · exact ⟨Nat.zero_le _, by rw [show [] ++ Aa F ++ Aa [128] = Aa (F ++ [128] ++ List.replicate 0 0) from by simp [Aa], show 0 + s.n + 1 = F.length + 1 + 0 by omega]; exact Acc.some oM (by simp [Aa])⟩
 · exact Bh (wk1 rfl (wk1 rfl wk0)) (pm_consE rM rfl rfl Au)
 ·
  rintro ⟨j, sz, blz⟩ ⟨hz1, haz⟩
  simp only [] at hz1 haz
  have hzn := haz.num
  have hpz := padZ_at F.length j hz1
  refine .seq (.sr (.m J J J (.lenSl J J J Y39 (.rem_i64 J J J J oM (.nei J J J J J (.na (.condNP J (fun hc0 => ?_) (fun hc0 => ?_))))))))
  ·
   simp only [] at hc0
   have hz3 : j < padZ F.length := by omega
   refine .skip (Ae (.block (.region (.m J J J (.mkRow (z := u8 0) [u8 (0)] (Aa [0]) J J J Y39 Sz5 Zr5 J J (by intro v hv; rw [List.mem_singleton.1 hv]; rfl) dE J ?_)))))
   intro q16
   refine .appendAcc (z := u8 0) (by' := 1) (Aa [0]) J J J J J Y39 Y39 Sz5 Zr5 (by unfold By; kernel_rfl) J haz sG (fun w h => SeesP.of (Ak h Z0)) (fun e => by cases e) (Aw _) oM oM (by rfl) ?_
   intro s17 bl17 hac17
   refine .a J J J (.nil (Bj (Ae ?_)))
   refine ⟨(j + 1, s17, bl17), ⟨by simp only []; omega, ?_⟩, by simp only []; omega, Bh (wk1 J (wk1 J wk0)) (B6 sG Au)⟩
   rw [List.replicate_succ', ← List.append_assoc]
   simpa [Aa, Nat.add_assoc] using hac17
  ·
   simp only [] at hc0
   have hz3 : j = padZ F.length := by omega
   rw [hz3] at haz
   obtain ⟨qz, cz, rfl, hcz, rfl⟩ := acc_pos haz oM
   refine .exit (A1 (A1 (B5 (Ae (.sr (.m J J J (.appendMade (n := F.length + 1 + padZ F.length) (m := 8) (z := u8 0) (by' := 1) J J J J J J Y39 Y3 Sz5 Zr5 (by unfold By; kernel_rfl) J J rM (Nat.mul_one _) (by rw [Aa, List.length_map]; simp; omega) hcz oM dE ?_)))))))
   intro q19 c19 hq19
   refine .a J J J (.nsr (.m J J J (.lenSl J J J Y39 (.conv J J J Y3 Y22 (A4 _) ?_))))
   rw [word_nat (n := s.n) oM]
   refine .mul_u64 J J J (show Ah _ _ = some (u64 8) from rfl) ?_
   rw [hsl]
   refine .a J J J (.na (.seq (.sr (.a J J J (.na (.block (.loop (ι := Nat × Sl × List Blk) (fun y => ⟨[(3, y.2.1.v), (4, u64 (UInt64.ofNat F.length * 8)), (5, i64 (7 - (y.1 : Int)))], (y.2.2 ++ [])⟩) (fun y => y.1 ≤ 8 ∧ Acc y.2.1 y.2.2 (Aa (F ++ [128] ++ List.replicate (padZ F.length) 0 ++ beUp 0 8 ++ beUp (UInt64.ofNat F.length * 8) y.1)) 5 (F.length + 1 + padZ F.length + 8 + y.1) 1) (fun y => 8 - y.1) ((0, ⟨some ⟨q19, 0, none⟩, F.length + 1 + padZ F.length + 8, c19⟩, [⟨q19, Aa (F ++ [128] ++ List.replicate (padZ F.length) 0) ++ List.replicate 8 (u8 0), 5, c19⟩])) ?_ ?_ ?_)))))))
   · exact ⟨Nat.zero_le _, pad_acc F _ hq19⟩
   · exact Bh (wk1 rfl (wk1 rfl (wk1 rfl wk0))) (pm_consE rM rfl rfl Au)
   ·
    rintro y ⟨hy, hay⟩
    refine .seq (.sr (.m J J J (.geq J J J J J (.na (.condP J (fun hc1 => ?_) (fun hc1 => ?_))))))
    ·
     have hy3 : y.1 ≤ 7 := by omega
     refine .skip (Ae (.seq (.block (.region (.m J J J (.m J J J (.m J J J (.mul_i64 J J J J oM (.conv J J J Y3 Y35 (A4 _) (.shr_u64 J J J J (56 - 8 * y.1) (by rw [Ck _ oM]; omega) oM ?_))))))))))
     refine .conv J J J Y22 Y5 (Cm _) (.mkRow (z := u8 0) [u8 ((As (UInt64.ofNat F.length * 8) (56 - 8 * y.1)).toUInt8)] (Aa [(As (UInt64.ofNat F.length * 8) (56 - 8 * y.1)).toUInt8]) J J J Y39 Sz5 Zr5 J J (by intro v hv; rw [List.mem_singleton.1 hv]; rfl) dE J ?_)
     intro q35
     refine .appendAcc (z := u8 0) (by' := 1) (Aa [(As (UInt64.ofNat F.length * 8) (56 - 8 * y.1)).toUInt8]) J J J J J Y39 Y39 Sz5 Zr5 (by unfold By; kernel_rfl) J hay sG (fun w h => SeesP.of (Ak h Z0)) (fun e => by cases e) (Aw _) oM oM (by rfl) ?_
     intro s36 bl36 hac36
     refine .a J J J (.nil (Bj (Ae (.region (.m J J J (.sub_i64 J J J J oM (.a J J J (.na ?_))))))))
     refine ⟨(y.1 + 1, s36, bl36), ⟨by simp only []; omega, ?_⟩, by simp only []; omega, Bh (wk1 J (wk1 J (wk1 (congrArg (fun z => some (i64 z)) oM) wk0))) (B6 sG Au)⟩
     rw [show beUp (UInt64.ofNat F.length * 8) (y.1 + 1) = beUp (UInt64.ofNat F.length * 8) y.1 ++ [(As (UInt64.ofNat F.length * 8) (56 - 8 * y.1)).toUInt8] from rfl, ← List.append_assoc, bytesV_app]
     exact hac36
    ·
     have hy3 : y.1 = 8 := by omega
     rw [hy3] at hay
     refine .exit (A1 (A1 (B5 (Ae (.sr (.m J J J (.a J J J (.na (.ret (An (Be (out := (y.2.2 ++ [])) (Ag J J) (B6 sG Au) ?_)))))))))))
     refine ⟨y.2.1, rfl, ?_⟩
     have e8 : UInt64.ofNat F.length * 8 = UInt64.ofNat (8 * F.length) := by
      apply UInt64.toNat_inj.1
      rw [mul8_nat (by rw [ofNat_nat oM]; omega), ofNat_nat oM, ofNat_nat oM]; omega
     rw [e8] at hay
     rw [padB_length, padB]
     simpa [Nat.add_assoc, Nat.add_comm, Nat.add_left_comm] using hay

theorem take_len2 {xs : List UInt8} {i K : Nat} (h : xs.length = 128 * K) (hi : i < K) : ((xs.drop (128 * i)).take 128).length = 128 := by simp; omega
theorem sees_chunk {w : World} {q i : Nat} {l : List UInt8} (h : Cc w q 0 (Aa l)) : Cc w q (128 * i) (Aa ((l.drop (128 * i)).take 128)) := fun j v hj => by
  have e : (Aa l)[128 * i + j]? = some v := by
    rw [Aa, List.map_take, List.map_drop, List.getElem?_take] at hj
    split at hj
    · rwa [List.getElem?_drop] at hj
    · cases hj
  have h1 := h _ v e
  rwa [Nat.zero_add] at h1
theorem cut_chunk (q c i : Nat) (h : 128 * i < c) : (.slice (some ⟨q, if c = 128 * i then 0 else 0 + 128 * i * 1, none⟩) (128 * i + 128 - 128 * i) (c - 128 * i) : Value) = .slice (some ⟨q, 128 * i, none⟩) 128 (c - 128 * i) := by
  rw [if_neg oM, show 128 * i + 128 - 128 * i = 128 by omega, show 0 + 128 * i * 1 = 128 * i by omega]

theorem r2_run (st : List UInt64) (hst : st.length = 8) (k : List UInt64) (hk : Hid (kW = k)) (hk80 : k.length = 80) (s : Sl) (F : List UInt8) (hsl : s.n = F.length) (hsn : s.p = none → s.n = 0) (htot : F.length ≤ 90000) : Meets Tryz.prog 141 [agg (Af st), s.v] [] (fun W => SeesP W s.p (Aa F)) (fun v out => v = agg (Af (allW k st F)) ∧ out = []) := by
 intro W hW
 have hpl := padB_length F
 have hpz := padZ_lt F.length
 have hpm := padB_mod F
 obtain ⟨K, hK⟩ : ∃ K, (padB F).length / 128 = K := ⟨_, rfl⟩
 rw [hK] at hpm
 obtain ⟨U, hU⟩ : ∃ U, Hid (allW k st F = U) := ⟨_, ⟨rfl⟩⟩
 have hst2 : U.length = 8 := by rw [← hU.out, allW_length]; exact hst
 rw [hU.out]
 have hrl := hst2
 refine Ab Tryz.func141 J 23 Tryz.ntmps141 J (.sr (.boxA J J ?_))
 intro n2 hn2 hf2
 refine .alloc (cs := (Af (List.replicate 8 0))) J Zr135 J ?_
 intro n4 hn4 hf4
 refine .nsr (.m J J J (.call4 J J J J J Body212 (r2_Pad s F hsl hsn htot) (fun w h => Ax h J hW) ?_))
 rintro v8 out8 ⟨s7, rfl, hac7⟩
 obtain ⟨q7, c7, rfl, hc7, rfl⟩ := acc_pos hac7 oM
 refine .a J J J (.na (.seq (.sr (.a J J J (.na (.block (.loop (ι := Nat) (fun i => ⟨[(2, ptr n2 0), (4, ptr n4 0), (5, .slice (some ⟨q7, 0, none⟩) (padB F).length c7), (6, i64 ((128 * i : Nat) : Int))], [⟨q7, Aa (padB F), 5, c7 * 1⟩, ⟨n4, Af (List.replicate 8 0), 135, 8⟩, ⟨n2, Af (runW k st (padB F) i), 135, (Af st).length⟩]⟩) (fun i => i ≤ K) (fun i => K - i) (0) ?_ ?_ ?_)))))))
 · exact Nat.zero_le _
 · exact Bh (wk1 rfl (wk1 rfl (wk1 rfl (wk1 rfl wk0)))) (Ai rM (Ai rM (Ai rM Au)))
 ·
  rintro i hi
  have hrl : (runW k st (padB F) i).length = 8 := by rw [runW_length]; exact hst
  refine .seq (.sr (.m J J J (.m J J J (.lenSl J J J Y39 (.lss J J J J J (.na (.condP J (fun hc0 => ?_) (fun hc0 => ?_))))))))
  ·
   have hi3 : i < K := by omega
   obtain ⟨A, hA⟩ : ∃ A, Hid (schA ((padB F).drop (128 * i) |>.take 128) 128 = A) := ⟨_, ⟨rfl⟩⟩
   obtain ⟨w, hwp⟩ : ∃ w, Hid (schB A 64 = w) := ⟨_, ⟨rfl⟩⟩
   obtain ⟨R, hR⟩ : ∃ R, Hid (rnds k w (W8.of (runW k st (padB F) i)) 80 = R) := ⟨_, ⟨rfl⟩⟩
   have e1 : addUp (runW k st (padB F) i) R.l 8 = runW k st (padB F) (i + 1) := by rw [runW, pieceW, schW, hA.out, hwp.out, hR.out]
   have hrl2 : (runW k st (padB F) (i + 1)).length = 8 := by rw [runW_length]; exact hst
   refine .skip (Ae (.seq (.block (.draw [(1, 0), (0, 1), (0, 2), (0, 3), (0, 4), (0, 5), (3, 6), (4, 7)] Ar zK (.lA J J J Dc J Sz135 Z2 (by (simp [hrl]; done)) ?_)))))
   refine .m J J J (.m J J J (.m J J J (.aI J J J J oM (.sliceLoHiN (128*i) (128*i+128) J J J J J oM oM oM oM Y39 Sz5 ?_))))
   rw [cut_chunk q7 c7 i oM]
   refine .cV J J J J Body213 (r2_piece (runW k st (padB F) i) hrl ((padB F).drop (128 * i) |>.take 128) (take_len2 hpm hi3) q7 (128 * i) (c7 - 128 * i) A w k R hA hwp hk hk80 hR) (fun w h => sees_chunk (Ak h Z0)) ?_
   rw [e1]
   refine .sA J J J J zB Sz135 (by (simp [hst, runW_length]; done)) Z2 (by (simp [hrl]; done)) (by exact upd2) ?_
   refine .nil (Bj (Ae (.region (.m J J J (.aI J J J J oM (.a J J J (.na ?_)))))))
   exact ⟨i + 1, by omega, by omega, Bh (wk1 rfl (wk1 rfl (wk1 rfl (wk1 (congrArg (fun z => some (i64 z)) oM) wk0)))) (Ai rM (Ai rM (Ai rM Au)))⟩
  ·
   rw [show (runW k st (padB F) i) = U from by rw [show i = K by omega, ← hU.out, allW, hK]]
   refine .exit (A1 (A1 (B5 (Ae (.sr (.lA J J J Dc J Sz135 Z2 (by (simp [hst2]; done)) ?_))))))
   refine .sA J J J J zB Sz135 (by (simp [hst2]; done)) Z1 sP zV ?_
   refine .na (.ret (An ?_))
   refine ⟨_, [], Ao J J Dc J Sz135 Z1 (by simp [hst2]), sP, sP, ?_, rfl⟩
   rfl

theorem r2_Sum512 (p : Option Addr) (n c : Nat) (ss : List Sl) (ls : List (List UInt8)) (hss : ss.length = n) (hls : ls.length = n) (hsl : ∀ j, j < n → (ss.getD j Sl.nil).n = (ls.getD j []).length ∧ ((ss.getD j Sl.nil).p = none → (ss.getD j Sl.nil).n = 0)) (F : List UInt8) (hF : ls.flatten = F) (htot : F.length ≤ 90000) (hn : n ≤ 1000000) (s : List UInt8) (hs : Hid (Cd F = s))  : Meets Tryz.prog 136 [.slice p n c] [] (fun W => SeesP W p (ss.map Sl.v) ∧ ∀ j, j < n → SeesP W (ss.getD j Sl.nil).p (Aa (ls.getD j []))) (fun v out => v = agg (Aa s) ∧ out = []) := by
 intro W hW
 have hs64 : s.length = 64 := by rw [← hs.out]; exact Cy F
 obtain ⟨k, hk⟩ : ∃ k, Hid (kW = k) := ⟨_, ⟨rfl⟩⟩
 obtain ⟨st, hst⟩ : ∃ k, Hid (startW = k) := ⟨_, ⟨rfl⟩⟩
 obtain ⟨r, hr⟩ : ∃ r, Hid (allW k st F = r) := ⟨_, ⟨rfl⟩⟩
 have hk80 : k.length = 80 := by rw [← hk.out]; rfl
 have hst8 : st.length = 8 := by rw [← hst.out]; rfl
 have hr8 : r.length = 8 := by rw [← hr.out, allW_length]; exact hst8
 have hsum : Hid (sumUp r 64 = s) := ⟨by rw [← hr.out, ← hk.out, ← hst.out]; exact hs.out⟩
 have hrun := fun (x : Sl) (h1 : x.n = F.length) (h2 : x.p = none → x.n = 0) => r2_run st hst8 k hk hk80 x F h1 h2 htot
 rw [hr.out] at hrun
 refine Ab Tryz.func136 J 8 Tryz.ntmps136 J (.sr (.alloc (cs := (Aa (List.replicate 64 0))) J Zr26 J ?_))
 intro n2 hn2 hf2
 refine .nsr (.cV J J J J Body208 (r2_Start st hst) tV (.m J J J (.call4 J J J J J Body143 (r2_join p n c ss ls hss hls hsl F hF htot hn) (fun w h => ⟨Ax h J hW.1, fun j hj => Ax h J (hW.2 j hj)⟩) ?_)))
 rintro v5 out5 ⟨s5, rfl, hac5⟩
 refine .cV J J J J Body141 (hrun s5 hac5.num hac5.nil) (fun w h => hac5.see (Lies.of h (by repeat (exact Bt)))) ?_
 refine .cV J J J J Body140 (r2_bytes r hr8 s hsum) tV (.sA J J J J zE Sz26 (by (simp [hs64]; done)) mR sP (by (repeat (first | exact upd0 | apply Upd.seg))) ?_)
 refine .na (.ret (An ?_))
 refine ⟨_, [], Ao J J Y26 J Sz26 mR (by simp [hs64]), sP, sP, ?_, rfl⟩
 rfl

end Go.Proofs.YtpacobmjjjillaaGreat
end

section
namespace Ed
open Hw Go

def mr : List Nat → List Nat → Nat
  | w :: ws, b :: bs => w + 2 ^ b * mr ws bs
  | _, _ => 0
def dg (n : Nat) : List Nat → List Nat
  | b :: bs => n % 2 ^ b :: dg (n / 2 ^ b) bs
  | [] => []
def carL (c : Nat) : List Nat → List Nat → List Nat
  | w :: ws, b :: bs => (w + c) % 2 ^ b :: carL ((w + c) / 2 ^ b) ws bs
  | _, _ => []
theorem dg_length : ∀ (bs : List Nat) (n : Nat), (dg n bs).length = bs.length
  | [], _ => rfl
  | b :: bs, n => by simp [dg, dg_length bs]
theorem carL_dg : ∀ (bs ws : List Nat) (c : Nat), ws.length = bs.length → carL c ws bs = dg (mr ws bs + c) bs
  | [], ws, c, h => by cases ws <;> simp_all [carL, dg]
  | b :: bs, [], c, h => by simp at h
  | b :: bs, w :: ws, c, h => by
    have hp : 0 < 2 ^ b := Nat.pow_pos dE
    have h1 : mr (w :: ws) (b :: bs) + c = (w + c) + 2 ^ b * mr ws bs := by rw [mr]; omega
    rw [carL, dg, h1, Nat.add_mul_mod_self_left, Nat.add_mul_div_left _ _ hp, carL_dg bs ws _ (by simpa using h), Nat.add_comm (mr ws bs)]
theorem mr_dg : ∀ (bs : List Nat) (n : Nat), mr (dg n bs) bs = n % 2 ^ bs.sum
  | [], n => by simp [mr, dg, Nat.mod_one]
  | b :: bs, n => by
    rw [dg, mr, mr_dg bs, List.sum_cons, Nat.pow_add, Nat.mod_mul]
def b10 : List Nat := [26, 25, 26, 25, 26, 25, 26, 25, 26, 25]
theorem b10_sum : b10.sum = 255 := rfl
def A5 (i : Nat) : Nat := if i % 2 = 0 then 26 else 25
def v10 (w : List Nat) : Nat := mr w b10
def stepC (w : List Nat) (i : Nat) : List Nat :=
  if i = 9 then (w.set i (w.getD i 0 % 2 ^ A5 i)).set 0 ((w.set i (w.getD i 0 % 2 ^ A5 i)).getD 0 0 + 19 * (w.getD i 0 / 2 ^ A5 i))
  else (w.set i (w.getD i 0 % 2 ^ A5 i)).set (i + 1) ((w.set i (w.getD i 0 % 2 ^ A5 i)).getD (i + 1) 0 + w.getD i 0 / 2 ^ A5 i)
def C1 (w : List Nat) : Nat → List Nat
  | 0 => w
  | i + 1 => stepC (C1 w i) i
def C2 (w : List Nat) : List Nat := (dg (v10 w) b10).set 0 (v10 w % 2 ^ 26 + 19 * (v10 w / 2 ^ 255))
theorem len10 {w : List Nat} (h : w.length = 10) : ∃ a b c d e f g i j k, w = [a, b, c, d, e, f, g, i, j, k] := by
  match w, h with
  | [a, b, c, d, e, f, g, i, j, k], _ => exact ⟨a, b, c, d, e, f, g, i, j, k, rfl⟩
def cout (c : Nat) : List Nat → List Nat → Nat
  | w :: ws, b :: bs => cout ((w + c) / 2 ^ b) ws bs
  | _, _ => c
theorem cout_eq : ∀ (bs ws : List Nat) (c : Nat), ws.length = bs.length → cout c ws bs = (mr ws bs + c) / 2 ^ bs.sum
  | [], ws, c, h => by cases ws <;> simp_all [cout, mr]
  | b :: bs, [], c, h => by simp at h
  | b :: bs, w :: ws, c, h => by
    have hp : 0 < 2 ^ b := Nat.pow_pos dE
    have h1 : mr (w :: ws) (b :: bs) + c = (w + c) + 2 ^ b * mr ws bs := by rw [mr]; omega
    rw [cout, h1, List.sum_cons, Nat.pow_add, ← Nat.div_div_eq_div_mul, Nat.add_mul_div_left _ _ hp, cout_eq bs ws _ (by simpa using h), Nat.add_comm (mr ws bs)]
theorem stepC_0 (a b c d e f g i j k : Nat) : stepC [a, b, c, d, e, f, g, i, j, k] 0 = [a % 2 ^ 26, b + a / 2 ^ 26, c, d, e, f, g, i, j, k] := rfl
theorem stepC_1 (a b c d e f g i j k : Nat) : stepC [a, b, c, d, e, f, g, i, j, k] 1 = [a, b % 2 ^ 25, c + b / 2 ^ 25, d, e, f, g, i, j, k] := rfl
theorem stepC_2 (a b c d e f g i j k : Nat) : stepC [a, b, c, d, e, f, g, i, j, k] 2 = [a, b, c % 2 ^ 26, d + c / 2 ^ 26, e, f, g, i, j, k] := rfl
theorem stepC_3 (a b c d e f g i j k : Nat) : stepC [a, b, c, d, e, f, g, i, j, k] 3 = [a, b, c, d % 2 ^ 25, e + d / 2 ^ 25, f, g, i, j, k] := rfl
theorem stepC_4 (a b c d e f g i j k : Nat) : stepC [a, b, c, d, e, f, g, i, j, k] 4 = [a, b, c, d, e % 2 ^ 26, f + e / 2 ^ 26, g, i, j, k] := rfl
theorem stepC_5 (a b c d e f g i j k : Nat) : stepC [a, b, c, d, e, f, g, i, j, k] 5 = [a, b, c, d, e, f % 2 ^ 25, g + f / 2 ^ 25, i, j, k] := rfl
theorem stepC_6 (a b c d e f g i j k : Nat) : stepC [a, b, c, d, e, f, g, i, j, k] 6 = [a, b, c, d, e, f, g % 2 ^ 26, i + g / 2 ^ 26, j, k] := rfl
theorem stepC_7 (a b c d e f g i j k : Nat) : stepC [a, b, c, d, e, f, g, i, j, k] 7 = [a, b, c, d, e, f, g, i % 2 ^ 25, j + i / 2 ^ 25, k] := rfl
theorem stepC_8 (a b c d e f g i j k : Nat) : stepC [a, b, c, d, e, f, g, i, j, k] 8 = [a, b, c, d, e, f, g, i, j % 2 ^ 26, k + j / 2 ^ 26] := rfl
theorem stepC_9 (a b c d e f g i j k : Nat) : stepC [a, b, c, d, e, f, g, i, j, k] 9 = [a + 19 * (k / 2 ^ 25), b, c, d, e, f, g, i, j, k % 2 ^ 25] := rfl
theorem carAt_car {w : List Nat} (h : w.length = 10) : C1 w 10 = (carL 0 w b10).set 0 ((carL 0 w b10).getD 0 0 + 19 * cout 0 w b10) := by
  obtain ⟨a, b, c, d, e, f, g, i, j, k, rfl⟩ := len10 h
  simp only [C1, stepC_0, stepC_1, stepC_2, stepC_3, stepC_4, stepC_5, stepC_6, stepC_7, stepC_8, stepC_9, b10, carL, cout, Nat.add_zero, List.set_cons_zero, List.getD_cons_zero]
theorem carAt_eq {w : List Nat} (h : w.length = 10) : C1 w 10 = C2 w := by
  rw [carAt_car h, carL_dg b10 w 0 h, cout_eq b10 w 0 h, b10_sum]
  rfl
theorem car10_length (w : List Nat) : (C2 w).length = 10 := by simp [C2, dg_length, b10]
structure Fit10 (w : List Nat) : Prop where
  len : w.length = 10
  lo : w.getD 0 0 < 2 ^ 26 + 128
  hi : ∀ i, 0 < i → i < 10 → w.getD i 0 < 2 ^ A5 i
theorem dg_lt : ∀ (bs : List Nat) (n i : Nat), i < bs.length → (dg n bs).getD i 0 < 2 ^ bs.getD i 0
  | b :: bs, n, 0, _ => Nat.mod_lt _ (Nat.pow_pos dE)
  | b :: bs, n, i + 1, h => dg_lt bs (n / 2 ^ b) i (by simpa using h)
theorem b10_at : ∀ i : _root_.Fin 10, b10.getD i.val 0 = A5 i.val := by decide
theorem car10_fit {w : List Nat} (h : v10 w < 6 * 2 ^ 255) : Fit10 (C2 w) := by
  refine ⟨car10_length w, ?_, fun i h1 h2 => ?_⟩
  · show v10 w % 2 ^ 26 + 19 * (v10 w / 2 ^ 255) < _
    have : v10 w / 2 ^ 255 < 6 := Nat.div_lt_of_lt_mul oM
    have := Nat.mod_lt (v10 w) (show 0 < 2 ^ 26 by decide)
    omega
  · have h3 := dg_lt b10 (v10 w) i h2
    rw [b10_at ⟨i, h2⟩] at h3
    rwa [C2, List.getD_eq_getElem?_getD, List.getElem?_set_ne oM, ← List.getD_eq_getElem?_getD]
theorem car10_val (w : List Nat) : v10 (C2 w) = v10 w % 2 ^ 255 + 19 * (v10 w / 2 ^ 255) := by
  have h1 : dg (v10 w) b10 = v10 w % 2 ^ 26 :: dg (v10 w / 2 ^ 26) [25, 26, 25, 26, 25, 26, 25, 26, 25] := rfl
  have h2 : mr (dg (v10 w) b10) b10 = v10 w % 2 ^ 255 := mr_dg b10 (v10 w)
  rw [← h2, v10, C2, h1]
  show (v10 w % 2 ^ 26 + 19 * (v10 w / 2 ^ 255)) + 2 ^ 26 * _ = (v10 w % 2 ^ 26 + 2 ^ 26 * _) + _
  generalize mr _ _ = x
  omega
theorem car10_v (w : List Nat) : fe (v10 (C2 w)) = fe (v10 w) := by
  rw [car10_val]
  have h4 : v10 w = v10 w % 2 ^ 255 + 2 ^ 255 * (v10 w / 2 ^ 255) := (Nat.mod_add_div _ _).symm
  generalize v10 w / 2 ^ 255 = q at *
  generalize v10 w % 2 ^ 255 = r at *
  rw [h4, fe_eq]
  have e : r + 2 ^ 255 * q = (r + 19 * q) + PF * q := by
    have : (2 : Nat) ^ 255 = 19 + PF := by decide
    rw [this, Nat.add_mul]; omega
  rw [e, Nat.add_mul_mod_self_left]
def B4 (i : Nat) : Nat := (51 * i + 1) / 2
def coef (i k : Nat) : Nat := (if i + k > 9 then 19 else 1) * (if i % 2 = 1 ∧ k % 2 = 1 then 2 else 1)
theorem coef_le (i k : Nat) : coef i k ≤ 38 := by
  unfold coef
  split <;> split <;> omega
def coefOk (i k : Nat) : Bool := Nat.beq (2 ^ B4 ((i + k) % 10) * coef i k % PF) (2 ^ B4 i * 2 ^ B4 k % PF)
def coefAll : Bool := (List.range 10).all fun i => (List.range 10).all fun k => coefOk i k
theorem coef_all : coefAll = true := by kernel_rfl
theorem coef_fe {i k : Nat} (hi : i < 10) (hk : k < 10) : fe (2 ^ B4 ((i + k) % 10) * coef i k) = fe (2 ^ B4 i) * fe (2 ^ B4 k) := by
  have h := coef_all
  unfold coefAll at h
  rw [List.all_eq_true] at h
  have h1 := h i (List.mem_range.2 hi)
  rw [List.all_eq_true] at h1
  have h2 := h1 k (List.mem_range.2 hk)
  rw [← fe_mul]
  exact fe_eq.2 (Nat.eq_of_beq_eq_true h2)
theorem mr_set (p : Nat) : ∀ (bs w : List Nat) (m : Nat), w.length = bs.length → m < w.length → mr (w.set m (w.getD m 0 + p)) bs = mr w bs + 2 ^ (bs.take m).sum * p
  | [], [], m, _, h => by simp at h
  | b :: bs, x :: w, 0, _, _ => by
    show (x + p) + 2 ^ b * mr w bs = (x + 2 ^ b * mr w bs) + 2 ^ 0 * p
    omega
  | b :: bs, x :: w, m + 1, h1, h2 => by
    have ih := mr_set p bs w m (by simpa using h1) (by simpa using h2)
    show x + 2 ^ b * mr (w.set m (w.getD m 0 + p)) bs = (x + 2 ^ b * mr w bs) + 2 ^ (b + (bs.take m).sum) * p
    rw [ih, Nat.mul_add, Nat.pow_add, Nat.mul_assoc, Nat.add_assoc]
theorem at_sum : ∀ m : _root_.Fin 10, (b10.take m.val).sum = B4 m.val := by decide
theorem v10_set {w : List Nat} (h : w.length = 10) (p : Nat) {m : Nat} (hm : m < 10) : v10 (w.set m (w.getD m 0 + p)) = v10 w + 2 ^ B4 m * p := by
  rw [v10, mr_set p b10 w m h oM, at_sum ⟨m, hm⟩]; rfl
def tCell (x y : List Nat) (i k : Nat) (o : List Nat) : List Nat := o.set ((i + k) % 10) (o.getD ((i + k) % 10) 0 + coef i k * (x.getD i 0 * y.getD k 0))
def tRow (x y : List Nat) (i : Nat) (o : List Nat) : Nat → List Nat
  | 0 => o
  | k + 1 => tCell x y i k (tRow x y i o k)
def tAll (x y : List Nat) : Nat → List Nat
  | 0 => List.replicate 10 0
  | i + 1 => tRow x y i (tAll x y i) 10
theorem tRow_length (x y : List Nat) (i : Nat) {o : List Nat} (h : o.length = 10) : ∀ k, (tRow x y i o k).length = 10
  | 0 => h
  | k + 1 => by rw [tRow, tCell, List.length_set, tRow_length x y i h k]
theorem tAll_length (x y : List Nat) : ∀ i, (tAll x y i).length = 10
  | 0 => rfl
  | i + 1 => tRow_length x y i (tAll_length x y i) 10
def pv (w : List Nat) : Nat → Fp
  | 0 => 0
  | k + 1 => pv w k + fe (2 ^ B4 k) * fe (w.getD k 0)
theorem pv_all {w : List Nat} (h : w.length = 10) : pv w 10 = fe (v10 w) := by
  obtain ⟨a, b, c, d, e, f, g, i, j, k, rfl⟩ := len10 h
  have e1 : v10 [a, b, c, d, e, f, g, i, j, k] = 2 ^ B4 0 * a + 2 ^ B4 1 * b + 2 ^ B4 2 * c + 2 ^ B4 3 * d + 2 ^ B4 4 * e + 2 ^ B4 5 * f + 2 ^ B4 6 * g + 2 ^ B4 7 * i + 2 ^ B4 8 * j + 2 ^ B4 9 * k := by
    simp only [v10, mr, b10, B4, Nat.mul_add, ← Nat.mul_assoc, ← Nat.pow_add, Nat.mul_zero, Nat.add_zero, ← Nat.add_assoc]
    simp
  rw [e1]
  simp only [fe_add, fe_mul, pv, List.getD_cons_zero, List.getD_cons_succ]
  grind
theorem tRow_v (x y : List Nat) (i : Nat) (hi : i < 10) {o : List Nat} (h : o.length = 10) : ∀ k, k ≤ 10 → fe (v10 (tRow x y i o k)) = fe (v10 o) + fe (2 ^ B4 i) * fe (x.getD i 0) * pv y k
  | 0, _ => by simp only [tRow, pv]; grind
  | k + 1, hk => by
    have ih := tRow_v x y i hi h k oM
    have hc := coef_fe hi (show k < 10 by omega)
    rw [tRow, tCell, v10_set (tRow_length x y i h k) _ (Nat.mod_lt _ dE), fe_add, ih, ← Nat.mul_assoc, fe_mul, hc, fe_mul, pv]
    generalize fe (2 ^ B4 i) = A
    generalize fe (2 ^ B4 k) = B
    grind
theorem tAll_v {x y : List Nat} (hy : y.length = 10) : ∀ i, i ≤ 10 → fe (v10 (tAll x y i)) = pv x i * fe (v10 y)
  | 0, _ => by
    have e : fe (v10 (List.replicate 10 0)) = 0 := by kernel_rfl
    rw [tAll, e, pv]; grind
  | i + 1, hi => by
    rw [tAll, tRow_v x y i oM (tAll_length x y i) 10 (Nat.le_refl _), tAll_v hy i oM, pv_all hy, pv]
    grind
def ones : List Nat → Nat
  | b :: bs => 1 + 2 ^ b * ones bs
  | [] => 0
theorem mr_le (B : Nat) : ∀ bs w : List Nat, w.length = bs.length → (∀ m, m < w.length → w.getD m 0 ≤ B) → mr w bs ≤ B * ones bs
  | [], [], _, _ => Nat.zero_le _
  | b :: bs, x :: w, h1, h2 => by
    have ih := mr_le B bs w (by simpa using h1) (fun m hm => h2 (m + 1) (by simpa using hm))
    have hx : x ≤ B := h2 0 sP
    have h3 : 2 ^ b * mr w bs ≤ 2 ^ b * (B * ones bs) := Nat.mul_le_mul_left _ ih
    show x + 2 ^ b * mr w bs ≤ B * (1 + 2 ^ b * ones bs)
    rw [Nat.mul_add, Nat.mul_one, Nat.mul_left_comm B]
    omega
theorem ones_lt : Nat.ble (ones b10 + 1) (2 ^ 231) = true := by kernel_rfl
theorem v10_le {w : List Nat} (h : w.length = 10) (B : Nat) (h2 : ∀ m, m < 10 → w.getD m 0 ≤ B) : v10 w ≤ B * 2 ^ 231 :=
  Nat.le_trans (mr_le B b10 w h (by rw [h]; exact h2)) (Nat.mul_le_mul_left _ (Nat.le_of_succ_le (Nat.le_of_ble_eq_true ones_lt)))
theorem getD_set' {l : List Nat} {i j v : Nat} (hi : i < l.length) : (l.set i v).getD j 0 = if j = i then v else l.getD j 0 := by
  rw [List.getD_eq_getElem?_getD, List.getElem?_set]
  split
  · rename_i e; subst e; rw [if_pos rfl]; simp
  · rename_i e; rw [if_neg (fun h => e h.symm), List.getD_eq_getElem?_getD]
theorem tRow_le {x y : List Nat} {B i : Nat} (hi : i < 10) (hb : ∀ k, k < 10 → coef i k * (x.getD i 0 * y.getD k 0) ≤ B) {o : List Nat} (h : o.length = 10) : ∀ k, k ≤ 10 → ∀ m, m < 10 → (tRow x y i o k).getD m 0 ≤ o.getD m 0 + (if (m + 10 - i) % 10 < k then B else 0)
  | 0, _, m, hm => by rw [if_neg oM]; exact Nat.le_refl _
  | k + 1, hk, m, hm => by
    have ih := tRow_le hi hb h k oM
    have hl := tRow_length x y i h k
    rw [tRow, tCell, getD_set' (by rw [hl]; exact Nat.mod_lt _ dE)]
    split
    · rename_i e
      have h1 := ih m hm
      have h2 := hb k oM
      rw [if_neg oM] at h1
      rw [if_pos oM, ← e]
      omega
    · rename_i e
      have h1 := ih m hm
      refine Nat.le_trans h1 (Nat.add_le_add_left ?_ _)
      split
      · rw [if_pos oM]; exact Nat.le_refl _
      · exact Nat.zero_le _
theorem tAll_le {x y : List Nat} {B : Nat} (hb : ∀ i k, i < 10 → k < 10 → coef i k * (x.getD i 0 * y.getD k 0) ≤ B) : ∀ i, i ≤ 10 → ∀ m, m < 10 → (tAll x y i).getD m 0 ≤ i * B
  | 0, _, m, hm => by
    show (List.replicate 10 0).getD m 0 ≤ _
    rw [List.getD_eq_getElem?_getD, List.getElem?_replicate_of_lt hm, Nat.zero_mul]; exact Nat.le_refl _
  | i + 1, hi, m, hm => by
    have h1 := tRow_le oM (fun k hk => hb i k oM hk) (tAll_length x y i) 10 (Nat.le_refl _) m hm
    have h2 := tAll_le hb i oM m hm
    rw [if_pos (Nat.mod_lt _ dE)] at h1
    rw [tAll, Nat.succ_mul]
    omega
theorem Fit10.all {w : List Nat} (h : Fit10 w) {m : Nat} (hm : m < 10) : w.getD m 0 < 2 ^ 27 := by
  by_cases h0 : m = 0
  · subst h0; have := h.lo; omega
  · have h1 := h.hi m oM hm
    refine Nat.lt_of_lt_of_le h1 ?_
    unfold A5; split <;> decide
theorem term_le {x y : List Nat} (hx : Fit10 x) (hy : Fit10 y) (i k : Nat) (hi : i < 10) (hk : k < 10) : coef i k * (x.getD i 0 * y.getD k 0) ≤ 38 * (2 ^ 27 * 2 ^ 27) :=
  Nat.mul_le_mul (coef_le i k) (Nat.mul_le_mul (Nat.le_of_lt (hx.all hi)) (Nat.le_of_lt (hy.all hk)))
def mulT (x y : List Nat) : List Nat := C2 (C2 (tAll x y 10))
theorem mulT_v {x y : List Nat} (hx : x.length = 10) (hy : y.length = 10) : fe (v10 (mulT x y)) = fe (v10 x) * fe (v10 y) := by
  rw [mulT, car10_v, car10_v, tAll_v hy 10 (Nat.le_refl _), pv_all hx]
theorem mr_lt : ∀ bs w : List Nat, w.length = bs.length → (∀ m, m < w.length → w.getD m 0 < 2 ^ bs.getD m 0) → mr w bs + 1 ≤ 2 ^ bs.sum
  | [], [], _, _ => Nat.le_refl _
  | b :: bs, x :: w, h1, h2 => by
    have ih := mr_lt bs w (by simpa using h1) (fun m hm => h2 (m + 1) (by simpa using hm))
    have hx : x < 2 ^ b := h2 0 sP
    have h3 : 2 ^ b * (mr w bs + 1) ≤ 2 ^ b * 2 ^ bs.sum := Nat.mul_le_mul_left _ ih
    rw [mr, List.sum_cons, Nat.pow_add]
    rw [Nat.mul_add, Nat.mul_one] at h3
    omega
theorem Fit10.v {w : List Nat} (h : Fit10 w) : v10 w < 2 ^ 255 + 128 := by
  have hl := h.len
  have h0 := h.lo
  have h1 := h.hi
  cases w with
  | nil => simp at hl
  | cons a t =>
    have h2 := mr_lt [25, 26, 25, 26, 25, 26, 25, 26, 25] t (by simpa using hl) (fun m hm => by
      have h3 := h1 (m + 1) oM (by simp at hl; omega)
      have h4 := b10_at ⟨m + 1, by simp at hl; omega⟩
      rw [← h4] at h3
      exact h3)
    have h5 : [25, 26, 25, 26, 25, 26, 25, 26, 25].sum = 229 := rfl
    rw [h5] at h2
    have h6 : a < 2 ^ 26 + 128 := h0
    show a + 2 ^ 26 * mr t _ < _
    omega
theorem Bk {x y : List Nat} (hx : Fit10 x) (hy : Fit10 y) : Fit10 (mulT x y) := by
  have h1 := tAll_le (term_le hx hy) 10 (Nat.le_refl _)
  have h2 := v10_le (tAll_length x y 10) _ h1
  refine car10_fit ?_
  have h4 : v10 (tAll x y 10) / 2 ^ 255 < 2 ^ 40 := Nat.div_lt_of_lt_mul oM
  have h5 := Nat.mod_lt (v10 (tAll x y 10)) (show 0 < 2 ^ 255 by decide)
  rw [car10_val]
  omega
theorem mulT_length (x y : List Nat) : (mulT x y).length = 10 := car10_length _
def addAt (x y : List Nat) : Nat → List Nat
  | 0 => x
  | i + 1 => (addAt x y i).set i ((addAt x y i).getD i 0 + y.getD i 0)
theorem addAt_length {x : List Nat} (y : List Nat) (h : x.length = 10) : ∀ i, (addAt x y i).length = 10
  | 0 => h
  | i + 1 => by rw [addAt, List.length_set, addAt_length y h i]
def npv (w : List Nat) : Nat → Nat
  | 0 => 0
  | k + 1 => npv w k + 2 ^ B4 k * w.getD k 0
theorem addAt_v {x y : List Nat} (h : x.length = 10) : ∀ i, i ≤ 10 → v10 (addAt x y i) = v10 x + npv y i
  | 0, _ => rfl
  | i + 1, hi => by rw [addAt, v10_set (addAt_length y h i) _ oM, addAt_v h i oM, npv, Nat.add_assoc]
theorem npv_all {w : List Nat} (h : w.length = 10) : npv w 10 = v10 w := by
  obtain ⟨a, b, c, d, e, f, g, i, j, k, rfl⟩ := len10 h
  simp only [v10, mr, b10, B4, Nat.mul_add, ← Nat.mul_assoc, ← Nat.pow_add, Nat.mul_zero, Nat.add_zero, ← Nat.add_assoc, npv, List.getD_cons_zero, List.getD_cons_succ]
  simp
def plusT (x y : List Nat) : List Nat := C2 (addAt x y 10)
theorem plusT_v {x y : List Nat} (hx : x.length = 10) (hy : y.length = 10) : fe (v10 (plusT x y)) = fe (v10 x) + fe (v10 y) := by
  rw [plusT, car10_v, addAt_v hx 10 (Nat.le_refl _), npv_all hy, fe_add]
theorem plusT_fit {x y : List Nat} (hx : Fit10 x) (hy : Fit10 y) : Fit10 (plusT x y) := by
  refine car10_fit ?_
  rw [addAt_v hx.len 10 (Nat.le_refl _), npv_all hy.len]
  have := hx.v
  have := hy.v
  omega
def p4 (i : Nat) : Nat := 4 * (2 ^ A5 i - 1 - (if i = 0 then 18 else 0))
def subAt (x y : List Nat) : Nat → List Nat
  | 0 => x
  | i + 1 => (subAt x y i).set i ((subAt x y i).getD i 0 + (p4 i - y.getD i 0))
theorem subAt_length {x : List Nat} (y : List Nat) (h : x.length = 10) : ∀ i, (subAt x y i).length = 10
  | 0 => h
  | i + 1 => by rw [subAt, List.length_set, subAt_length y h i]
def p4v : Nat → Nat
  | 0 => 0
  | k + 1 => p4v k + 2 ^ B4 k * p4 k
theorem p4v_all : p4v 10 = 4 * PF := by kernel_rfl
theorem p4_ge {y : List Nat} (hy : Fit10 y) {i : Nat} (hi : i < 10) : y.getD i 0 ≤ p4 i := by
  unfold p4
  by_cases h0 : i = 0
  · subst h0
    have := hy.lo
    rw [if_pos rfl]
    show _ ≤ 4 * (2 ^ 26 - 1 - 18)
    omega
  · have h1 := hy.hi i oM hi
    rw [if_neg h0]
    have : 1 ≤ 2 ^ A5 i := Nat.pow_pos dE
    omega
theorem subAt_v {x y : List Nat} (h : x.length = 10) (hy : Fit10 y) : ∀ i, i ≤ 10 → v10 (subAt x y i) + npv y i = v10 x + p4v i
  | 0, _ => rfl
  | i + 1, hi => by
    have ih := subAt_v h hy i oM
    have h1 := p4_ge hy (show i < 10 by omega)
    have h2 : 2 ^ B4 i * (p4 i - y.getD i 0) + 2 ^ B4 i * y.getD i 0 = 2 ^ B4 i * p4 i := by
      rw [← Nat.mul_add, Nat.sub_add_cancel h1]
    rw [subAt, v10_set (subAt_length y h i) _ oM, npv, p4v]
    omega
def minusT (x y : List Nat) : List Nat := C2 (subAt x y 10)
theorem minusT_v {x y : List Nat} (hx : x.length = 10) (hy : Fit10 y) : fe (v10 (minusT x y)) = fe (v10 x) - fe (v10 y) := by
  have h := congrArg fe (subAt_v hx hy 10 (Nat.le_refl _))
  rw [npv_all hy.len, p4v_all, fe_add, fe_add, fe_four] at h
  rw [minusT, car10_v]
  generalize fe (v10 (subAt x y 10)) = u at *
  generalize fe (v10 x) = a at *
  generalize fe (v10 y) = b at *
  grind
theorem minusT_fit {x y : List Nat} (hx : Fit10 x) (hy : Fit10 y) : Fit10 (minusT x y) := by
  refine car10_fit ?_
  have h := subAt_v hx.len hy 10 (Nat.le_refl _)
  rw [p4v_all] at h
  have h1 := hx.v
  have h2 : PF < 2 ^ 255 := by decide
  omega
theorem car10_low {w : List Nat} (h : v10 w < 2 ^ 255) : C2 w = dg (v10 w) b10 := by
  rw [C2, Nat.div_eq_of_lt h, Nat.mul_zero, Nat.add_zero]; rfl
theorem v10_dg {n : Nat} (h : n < 2 ^ 255) : v10 (dg n b10) = n := by rw [v10, mr_dg, b10_sum, Nat.mod_eq_of_lt h]
def low10 (w : List Nat) : Nat := v10 w % 2 ^ 255 + 19 * (v10 w / 2 ^ 255)
theorem low10_fe (w : List Nat) : fe (low10 w) = fe (v10 w) := by rw [low10, ← car10_val, car10_v]
theorem low10_lt {w : List Nat} (h : Fit10 w) : low10 w < 2 ^ 255 := by
  have h1 := h.v
  rw [low10]
  omega
theorem car10_four {w : List Nat} (h : Fit10 w) : C2 (C2 (C2 (C2 w))) = dg (low10 w) b10 := by
  have h1 := low10_lt h
  have h2 : v10 (C2 w) = low10 w := car10_val w
  have h3 : C2 (C2 w) = dg (low10 w) b10 := by rw [car10_low (by rw [h2]; exact h1), h2]
  have h4 : C2 (dg (low10 w) b10) = dg (low10 w) b10 := by rw [car10_low (by rw [v10_dg h1]; exact h1), v10_dg h1]
  rw [h3, h4, h4]
end Ed
end

section
namespace Ed
open Hw Go

structure Mid10 (w : List Nat) : Prop where
  len : w.length = 10
  le : ∀ m, m < 10 → w.getD m 0 ≤ 7205759403792793600
theorem bits_ge (i : Nat) : 33554432 ≤ 2 ^ A5 i := by unfold A5; split <;> decide
theorem bits_le (i : Nat) : 2 ^ A5 i ≤ 67108864 := by unfold A5; split <;> decide
theorem bits_26 (i : Nat) : A5 i ≤ 26 := by unfold A5; split <;> decide
theorem carAt_length {w : List Nat} (h : w.length = 10) : ∀ i, (C1 w i).length = 10
  | 0 => h
  | i + 1 => by rw [C1, stepC]; split <;> simp [carAt_length h i]
theorem div_bits (x i : Nat) (h : x ≤ 7205759403792793600 + 274877906944) : x / 2 ^ A5 i ≤ 274877906944 := by
  have h1 : x / 2 ^ A5 i ≤ x / 33554432 := Nat.div_le_div_left (bits_ge i) dE
  omega
theorem carAt_le {w : List Nat} (h : Mid10 w) : ∀ i, i < 10 → ∀ m, m < 10 → (C1 w i).getD m 0 ≤ (if m = i then 7205759403792793600 + 274877906944 else 7205759403792793600)
  | 0, _, m, hm => by
    have := h.le m hm
    rw [C1]
    split <;> omega
  | i + 1, hi, m, hm => by
    have ih := carAt_le h i oM
    have hl := carAt_length h.len i
    have h2 := ih i oM
    rw [if_pos rfl] at h2
    rw [C1, stepC, if_neg oM, getD_set' (by rw [List.length_set, hl]; omega)]
    split
    · rename_i e
      rw [getD_set' (by rw [hl]; omega), if_neg oM]
      have h1 := ih (i + 1) oM
      rw [if_neg oM] at h1
      have h3 := div_bits _ i h2
      omega
    · rename_i e
      rw [getD_set' (by rw [hl]; omega)]
      split
      · have h3 : (C1 w i).getD i 0 % 2 ^ A5 i < 2 ^ A5 i := Nat.mod_lt _ (Nat.pow_pos dE)
        have h4 := bits_le i
        omega
      · rename_i e2
        have h1 := ih m hm
        rw [if_neg e2] at h1
        exact h1
structure CarK (w : List Nat) (k : Nat) : Prop where
  len : (C1 w k).length = 10
  x : (C1 w k).getD k 0 ≤ 7480637310737687 * 1000
  q : (C1 w k).getD k 0 / 2 ^ A5 k ≤ 274877906944
  nx : k < 9 → ((C1 w k).set k ((C1 w k).getD k 0 % 2 ^ A5 k)).getD (k + 1) 0 ≤ 7205759403792793600
  fs : k = 9 → ((C1 w k).set k ((C1 w k).getD k 0 % 2 ^ A5 k)).getD 0 0 ≤ 7205759403792793600
theorem carK {w : List Nat} (h : Mid10 w) {k : Nat} (hk : k < 10) : CarK w k := by
  have hl := carAt_length h.len k
  have h0 := carAt_le h k hk
  have h1 := h0 k hk
  rw [if_pos rfl] at h1
  refine ⟨hl, by omega, div_bits _ k h1, fun h9 => ?_, fun h9 => ?_⟩
  · rw [getD_set' (by rw [hl]; omega), if_neg oM]
    have := h0 (k + 1) oM
    rwa [if_neg oM] at this
  · rw [getD_set' (by rw [hl]; omega), if_neg oM]
    have := h0 0 oM
    rwa [if_neg oM] at this
theorem car_cut (x n : Nat) : x / 2 ^ n * 2 ^ n ≤ x ∧ x - x / 2 ^ n * 2 ^ n = x % 2 ^ n := by
  have := Nat.mod_add_div x (2 ^ n)
  rw [Nat.mul_comm] at this
  omega
theorem stepC_nine {w : List Nat} {k : Nat} (h : k = 9) : stepC w k = (w.set k (w.getD k 0 % 2 ^ A5 k)).set 0 ((w.set k (w.getD k 0 % 2 ^ A5 k)).getD 0 0 + 19 * (w.getD k 0 / 2 ^ A5 k)) := if_pos h
theorem stepC_low {w : List Nat} {k : Nat} (h : ¬ k = 9) : stepC w k = (w.set k (w.getD k 0 % 2 ^ A5 k)).set (k + 1) ((w.set k (w.getD k 0 % 2 ^ A5 k)).getD (k + 1) 0 + w.getD k 0 / 2 ^ A5 k) := if_neg h
theorem Fit10.mid {w : List Nat} (h : Fit10 w) : Mid10 w := ⟨h.len, fun m hm => by have := h.all hm; omega⟩
theorem car10_mid {w : List Nat} (h : v10 w < 2 ^ 300) : Mid10 (C2 w) := by
  refine ⟨car10_length w, fun m hm => ?_⟩
  have hl : (dg (v10 w) b10).length = 10 := by rw [dg_length]; rfl
  rw [C2, getD_set' (by rw [hl]; decide)]
  split
  · have h1 : v10 w / 2 ^ 255 < 2 ^ 45 := Nat.div_lt_of_lt_mul oM
    have h2 := Nat.mod_lt (v10 w) (show 0 < 2 ^ 26 by decide)
    omega
  · have h3 := dg_lt b10 (v10 w) m hm
    rw [b10_at ⟨m, hm⟩] at h3
    have := bits_le m
    simp only at h3
    omega
theorem tAll_mid {x y : List Nat} (hx : Fit10 x) (hy : Fit10 y) : Mid10 (tAll x y 10) :=
  ⟨tAll_length x y 10, fun m hm => by have := tAll_le (term_le hx hy) 10 (Nat.le_refl _) m hm; omega⟩
theorem tAll_v10 {x y : List Nat} (hx : Fit10 x) (hy : Fit10 y) : v10 (tAll x y 10) < 2 ^ 300 := by
  have h1 := tAll_le (term_le hx hy) 10 (Nat.le_refl _)
  have h2 := v10_le (tAll_length x y 10) _ h1
  omega
theorem addAt_get {x y : List Nat} (h : x.length = 10) : ∀ i, i ≤ 10 → ∀ m, m < 10 → (addAt x y i).getD m 0 = x.getD m 0 + (if m < i then y.getD m 0 else 0)
  | 0, _, m, hm => by rw [addAt, if_neg oM]; rfl
  | i + 1, hi, m, hm => by
    have ih := addAt_get (y := y) h i oM
    have hl := addAt_length y h i
    rw [addAt, getD_set' (by rw [hl]; omega)]
    split
    · rename_i e
      subst e
      rw [ih m hm, if_neg oM, if_pos oM]; rfl
    · rename_i e
      rw [ih m hm]
      by_cases h1 : m < i
      · rw [if_pos h1, if_pos oM]
      · rw [if_neg h1, if_neg oM]
theorem addAt_mid {x y : List Nat} (hx : Fit10 x) (hy : Fit10 y) : Mid10 (addAt x y 10) :=
  ⟨addAt_length y hx.len 10, fun m hm => by
    rw [addAt_get hx.len 10 (Nat.le_refl _) m hm, if_pos hm]
    have := hx.all hm
    have := hy.all hm
    omega⟩
theorem subAt_get {x y : List Nat} (h : x.length = 10) : ∀ i, i ≤ 10 → ∀ m, m < 10 → (subAt x y i).getD m 0 = x.getD m 0 + (if m < i then p4 m - y.getD m 0 else 0)
  | 0, _, m, hm => by rw [subAt, if_neg oM]; rfl
  | i + 1, hi, m, hm => by
    have ih := subAt_get (y := y) h i oM
    have hl := subAt_length y h i
    rw [subAt, getD_set' (by rw [hl]; omega)]
    split
    · rename_i e
      subst e
      rw [ih m hm, if_neg oM, if_pos oM]; rfl
    · rename_i e
      rw [ih m hm]
      by_cases h1 : m < i
      · rw [if_pos h1, if_pos oM]
      · rw [if_neg h1, if_neg oM]
theorem p4_le (m : Nat) : p4 m ≤ 268435456 := by
  have := bits_le m
  unfold p4
  omega
theorem subAt_mid {x y : List Nat} (hx : Fit10 x) : Mid10 (subAt x y 10) :=
  ⟨subAt_length y hx.len 10, fun m hm => by
    rw [subAt_get hx.len 10 (Nat.le_refl _) m hm, if_pos hm]
    have := hx.all hm
    have := p4_le m
    omega⟩
def o10 : List Nat := [26, 25, 26, 25, 26, 25, 26, 25, 26, 26]
def opB (i : Nat) : Nat := if i = 9 then 26 else A5 i
def opD (N : Nat) : List Nat := dg N o10
def opAt (N i : Nat) : List Nat := (opD N).take i ++ List.replicate (10 - i) 0
theorem opD_length (N : Nat) : (opD N).length = 10 := by rw [opD, dg_length]; rfl
theorem opAt_length (N i : Nat) (h : i ≤ 10) : (opAt N i).length = 10 := by
  rw [opAt, List.length_append, List.length_take, opD_length, List.length_replicate]; omega
theorem dg_get : ∀ (bs : List Nat) (n i : Nat), i < bs.length → (dg n bs).getD i 0 = n / 2 ^ (bs.take i).sum % 2 ^ bs.getD i 0
  | b :: bs, n, 0, _ => by
    show n % 2 ^ b = n / 2 ^ 0 % 2 ^ b
    rw [Nat.pow_zero, Nat.div_one]
  | b :: bs, n, i + 1, h => by
    have ih := dg_get bs (n / 2 ^ b) i (by simpa using h)
    show (dg (n / 2 ^ b) bs).getD i 0 = n / 2 ^ (b + (bs.take i).sum) % 2 ^ bs.getD i 0
    rw [ih, Nat.div_div_eq_div_mul, ← Nat.pow_add]
theorem o10_at : ∀ i : _root_.Fin 10, o10.getD i.val 0 = opB i.val ∧ (o10.take i.val).sum = B4 i.val := by decide
theorem opD_get (N : Nat) {i : Nat} (h : i < 10) : (opD N).getD i 0 = N / 2 ^ B4 i % 2 ^ opB i := by
  have h1 := o10_at ⟨i, h⟩
  rw [opD, dg_get o10 N i h, h1.1, h1.2]
theorem opAt_set (N : Nat) {i : Nat} (h : i < 10) : (opAt N i).set i (N / 2 ^ B4 i % 2 ^ opB i) = opAt N (i + 1) := by
  rw [← opD_get N h]
  have hl := opD_length N
  have e : (opD N).take (i + 1) = (opD N).take i ++ [(opD N).getD i 0] := by
    rw [List.getD_eq_getElem?_getD, List.getElem?_eq_getElem oM, Option.getD_some]
    exact List.take_succ_eq_append_getElem oM
  rw [opAt, opAt, show 10 - i = (10 - (i + 1)) + 1 by omega, List.replicate_succ, List.set_append_right _ _ (by rw [List.length_take, hl]; omega), List.length_take, hl, show i - min i 10 = 0 by omega, List.set_cons_zero, e, List.append_assoc]
  rfl
theorem opAt_first (N : Nat) {i : Nat} (h : i < 10) : (opAt N i).set i (N / 2 ^ B4 i % 2 ^ 0) = opAt N i := by
  have hl := opD_length N
  rw [Nat.pow_zero, Nat.mod_one, opAt, show 10 - i = (10 - (i + 1)) + 1 by omega, List.replicate_succ, List.set_append_right _ _ (by rw [List.length_take, hl]; omega), List.length_take, hl, show i - min i 10 = 0 by omega, List.set_cons_zero]
theorem opAt_ten (N : Nat) : opAt N 10 = opD N := by
  rw [opAt, Nat.sub_self, List.replicate_zero, List.append_nil, List.take_of_length_le (by rw [opD_length]; exact Nat.le_refl _)]
theorem opD_v {N : Nat} (h : N < 2 ^ 256) : v10 (opD N) = N := by
  have h1 : v10 (opD N) = mr (dg N o10) o10 := by simp [v10, opD, o10, b10, dg, mr]
  rw [h1, mr_dg]
  exact Nat.mod_eq_of_lt h
theorem opD_mid (N : Nat) : Mid10 (opD N) := ⟨opD_length N, fun m hm => by
  rw [opD_get N hm]
  have h1 : N / 2 ^ B4 m % 2 ^ opB m < 2 ^ opB m := Nat.mod_lt _ (Nat.pow_pos dE)
  have h2 : 2 ^ opB m ≤ 67108864 := by
    unfold opB
    split
    · decide
    · exact bits_le m
  omega⟩
def openT (N : Nat) : List Nat := C2 (opD N)
theorem openT_fit {N : Nat} (h : N < 2 ^ 256) : Fit10 (openT N) := car10_fit (by rw [opD_v h]; omega)
theorem openT_v {N : Nat} (h : N < 2 ^ 256) : fe (v10 (openT N)) = fe N := by rw [openT, car10_v, opD_v h]
theorem openT_length (N : Nat) : (openT N).length = 10 := car10_length _
theorem op_bit (N i k : Nat) : N / 2 ^ B4 i % 2 ^ (k + 1) = N / 2 ^ B4 i % 2 ^ k + (if N.testBit (B4 i + k) then 2 ^ k else 0) := by
  rw [mod_bit, Nat.testBit_div_two_pow, Nat.add_comm k]
theorem at_succ {i : Nat} (h : i < 10) : B4 i + A5 i = B4 (i + 1) := by
  have : ∀ i : _root_.Fin 10, B4 i.val + A5 i.val = B4 (i.val + 1) := by decide
  exact this ⟨i, h⟩
theorem at_le {i : Nat} (h : i < 10) : B4 i ≤ 230 := by unfold B4; omega
theorem at_op {i : Nat} (h : i < 10) : B4 i + opB i ≤ 256 := by
  have : ∀ i : _root_.Fin 10, B4 i.val + opB i.val ≤ 256 := by decide
  exact this ⟨i, h⟩
theorem op_le (i : Nat) : opB i ≤ 26 := by
  unfold opB
  split
  · exact Nat.le_refl _
  · exact bits_26 i
theorem byte_hi {n i : Nat} (h : n < 256 ^ i) : n / 256 ^ i = 0 := Nat.div_eq_of_lt h
theorem bit_set (X : Nat) {m : Nat} (hm : m < 256) (hb : X.testBit m = true) : (leb 32 (X % 2 ^ m)).set (m / 8) ((leb 32 (X % 2 ^ m)).getD (m / 8) 0 + shl8 1 (m % 8)) = leb 32 (X % 2 ^ (m + 1)) := by
  have e1 : X % 2 ^ (m + 1) = X % 2 ^ m + 2 ^ m := by rw [mod_bit, if_pos hb]
  have e2 : (2 : Nat) ^ m = 256 ^ (m / 8) * 2 ^ (m % 8) := by rw [pow256, ← Nat.pow_add]; congr 1; omega
  have hlt : X % 2 ^ m < 2 ^ m := Nat.mod_lt _ (Nat.pow_pos dE)
  rw [e1]
  generalize X % 2 ^ m = A at *
  have hc : 2 ^ (m % 8) < 256 := Nat.pow_lt_pow_of_lt (a := 2) (n := m % 8) (m := 8) dE oM
  have hj : m / 8 < 32 := by omega
  generalize m / 8 = j at *
  apply List.ext_getElem?
  intro i
  rcases Nat.lt_or_ge i 32 with hi | hi
  · rw [List.getElem?_set, Aj, leb_get 32 (A + 2 ^ m) i hi]
    split
    · rename_i e
      subst e
      rw [leb_getD 32 A _ hj]
      congr 1
      rw [shl8, show (1 : UInt8).toNat = 1 from rfl, Nat.one_mul, e2, Nat.add_mul_div_left _ _ (Nat.pow_pos dE), ← UInt8.ofNat_add]
    · rename_i e
      rw [leb_get 32 A i hi]
      congr 1
      apply ofNat8
      rcases Nat.lt_or_ge i j with h | h
      · rw [e2, byte_low A _ j i h]
      · have h2 : j + 1 ≤ i := by omega
        have h3 : A + 2 ^ m < 256 ^ i := by
          have h4 : (256 : Nat) ^ (j + 1) ≤ 256 ^ i := Nat.pow_le_pow_right dE h2
          have h5 : (2 : Nat) ^ m + 2 ^ m ≤ 256 ^ (j + 1) := by
            rw [e2, Nat.pow_succ, ← Nat.mul_add]
            refine Nat.mul_le_mul_left _ ?_
            have h6 : 2 ^ (m % 8) ≤ 2 ^ 7 := Nat.pow_le_pow_right dE oM
            omega
          omega
        rw [byte_hi h3, byte_hi oM]
  · rw [List.getElem?_eq_none (by rw [List.length_set, Aj]; exact hi), List.getElem?_eq_none (by rw [Aj]; exact hi)]
theorem bit_off (X m : Nat) (hb : X.testBit m = false) : leb 32 (X % 2 ^ m) = leb 32 (X % 2 ^ (m + 1)) := by
  rw [mod_bit, if_neg (by rw [hb]; decide), Nat.add_zero]
theorem dg_bit (X : Nat) {i k : Nat} (hi : i < 10) (hk : k < A5 i) : ((dg X b10).getD i 0).testBit k = X.testBit (B4 i + k) := by
  have h1 := b10_at ⟨i, hi⟩
  have h2 := at_sum ⟨i, hi⟩
  rw [dg_get b10 X i hi, h1, h2, Nat.testBit_mod_two_pow, Nat.testBit_div_two_pow, decide_eq_true hk, Bool.true_and, Nat.add_comm k]
theorem dg_bit_dec (X : Nat) {i k : Nat} (hi : i < 10) (hk : k < A5 i) : ((((dg X b10).getD i 0 / 2 ^ k : Nat) : Int) % 2 = 1) ↔ X.testBit (B4 i + k) = true := by
  rw [← dg_bit X hi hk, Nat.testBit_eq_decide_div_mod_eq, decide_eq_true_eq]
  omega
def topL (d : Nat) : List UInt8 := UInt8.ofNat (237 + d) :: (List.replicate 30 255 ++ [127])
theorem top_all : ((List.range 19).all fun d => leb 32 (PF + d) == topL d && leb 32 d == UInt8.ofNat d :: List.replicate 31 0) = true := by kernel_rfl
theorem top_at {d : Nat} (h : d < 19) : leb 32 (PF + d) = topL d ∧ leb 32 d = UInt8.ofNat d :: List.replicate 31 0 := by
  have := List.all_eq_true.1 top_all d (List.mem_range.2 h)
  rw [Bool.and_eq_true] at this
  exact ⟨eq_of_beq this.1, eq_of_beq this.2⟩
theorem pf_19 : PF + 19 = 2 ^ 255 := by decide
theorem fb_low {X : Nat} (h : X < PF) : leb 32 X = fb (fe X) := by rw [fb_fe, Nat.mod_eq_of_lt h]
theorem not_top {X : Nat} (hX : X < 2 ^ 255) (h : ¬ (237 ≤ ((leb 32 X).getD 0 0).toNat ∧ ((leb 32 X).getD 31 0).toNat = 127)) : leb 32 X = fb (fe X) := by
  rcases Nat.lt_or_ge X PF with h1 | h1
  · exact fb_low h1
  · exfalso
    have h2 := pf_19
    obtain ⟨d, rfl⟩ : ∃ d, X = PF + d := ⟨X - PF, by omega⟩
    have hd : d < 19 := by omega
    rw [(top_at hd).1] at h
    refine h ⟨?_, rfl⟩
    show 237 ≤ (UInt8.ofNat (237 + d)).toNat
    rw [UInt8.toNat_ofNat']
    omega
theorem not_mid {X i : Nat} (hX : X < 2 ^ 255) (hi : 0 < i) (hi2 : i < 31) (h : ¬ ((leb 32 X).getD i 0).toNat = 255) : leb 32 X = fb (fe X) := by
  rcases Nat.lt_or_ge X PF with h1 | h1
  · exact fb_low h1
  · exfalso
    have h2 := pf_19
    obtain ⟨d, rfl⟩ : ∃ d, X = PF + d := ⟨X - PF, by omega⟩
    have hd : d < 19 := by omega
    rw [(top_at hd).1] at h
    refine h ?_
    obtain ⟨j, rfl⟩ : ∃ j, i = j + 1 := ⟨i - 1, by omega⟩
    show ((List.replicate 30 (255 : UInt8) ++ [127]).getD j 0).toNat = 255
    rw [List.getD_eq_getElem?_getD, List.getElem?_append_left (by rw [List.length_replicate]; omega), List.getElem?_replicate_of_lt oM]
    rfl
theorem u8_eq (x y : UInt8) (h : x.toNat = y.toNat) : x = y := UInt8.toNat_inj.1 h
theorem top_list {l : List UInt8} {d : Nat} (hl : l.length = 32) (hd19 : d < 19) (hd : (l.getD 0 0).toNat = 237 + d) (h31 : (l.getD 31 0).toNat = 127) (hm : ∀ i, 0 < i → i < 31 → (l.getD i 0).toNat = 255) : l = topL d := by
  apply List.ext_getElem?
  intro i
  rcases Nat.lt_or_ge i 32 with hi | hi
  · have g : l[i]? = some (l.getD i 0) := by
      rw [List.getD_eq_getElem?_getD, List.getElem?_eq_getElem oM]; rfl
    rw [g]
    by_cases h1 : i = 0
    · rw [h1]
      show _ = some (UInt8.ofNat (237 + d))
      refine congrArg some (u8_eq _ _ ?_)
      rw [hd, UInt8.toNat_ofNat']
      exact (Nat.mod_eq_of_lt oM).symm
    · obtain ⟨j, rfl⟩ : ∃ j, i = j + 1 := ⟨i - 1, by omega⟩
      show _ = (List.replicate 30 (255 : UInt8) ++ [127])[j]?
      by_cases h2 : j = 30
      · rw [h2]
        exact congrArg some (u8_eq _ _ h31)
      · rw [List.getElem?_append_left (by rw [List.length_replicate]; omega), List.getElem?_replicate_of_lt oM]
        exact congrArg some (u8_eq _ _ (hm (j + 1) oM oM))
  · rw [List.getElem?_eq_none oM, List.getElem?_eq_none (by simp only [topL, List.length_cons, List.length_append, List.length_replicate, List.length_nil]; omega)]
theorem top_sub : ∀ d : _root_.Fin 19, UInt8.ofNat (237 + d.val) - 237 = UInt8.ofNat d.val := by decide
theorem top_val {X d : Nat} (hX : X < 2 ^ 255) (hd : d < 19) (h : leb 32 X = topL d) : X = PF + d := by
  have h5 := (top_at hd).1
  rw [← h] at h5
  have h6 := congrArg le h5
  have h7 := pf_19
  rw [le_leb, le_leb] at h6
  generalize PF = p at *
  rw [Nat.mod_eq_of_lt (Nat.lt_of_lt_of_le (show p + d < 2 ^ 255 by omega) (Nat.le_of_lt dE)), Nat.mod_eq_of_lt (Nat.lt_trans hX dE)] at h6
  exact h6.symm
theorem is_top {X : Nat} (hX : X < 2 ^ 255) (h0 : 237 ≤ ((leb 32 X).getD 0 0).toNat) (h31 : ((leb 32 X).getD 31 0).toNat = 127) (hm : ∀ i, 0 < i → i < 31 → ((leb 32 X).getD i 0).toNat = 255) : ((leb 32 X).getD 0 0 - 237) :: List.replicate 31 0 = fb (fe X) := by
  have h3 := ((leb 32 X).getD 0 0).toNat_lt
  obtain ⟨d, hd⟩ : ∃ d, ((leb 32 X).getD 0 0).toNat = 237 + d := ⟨((leb 32 X).getD 0 0).toNat - 237, by omega⟩
  have hd19 : d < 19 := by omega
  have e := top_list (Aj 32 X) hd19 hd h31 hm
  have e2 := top_val hX hd19 e
  have e3 : (leb 32 X).getD 0 0 = UInt8.ofNat (237 + d) := by rw [e]; rfl
  have h7 : fe X = fe d := by rw [e2, fe_eq, Nat.add_mod_left]
  rw [h7, fb_fe, Nat.mod_eq_of_lt (Nat.lt_trans hd19 dE), (top_at hd19).2, e3, top_sub ⟨d, hd19⟩]
theorem finv_mulF (a b : Fp) : finv (a * b) = finv a * finv b := mulpow dE
def cA : Fp := fe 121666
def cB : Fp := fe 121665
theorem cA_ne : cA ≠ 0 := by
  intro h
  have := congrArg Fin.val h
  revert this
  decide
theorem fD_cA : fD * cA = -cB := by kernel_rfl
theorem ref_quot (Y : Fp) : cA * (Y * Y - 1) * finv (cA - cB * (Y * Y)) = (Y * Y - 1) * finv (fD * (Y * Y) + 1) := by
  have h1 : cA - cB * (Y * Y) = cA * (fD * (Y * Y) + 1) := by
    have := fD_cA
    generalize Y * Y = q at *
    generalize cA = a at *
    generalize cB = b at *
    generalize fD = d at *
    grind
  have h2 := finv_mul cA_ne
  rw [h1, finv_mulF]
  generalize finv (fD * (Y * Y) + 1) = u at *
  generalize finv cA = v at *
  generalize cA = a at *
  grind
theorem ref_D : -cB * finv cA = fD := by
  have h1 := fD_cA
  have h2 := finv_mul cA_ne
  generalize finv cA = v at *
  generalize cA = a at *
  generalize cB = b at *
  generalize fD = d at *
  grind
end Ed
end
