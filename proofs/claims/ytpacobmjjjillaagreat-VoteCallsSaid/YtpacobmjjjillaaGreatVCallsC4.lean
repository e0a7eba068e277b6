/- Contracts of functions of the loaded program, and the lemmas that they need (part 4). It proves no statement by itself; it has no conditions. -/
import Derived.WalkKit
import Derived.Orders
import Derived.Deep.LoopGhost
import Derived.IntWalk
import Derived.Laws.StructEq
import Derived.ArgAppend
import Derived.Deep.AppendSrc
import Derived.Lib.Bytealg
import Derived.Lib.BytesEntry
import Derived.Laws.IdiomStrings
import Derived.WideKeyArr2
import Derived.ProofKit
import Derived.OpenShut
import Derived.Deep.Slices
import Derived.Laws.Pointers
import Derived.Laws.Cover3
import Derived.LaidEqlPtr
import Derived.LoopN
import Derived.RangeFuncLeaves
import Derived.RangeFuncSeq
import Derived.OrdersIn
import Derived.Test.YtpacobmjjjillaaGreatRows
import Derived.KernelRfl
import Derived.Laws.Externs
import Derived.Defers
import Derived.Laws.MathBits
import Derived.ChangeOld
import Derived.Below
import Derived.Test.YtpacobmjjjillaaGreatVCallsC3
set_option maxRecDepth 100000
set_option maxHeartbeats 8000000
section
namespace Go.Proofs.YtpacobmjjjillaaGreat
open Go Hw
set_option linter.unusedVariables false
set_option linter.unusedSimpArgs false

open Ed

/-- a point, and four numbers, in memory -/
def ptc (P : Pt Fp) : Point := ⟨fb P.x, fb P.y⟩
def wdc (w : Wd Fp) : wide := ⟨fb w.x, fb w.y, fb w.z, fb w.t⟩
theorem ptc_ok (P : Pt Fp) : (ptc P).ok := ⟨fb32 _, fb32 _⟩
theorem wdc_ok (w : Wd Fp) : (wdc w).ok := ⟨fb32 _, fb32 _, fb32 _, fb32 _⟩
theorem sees_subC {w : World} {b o off : Nat} {cs l : List Value} (hs : Sees w b o cs) (h : ∀ (j : Nat) (v : Value), l[j]? = some v → cs[off + j]? = some v) : Sees w b (o + off) l := fun j v hj => by
  have := hs _ v (h j v hj)
  rwa [← Nat.add_assoc] at this
theorem ptc_inj {P Q : Pt Fp} : ptc P = ptc Q ↔ P = Q := ⟨fun h => by
  obtain ⟨x, y⟩ := P
  obtain ⟨z, w⟩ := Q
  simp only [ptc, Point.mk.injEq, fb_inj] at h
  rw [h.1, h.2], fun h => by rw [h]⟩

theorem curve_D  : Meets Tryz.prog 173 [] [] (fun _ => True) (fun v out => v = agg (bytesV (fb fD)) ∧ out = []) := by
 intro W hW
 refine calls_of (hp0 := []) Tryz.func173 J 2 Tryz.ntmps173 J (HRep.nil _) (Sat.seq (Sat.region (Tr.alloc (cs := (bytesV (List.replicate 32 0))) J Zr77 J ?_)))
 intro n0 hn0 hf0
 refine Tr.nil (at_n (Sat.seq (Sat.region (Tr.build (cs := bytesV (fb fD)) J J J (fun w => by kernel_rfl) ?_))))
 refine Tr.storeAll J J J J zE Sz77 zF Z0 sP zU ?_
 refine Tr.nil (at_n (Sat.ret (en_r ?_)))
 refine ⟨_, [], res_cell J J Y77 J Sz77 Z0 (by simp [fb_length]), sP, sP, ?_, rfl⟩
 rfl

theorem curve_Zero  : Meets Tryz.prog 178 [] [] (fun _ => True) (fun v out => v = agg (ptc (zero : Pt Fp)).cells ∧ out = []) := by
 intro W hW
 refine calls_of (hp0 := []) Tryz.func178 J 3 Tryz.ntmps178 J (HRep.nil _) (Sat.seq (Sat.region (Tr.alloc (cs := Point.zero.cells) J Point.zr J ?_)))
 intro n0 hn0 hf0
 refine Tr.nil (at_n (Sat.seq (Sat.region (Tr.callV J J J J Body171 (f_one) (fun _ _ => trivial) (Tr.build (cs := (⟨fb 0, fb 1⟩ : Point).cells) J J J (fun w => by kernel_rfl) ?_)))))
 refine Tr.storeAll J J J J (Point.isCell (by exact ⟨fb32 _, fb32 _⟩)) Sz79 (Point.length (by exact ⟨fb32 _, fb32 _⟩)) Z0 (Point.length zZ) zU ?_
 refine Tr.nil (at_n (Sat.ret (en_r ?_)))
 refine ⟨_, [], res_cell J J Y79 J Sz79 Z0 (by exact Point.length (by exact ⟨fb32 _, fb32 _⟩)), sP, sP, ?_, rfl⟩
 rfl

theorem base_len {k : Nat} (h : k ≤ 32) : (bytesV (bX ++ (List.replicate k 102 ++ List.replicate (32 - k) 0))).length = 64 := by
  rw [bytesV, List.length_map, List.length_append, List.length_append, List.length_replicate, List.length_replicate, show bX.length = 32 from rfl]; omega
theorem base_step {k : Nat} (h : k < 32) : (bX ++ (List.replicate k (102 : UInt8) ++ List.replicate (32 - k) 0)).set (32 + k) 102 = bX ++ (List.replicate (k + 1) 102 ++ List.replicate (32 - (k + 1)) 0) := by
  rw [List.set_append_right _ _ (by rw [show bX.length = 32 from rfl]; omega), show bX.length = 32 from rfl, show 32 + k - 32 = k by omega, show 32 - k = (32 - (k + 1)) + 1 by omega, List.replicate_succ, List.set_append_right _ _ sP]
  simp [List.replicate_succ']
theorem base_end : bytesV ((bX ++ (List.replicate 32 (102 : UInt8) ++ List.replicate (32 - 32) 0)).set 32 88) = (ptc bP).cells := by
  show _ = bytesV (fb bP.x) ++ bytesV (fb bP.y)
  rw [bP_x, bP_y]
  kernel_rfl

theorem curve_Base  : Meets Tryz.prog 110 [] [] (fun _ => True) (fun v out => v = agg (ptc bP).cells ∧ out = []) := by
 intro W hW
 refine calls_of (hp0 := []) Tryz.func110 J 15 Tryz.ntmps110 J (HRep.nil _) (Sat.seq (Sat.region (Tr.alloc (cs := Point.zero.cells) J Point.zr J ?_)))
 intro n0 hn0 hf0
 refine Tr.nil (at_n (Sat.seq (Sat.region (Tr.build (cs := bytesV bX) J J J (fun w => by kernel_rfl) ?_))))
 refine Tr.build (cs := (⟨bX, List.replicate 32 0⟩ : Point).cells) J J J (fun w => by kernel_rfl) ?_
 refine Tr.alloc (cs := Point.zero.cells) J Point.zr J ?_
 intro n1 hn1 hf1
 refine Tr.storeAll J J J J (Point.isCell (by exact ⟨rfl, rfl⟩)) Sz79 (Point.length (by exact ⟨rfl, rfl⟩)) Z0 (Point.length (by exact ⟨rfl, rfl⟩)) zU ?_
 refine Tr.nil (at_n (Sat.seq (Sat.seq (Sat.region (Tr.move J J J (Tr.nil (at_n (Sat.block (Sat.loop (ι := Nat) (fun k => ⟨[(0, ptr n0 0), (1, ptr n1 0), (5, i64 (k : Int))], [⟨n1, bytesV (bX ++ (List.replicate k 102 ++ List.replicate (32 - k) 0)), 79, 64⟩, ⟨n0, Point.zero.cells, 79, 64⟩]⟩) (fun k => k ≤ 32) (fun k => 32 - k) (0) ?_ ?_ ?_)))))))))
 · omega
 · exact weak_of (wk1 rfl (wk1 rfl (wk1 rfl wk0))) (wh1 (by rw [show bytesV (bX ++ (List.replicate 0 102 ++ List.replicate (32 - 0) 0)) = (⟨bX, List.replicate 32 0⟩ : Point).cells from by kernel_rfl]; exact mem0) (wh1 Z1 wh0)) nD
 ·
  rintro k hi
  refine Sat.seq (Sat.region (Tr.lss J J J J J (Tr.nil (at_n (Sat.seq (Sat.condP J (fun hc0 => ?_) (fun hc0 => ?_)))))))
  ·
   have hk2 : k < 32 := by omega
   refine Sat.skip (at_n (Sat.seq (Sat.block (Sat.seq (Sat.region (Tr.move J J J (Tr.assign J J J (Tr.nil (at_n (Sat.region (Tr.move J J J (Tr.fld J J J Y79 J Sz77 dE _ J (Tr.idxArrO J J J J Y77 Sz5 k J oM (Tr.store1 J J J J J Sz5 Z0 (by rw [base_len oM]; exact (show 32 + k < 64 by omega)) (by exact set_bytes _ (32 + k) 102) zU ?_))))))))))))))
   refine Tr.nil (bl_n (at_n (Sat.region (Tr.add_i64 J J J J oM (Tr.move J J J (Tr.nil (at_n ?_)))))))
   exact ⟨k + 1, by omega, by omega, weak_of (wk1 rfl (wk1 rfl (wk1 rfl wk0))) (wh1 (by rw [← base_step hk2]; exact mem0) (wh1 Z1 wh0)) nD⟩
  ·
   obtain rfl : k = 32 := by omega
   refine Sat.exit (at_x (at_x (bl_h (at_n (Sat.seq (Sat.region (Tr.fld J J J Y79 J Sz77 dE _ J (Tr.idxArrO J J J J Y77 Sz5 0 J dE (Tr.store1 J J J J J Sz5 Z0 (by rw [base_len oM]; exact (show 32 + 0 < 64 by decide)) (by exact set_bytes _ (32 + 0) 88) zU ?_)))))))))
   rw [base_end]
   refine Tr.nil (at_n (Sat.seq (Sat.region (Tr.loadAll J J J Y79 J Sz79 Z0 (Point.length zP) ?_))))
   refine Tr.storeAll J J J J (Point.isCell zP) Sz79 (Point.length zP) Z1 (Point.length (by exact ⟨rfl, rfl⟩)) zV ?_
   refine Tr.nil (at_n (Sat.ret (en_r ?_)))
   refine ⟨_, [], res_cell J J Y79 J Sz79 Z1 (by exact Point.length zP), sP, sP, ?_, rfl⟩
   rfl

theorem curve_Check (p : Point) (hp : p.ok) : Meets Tryz.prog 177 [agg p.cells] [] (fun _ => True) (fun v out => v = i64 (pchk p.fX p.fY) ∧ out = []) := by
 intro W hW
 refine calls_of (hp0 := []) Tryz.func177 J 38 Tryz.ntmps177 J (HRep.nil _) (Sat.seq (Sat.region (Tr.boxA J J ?_)))
 intro n1 hn1 hf1
 refine Tr.assign J J J (Tr.nil (at_n (Sat.seq (Sat.seq (Sat.region (Tr.fld J J J Y79 J Sz77 dE _ J (Tr.loadN (bytesV _) J J J Y77 J Sz77 Z0 (Point.row_fX (by exact hp)) (Point.rl_fX (by exact hp)) ?_)))))))
 refine Tr.callB J J J J Body168 (field_Canon p.fX hp.l_fX) (fun _ _ => trivial) (fun hs1_20 => ?_) (fun hs1_20 => ?_)
 ·
  have hs1_2 := of_decide_eq_true hs1_20
  refine Tr.not J J J (Tr.move J J J (Tr.fld J J J Y79 J Sz77 dE _ J (Tr.loadN (bytesV _) J J J Y77 J Sz77 Z0 (Point.row_fY (by exact hp)) (Point.rl_fY (by exact hp)) ?_)))
  refine Tr.callB J J J J Body168 (field_Canon p.fY hp.l_fY) (fun _ _ => trivial) (fun hs1_70 => ?_) (fun hs1_70 => ?_)
  ·
   have hs1_7 := of_decide_eq_true hs1_70
   refine Tr.not J J J (Tr.pick J J J J J J (Tr.nil (at_n (Sat.cond_f J J (Sat.skip (at_n (Sat.seq (Sat.draw [(0, 0), (1, 1), (0, 2), (1, 3), (0, 5), (1, 6), (0, 7), (1, 8), (3, 4), (3, 9), (2, 10), (2, 11), (4, 12), (4, 13)] Mixed zK (Tr.fld J J J Y79 J Sz77 dE _ J (Tr.loadN (bytesV _) J J J Y77 J Sz77 Z0 (Point.row_fX (by exact hp)) (Point.rl_fX (by exact hp)) ?_))))))))))
   refine Tr.fld J J J Y79 J Sz77 dE _ J (Tr.loadN (bytesV _) J J J Y77 J Sz77 Z0 (Point.row_fX (by exact hp)) (Point.rl_fX (by exact hp)) ?_)
   refine Tr.fld J J J Y79 J Sz77 dE _ J (Tr.loadN (bytesV _) J J J Y77 J Sz77 Z0 (Point.row_fY (by exact hp)) (Point.rl_fY (by exact hp)) ?_)
   refine Tr.fld J J J Y79 J Sz77 dE _ J (Tr.loadN (bytesV _) J J J Y77 J Sz77 Z0 (Point.row_fY (by exact hp)) (Point.rl_fY (by exact hp)) ?_)
   refine Tr.callV J J J J Body169 (field_Mul p.fX p.fX hp.l_fX hp.l_fX) (fun _ _ => trivial) (Tr.callV J J J J Body169 (field_Mul p.fY p.fY hp.l_fY hp.l_fY) (fun _ _ => trivial) (Tr.alloc (cs := (bytesV (List.replicate 32 0))) J Zr77 J ?_))
   intro n3 hn3 hf3
   refine Tr.alloc (cs := (bytesV (List.replicate 32 0))) J Zr77 J ?_
   intro n4 hn4 hf4
   refine Tr.storeAll J J J J zE Sz77 zF Z1 sP zV ?_
   refine Tr.storeAll J J J J zE Sz77 zF Z0 sP zU ?_
   refine Tr.nil (at_n (Sat.seq (Sat.draw [(1, 2), (1, 3), (3, 0), (3, 1), (3, 4), (3, 5), (3, 6), (2, 7), (4, 8)] Mixed zK (Tr.loadAll J J J Y77 J Sz77 Z1 zF ?_))))
   refine Tr.loadAll J J J Y77 J Sz77 Z0 zF ?_
   refine Tr.callV J J J J Body171 (f_one) (fun _ _ => trivial) (Tr.callV J J J J Body173 (curve_D) (fun _ _ => trivial) (Tr.callV J J J J Body169 (f_mul _ _) (fun _ _ => trivial) (Tr.callV J J J J Body169 (f_mul _ _) (fun _ _ => trivial) (Tr.callV J J J J Body172 (f_add _ _) (fun _ _ => trivial) (Tr.alloc (cs := (bytesV (List.replicate 32 0))) J Zr77 J ?_)))))
   intro n5 hn5 hf5
   refine Tr.storeAll J J J J zE Sz77 zF Z0 sP zU ?_
   refine Tr.nil (at_n (Sat.seq (Sat.seq (Sat.draw [(1, 0), (1, 1), (1, 3), (3, 2), (0, 4)] Mixed zK (Tr.loadAll J J J Y77 J Sz77 Z1 zF ?_)))))
   refine Tr.loadAll J J J Y77 J Sz77 Z2 zF ?_
   refine Tr.loadAll J J J Y77 J Sz77 Z0 zF ?_
   refine Tr.callV J J J J Body170 (f_sub _ _) (fun _ _ => trivial) (Tr.neq_bytes J J J J Tryz.eqGuardType77 Y77 Y5 Sz5 zF zF J (Tr.nil (at_n (Sat.condNP J (fun hc1 => ?_) (fun hc1 => ?_)))))
   ·
    refine Sat.seq (Sat.region (Tr.assign J J J (Tr.nil (at_n (Sat.ret (at_r (en_r ?_)))))))
    refine ⟨_, [], res_tmp J J, sP, sP, ?_, rfl⟩
    unfold pchk
    exact congrArg i64 (if_neg (fun h => by exact hc1 (fb_inj.2 h.2.2))).symm
   ·
    refine Sat.skip (at_n (Sat.seq (Sat.region (Tr.assign J J J (Tr.nil (at_n (Sat.ret (en_r ?_))))))))
    refine ⟨_, [], res_tmp J J, sP, sP, ?_, rfl⟩
    unfold pchk
    exact congrArg i64 (if_pos ⟨hs1_2, hs1_7, fb_inj.1 hc1⟩).symm
  ·
   have hs1_7 := of_decide_eq_false hs1_70
   refine Tr.not J J J (Tr.pick J J J J J J (Tr.nil (at_n (Sat.cond_t J J (Sat.seq (Sat.region (Tr.assign J J J (Tr.nil (at_n (Sat.ret (at_r (en_r ?_))))))))))))
   refine ⟨_, [], res_tmp J J, sP, sP, ?_, rfl⟩
   unfold pchk
   exact congrArg i64 (if_neg (fun h => by exact hs1_7 h.2.1)).symm
 ·
  have hs1_2 := of_decide_eq_false hs1_20
  refine Tr.not J J J (Tr.move J J J (Tr.skp J J (Tr.skp J J (Tr.skp J J (Tr.skp J J (Tr.pick J J J J J J (Tr.nil (at_n (Sat.cond_t J J (Sat.seq (Sat.region (Tr.assign J J J (Tr.nil (at_n (Sat.ret (at_r (en_r ?_)))))))))))))))))
  refine ⟨_, [], res_tmp J J, sP, sP, ?_, rfl⟩
  unfold pchk
  exact congrArg i64 (if_neg (fun h => by exact hs1_2 h.1)).symm

theorem curve_Check_on (P : Pt Fp) (h : cv.on P) : Meets Tryz.prog 177 [agg (ptc P).cells] [] (fun _ => True) (fun v out => v = i64 0 ∧ out = []) := by
  have h1 := curve_Check (ptc P) (ptc_ok P)
  rwa [show pchk (ptc P).fX (ptc P).fY = 0 from pchk_on h] at h1

theorem curve_widen (P : Pt Fp) : Meets Tryz.prog 179 [agg (ptc P).cells] [] (fun _ => True) (fun v out => v = agg (wdc (Wd.of P)).cells ∧ out = []) := by
 intro W hW
 refine calls_of (hp0 := []) Tryz.func179 J 14 Tryz.ntmps179 J (HRep.nil _) (Sat.seq (Sat.region (Tr.boxA J J ?_)))
 intro n1 hn1 hf1
 refine Tr.alloc (cs := wide.zero.cells) J wide.zr J ?_
 intro n2 hn2 hf2
 refine Tr.nil (at_n (Sat.seq (Sat.draw [(0, 0), (1, 1), (0, 2), (1, 3), (0, 5), (1, 6), (0, 7), (1, 8), (3, 4), (3, 9), (0, 10), (4, 11)] Mixed zK (Tr.fld J J J Y79 J Sz77 dE _ J (Tr.loadN (bytesV _) J J J Y77 J Sz77 Z1 (Point.row_fX zP) (Point.rl_fX zP) ?_)))))
 refine Tr.fld J J J Y79 J Sz77 dE _ J (Tr.loadN (bytesV _) J J J Y77 J Sz77 Z1 (Point.row_fY zP) (Point.rl_fY zP) ?_)
 refine Tr.fld J J J Y79 J Sz77 dE _ J (Tr.loadN (bytesV _) J J J Y77 J Sz77 Z1 (Point.row_fX zP) (Point.rl_fX zP) ?_)
 refine Tr.fld J J J Y79 J Sz77 dE _ J (Tr.loadN (bytesV _) J J J Y77 J Sz77 Z1 (Point.row_fY zP) (Point.rl_fY zP) ?_)
 refine Tr.callV J J J J Body171 (f_one) (fun _ _ => trivial) (Tr.callV J J J J Body169 (f_mul P.x P.y) (fun _ _ => trivial) (Tr.build (cs := (wdc (Wd.of P)).cells) J J J (fun w => by kernel_rfl) ?_))
 refine Tr.storeAll J J J J (wide.isCell (by exact wdc_ok _)) Sz168 (wide.length (by exact wdc_ok _)) Z0 (wide.length (by exact wide.zero_ok)) zU ?_
 refine Tr.nil (at_n (Sat.ret (en_r ?_)))
 refine ⟨_, [], res_cell J J Tryz.underlying168 J Sz168 Z0 (by exact wide.length (by exact wdc_ok _)), sP, sP, ?_, rfl⟩
 rfl

theorem wide_point (n : Nat) (w : Wd Fp) : Meets Tryz.prog 183 [ptr n 0] [] (fun W => Sees W n 0 (wdc w).cells) (fun v out => v = agg (ptc (⟨w.x * finv w.z, w.y * finv w.z⟩ : Pt Fp)).cells ∧ out = []) := by
 intro W hW
 have hinv := f_inv w.z
 revert hinv
 generalize finv w.z = iz
 intro hinv
 refine calls_of (hp0 := []) Tryz.func183 J 22 Tryz.ntmps183 J (HRep.nil _) (Sat.seq (Sat.region (Tr.alloc (cs := Point.zero.cells) J Point.zr J ?_)))
 intro n2 hn2 hf2
 refine Tr.nil (at_n (Sat.seq (Sat.region (Tr.move J J J (Tr.nilChk J J J (Tr.fld J J J Tryz.underlying168 J Sz77 dE _ J (Tr.loadEN (bytesV (fb w.z)) J J J Y77 J Sz77 sP (by rw [bytesV, List.length_map, fb_length]) (sees_subC hW (wide.see_fZ (wdc_ok w))) ?_)))))))
 refine Tr.callV J J J J Body175 (hinv) (fun _ _ => trivial) (Tr.alloc (cs := (bytesV (List.replicate 32 0))) J Zr77 J ?_)
 intro n3 hn3 hf3
 refine Tr.storeAll J J J J zE Sz77 zF Z0 sP zU ?_
 refine Tr.nil (at_n (Sat.seq (Sat.draw [(0, 0), (0, 1), (0, 2), (1, 3), (1, 4), (0, 6), (0, 7), (0, 8), (1, 9), (1, 10), (3, 5), (3, 11), (0, 12), (4, 13)] Mixed zK (Tr.move J J J (Tr.nilChk J J J (Tr.fld J J J Tryz.underlying168 J Sz77 dE _ J (Tr.loadEN (bytesV (fb w.x)) J J J Y77 J Sz77 sP (by rw [bytesV, List.length_map, fb_length]) (sees_subC hW (wide.see_fX (wdc_ok w))) ?_)))))))
 refine Tr.loadAll J J J Y77 J Sz77 Z0 zF ?_
 refine Tr.move J J J (Tr.nilChk J J J (Tr.fld J J J Tryz.underlying168 J Sz77 dE _ J (Tr.loadEN (bytesV (fb w.y)) J J J Y77 J Sz77 sP (by rw [bytesV, List.length_map, fb_length]) (sees_subC hW (wide.see_fY (wdc_ok w))) ?_)))
 refine Tr.loadAll J J J Y77 J Sz77 Z0 zF ?_
 refine Tr.callV J J J J Body169 (f_mul _ _) (fun _ _ => trivial) (Tr.callV J J J J Body169 (f_mul _ _) (fun _ _ => trivial) (Tr.build (cs := (ptc (⟨w.x * iz, w.y * iz⟩ : Pt Fp)).cells) J J J (fun w => by kernel_rfl) ?_))
 refine Tr.storeAll J J J J (Point.isCell zP) Sz79 (Point.length zP) Z1 (Point.length zZ) zV ?_
 refine Tr.nil (at_n (Sat.ret (en_r ?_)))
 refine ⟨_, [], res_cell J J Y79 J Sz79 Z1 (by exact Point.length zP), sP, sP, ?_, rfl⟩
 rfl

theorem wide_finish (n : Nat) (w : Wd Fp) (e f g h : Fp) : Meets Tryz.prog 228 [ptr n 0, agg (bytesV (fb e)), agg (bytesV (fb f)), agg (bytesV (fb g)), agg (bytesV (fb h))] [n] (fun W => BlkOk W ⟨n, (wdc w).cells, 168, 128⟩) (fun v out => out = [⟨n, (wdc (Wd.fin e f g h)).cells, 168, 128⟩]) := by
 intro W hW
 refine calls_of (hp0 := [⟨n, (wdc w).cells, 168, 128⟩]) Tryz.func228 J 34 Tryz.ntmps228 J (HRep.one hW) (Sat.seq (Sat.region (Tr.boxA J J ?_)))
 intro n6 hn6 hf6
 refine Tr.boxA J J ?_
 intro n7 hn7 hf7
 refine Tr.boxA J J ?_
 intro n8 hn8 hf8
 refine Tr.boxA J J ?_
 intro n9 hn9 hf9
 refine Tr.nil (at_n (Sat.seq (Sat.draw [(0, 0), (0, 1), (1, 2), (1, 3), (1, 5), (1, 6), (3, 4), (3, 7), (0, 8), (0, 9), (4, 10), (0, 11), (0, 12), (4, 13)] Mixed zK (Tr.move J J J (Tr.move J J J (Tr.loadAll J J J Y77 J Sz77 Z3 zF ?_))))))
 refine Tr.loadAll J J J Y77 J Sz77 Z2 zF ?_
 refine Tr.loadAll J J J Y77 J Sz77 Z1 zF ?_
 refine Tr.loadAll J J J Y77 J Sz77 Z0 zF ?_
 refine Tr.callV J J J J Body169 (f_mul _ _) (fun _ _ => trivial) (Tr.callV J J J J Body169 (f_mul _ _) (fun _ _ => trivial) (Tr.nilChk J J J (Tr.fld J J J Tryz.underlying168 J Sz77 dE _ J (Tr.storeN (bytesV _) J J J J J zE Sz77 (by simp [fb_length]) Z4 (by rw [wide.length (by exact wdc_ok _)]; simp [fb_length]) (wide.upd_fX (by exact wdc_ok _) _ (by simp [fb_length])) (by exact upd4) ?_))))
 refine Tr.nilChk J J J (Tr.fld J J J Tryz.underlying168 J Sz77 dE _ J (Tr.storeN (bytesV _) J J J J J zE Sz77 (by simp [fb_length]) Z4 (by rw [wide.length (by exact ⟨fb32 _, fb32 _, fb32 _, fb32 _⟩)]; simp [fb_length]) (wide.upd_fY (by exact ⟨fb32 _, fb32 _, fb32 _, fb32 _⟩) _ (by simp [fb_length])) (by exact upd4) ?_))
 refine Tr.nil (at_n (Sat.draw [(0, 0), (0, 1), (1, 2), (1, 3), (1, 5), (1, 6), (3, 4), (3, 7), (0, 8), (0, 9), (4, 10), (0, 11), (0, 12), (4, 13)] Mixed zK (Tr.move J J J (Tr.move J J J (Tr.loadAll J J J Y77 J Sz77 Z2 zF ?_)))))
 refine Tr.loadAll J J J Y77 J Sz77 Z1 zF ?_
 refine Tr.loadAll J J J Y77 J Sz77 Z3 zF ?_
 refine Tr.loadAll J J J Y77 J Sz77 Z0 zF ?_
 refine Tr.callV J J J J Body169 (f_mul _ _) (fun _ _ => trivial) (Tr.callV J J J J Body169 (f_mul _ _) (fun _ _ => trivial) (Tr.nilChk J J J (Tr.fld J J J Tryz.underlying168 J Sz77 dE _ J (Tr.storeN (bytesV _) J J J J J zE Sz77 (by simp [fb_length]) Z4 (by rw [wide.length (by exact ⟨fb32 _, fb32 _, fb32 _, fb32 _⟩)]; simp [fb_length]) (wide.upd_fZ (by exact ⟨fb32 _, fb32 _, fb32 _, fb32 _⟩) _ (by simp [fb_length])) (by exact upd4) ?_))))
 refine Tr.nilChk J J J (Tr.fld J J J Tryz.underlying168 J Sz77 dE _ J (Tr.storeN (bytesV _) J J J J J zE Sz77 (by simp [fb_length]) Z4 (by rw [wide.length (by exact ⟨fb32 _, fb32 _, fb32 _, fb32 _⟩)]; simp [fb_length]) (wide.upd_fT (by exact ⟨fb32 _, fb32 _, fb32 _, fb32 _⟩) _ (by simp [fb_length])) (by exact upd4) ?_))
 refine Tr.nil (en_n ?_)
 exact ⟨_, [⟨n, (wdc (Wd.fin e f g h)).cells, 168, 128⟩], res_none rfl, (fun b hb => by rw [List.mem_singleton.1 hb]; exact Z4), nodup1, rfl⟩

theorem wide_add (n q : Nat) (w p : Wd Fp) (tw : Fp) : Meets Tryz.prog 180 [ptr n 0, ptr q 0, agg (bytesV (fb tw))] [n] (fun W => BlkOk W ⟨n, (wdc w).cells, 168, 128⟩ ∧ Sees W q 0 (wdc p).cells ∧ q ≠ n) (fun v out => out = [⟨n, (wdc (Wd.fin ((w.y + w.x) * (p.y + p.x) - (w.y - w.x) * (p.y - p.x)) (w.z * p.z + w.z * p.z - w.t * tw * p.t) (w.z * p.z + w.z * p.z + w.t * tw * p.t) ((w.y + w.x) * (p.y + p.x) + (w.y - w.x) * (p.y - p.x)))).cells, 168, 128⟩]) := by
 intro W hW
 refine calls_of (hp0 := [⟨n, (wdc w).cells, 168, 128⟩]) Tryz.func180 J 85 Tryz.ntmps180 J (HRep.one hW.1) (Sat.seq (Sat.region (Tr.boxA J J ?_)))
 intro n5 hn5 hf5
 refine Tr.nil (at_n (Sat.seq (Sat.draw [(0, 0), (0, 1), (0, 2), (1, 3), (0, 4), (0, 5), (0, 6), (1, 7), (0, 9), (0, 10), (0, 11), (1, 12), (0, 13), (0, 14), (0, 15), (1, 16), (3, 8), (3, 17), (3, 18), (2, 19), (4, 20)] Mixed zK (Tr.move J J J (Tr.nilChk J J J (Tr.fld J J J Tryz.underlying168 J Sz77 dE _ J (Tr.loadN (bytesV _) J J J Y77 J Sz77 Z1 (wide.row_fY (by exact wdc_ok _)) (wide.rl_fY (by exact wdc_ok _)) ?_)))))))
 refine Tr.move J J J (Tr.nilChk J J J (Tr.fld J J J Tryz.underlying168 J Sz77 dE _ J (Tr.loadN (bytesV _) J J J Y77 J Sz77 Z1 (wide.row_fX (by exact wdc_ok _)) (wide.rl_fX (by exact wdc_ok _)) ?_)))
 refine Tr.move J J J (Tr.nilChk J J J (Tr.fld J J J Tryz.underlying168 J Sz77 dE _ J (Tr.loadEN (bytesV (fb p.y)) J J J Y77 J Sz77 (by simp; exact hW.2.2) (by rw [bytesV, List.length_map, fb_length]) (sees_subC hW.2.1 (wide.see_fY (wdc_ok p))) ?_)))
 refine Tr.move J J J (Tr.nilChk J J J (Tr.fld J J J Tryz.underlying168 J Sz77 dE _ J (Tr.loadEN (bytesV (fb p.x)) J J J Y77 J Sz77 (by simp; exact hW.2.2) (by rw [bytesV, List.length_map, fb_length]) (sees_subC hW.2.1 (wide.see_fX (wdc_ok p))) ?_)))
 refine Tr.callV J J J J Body170 (f_sub _ _) (fun _ _ => trivial) (Tr.callV J J J J Body170 (f_sub _ _) (fun _ _ => trivial) (Tr.callV J J J J Body169 (f_mul _ _) (fun _ _ => trivial) (Tr.alloc (cs := (bytesV (List.replicate 32 0))) J Zr77 J ?_)))
 intro n6 hn6 hf6
 refine Tr.storeAll J J J J zE Sz77 zF Z0 sP zU ?_
 refine Tr.nil (at_n (Sat.seq (Sat.draw [(0, 0), (0, 1), (0, 2), (1, 3), (0, 4), (0, 5), (0, 6), (1, 7), (0, 9), (0, 10), (0, 11), (1, 12), (0, 13), (0, 14), (0, 15), (1, 16), (3, 8), (3, 17), (3, 18), (2, 19), (4, 20)] Mixed zK (Tr.move J J J (Tr.nilChk J J J (Tr.fld J J J Tryz.underlying168 J Sz77 dE _ J (Tr.loadN (bytesV _) J J J Y77 J Sz77 Z2 (wide.row_fY (by exact wdc_ok _)) (wide.rl_fY (by exact wdc_ok _)) ?_)))))))
 refine Tr.move J J J (Tr.nilChk J J J (Tr.fld J J J Tryz.underlying168 J Sz77 dE _ J (Tr.loadN (bytesV _) J J J Y77 J Sz77 Z2 (wide.row_fX (by exact wdc_ok _)) (wide.rl_fX (by exact wdc_ok _)) ?_)))
 refine Tr.move J J J (Tr.nilChk J J J (Tr.fld J J J Tryz.underlying168 J Sz77 dE _ J (Tr.loadEN (bytesV (fb p.y)) J J J Y77 J Sz77 (by simp; exact hW.2.2) (by rw [bytesV, List.length_map, fb_length]) (sees_subC hW.2.1 (wide.see_fY (wdc_ok p))) ?_)))
 refine Tr.move J J J (Tr.nilChk J J J (Tr.fld J J J Tryz.underlying168 J Sz77 dE _ J (Tr.loadEN (bytesV (fb p.x)) J J J Y77 J Sz77 (by simp; exact hW.2.2) (by rw [bytesV, List.length_map, fb_length]) (sees_subC hW.2.1 (wide.see_fX (wdc_ok p))) ?_)))
 refine Tr.callV J J J J Body172 (f_add _ _) (fun _ _ => trivial) (Tr.callV J J J J Body172 (f_add _ _) (fun _ _ => trivial) (Tr.callV J J J J Body169 (f_mul _ _) (fun _ _ => trivial) (Tr.alloc (cs := (bytesV (List.replicate 32 0))) J Zr77 J ?_)))
 intro n7 hn7 hf7
 refine Tr.storeAll J J J J zE Sz77 zF Z0 sP zU ?_
 refine Tr.nil (at_n (Sat.seq (Sat.draw [(0, 0), (0, 1), (0, 2), (1, 3), (1, 4), (0, 6), (0, 7), (0, 8), (1, 9), (3, 5), (3, 10), (2, 11), (4, 12)] Mixed zK (Tr.move J J J (Tr.nilChk J J J (Tr.fld J J J Tryz.underlying168 J Sz77 dE _ J (Tr.loadN (bytesV _) J J J Y77 J Sz77 Z3 (wide.row_fT (by exact wdc_ok _)) (wide.rl_fT (by exact wdc_ok _)) ?_)))))))
 refine Tr.loadAll J J J Y77 J Sz77 Z2 zF ?_
 refine Tr.move J J J (Tr.nilChk J J J (Tr.fld J J J Tryz.underlying168 J Sz77 dE _ J (Tr.loadEN (bytesV (fb p.t)) J J J Y77 J Sz77 (by simp; exact hW.2.2) (by rw [bytesV, List.length_map, fb_length]) (sees_subC hW.2.1 (wide.see_fT (wdc_ok p))) ?_)))
 refine Tr.callV J J J J Body169 (f_mul _ _) (fun _ _ => trivial) (Tr.callV J J J J Body169 (f_mul _ _) (fun _ _ => trivial) (Tr.alloc (cs := (bytesV (List.replicate 32 0))) J Zr77 J ?_))
 intro n8 hn8 hf8
 refine Tr.storeAll J J J J zE Sz77 zF Z0 sP zU ?_
 refine Tr.nil (at_n (Sat.seq (Sat.draw [(0, 0), (0, 1), (0, 2), (1, 3), (0, 4), (0, 5), (0, 6), (1, 7), (3, 8), (2, 9), (4, 10)] Mixed zK (Tr.move J J J (Tr.nilChk J J J (Tr.fld J J J Tryz.underlying168 J Sz77 dE _ J (Tr.loadN (bytesV _) J J J Y77 J Sz77 Z4 (wide.row_fZ (by exact wdc_ok _)) (wide.rl_fZ (by exact wdc_ok _)) ?_)))))))
 refine Tr.move J J J (Tr.nilChk J J J (Tr.fld J J J Tryz.underlying168 J Sz77 dE _ J (Tr.loadEN (bytesV (fb p.z)) J J J Y77 J Sz77 (by simp; exact hW.2.2) (by rw [bytesV, List.length_map, fb_length]) (sees_subC hW.2.1 (wide.see_fZ (wdc_ok p))) ?_)))
 refine Tr.callV J J J J Body169 (f_mul _ _) (fun _ _ => trivial) (Tr.alloc (cs := (bytesV (List.replicate 32 0))) J Zr77 J ?_)
 intro n9 hn9 hf9
 refine Tr.storeAll J J J J zE Sz77 zF Z0 sP zU ?_
 refine Tr.nil (at_n (Sat.seq (Sat.region (Tr.loadAll J J J Y77 J Sz77 Z0 zF ?_))))
 refine Tr.loadAll J J J Y77 J Sz77 Z0 zF ?_
 refine Tr.callV J J J J Body172 (f_add _ _) (fun _ _ => trivial) (Tr.storeAll J J J J zE Sz77 zF Z0 zF zU ?_)
 refine Tr.nil (at_n (Sat.draw [(0, 0), (1, 1), (1, 2), (1, 4), (1, 5), (1, 7), (1, 8), (1, 10), (1, 11), (3, 3), (3, 6), (3, 9), (3, 12), (4, 13)] Mixed zK (Tr.move J J J (Tr.loadAll J J J Y77 J Sz77 Z2 zF ?_))))
 refine Tr.loadAll J J J Y77 J Sz77 Z3 zF ?_
 refine Tr.loadAll J J J Y77 J Sz77 Z0 zF ?_
 refine Tr.loadAll J J J Y77 J Sz77 Z1 zF ?_
 refine Tr.loadAll J J J Y77 J Sz77 Z0 zF ?_
 refine Tr.loadAll J J J Y77 J Sz77 Z1 zF ?_
 refine Tr.loadAll J J J Y77 J Sz77 Z2 zF ?_
 refine Tr.loadAll J J J Y77 J Sz77 Z3 zF ?_
 refine Tr.callV J J J J Body170 (f_sub _ _) (fun _ _ => trivial) (Tr.callV J J J J Body170 (f_sub _ _) (fun _ _ => trivial) (Tr.callV J J J J Body172 (f_add _ _) (fun _ _ => trivial) (Tr.callV J J J J Body172 (f_add _ _) (fun _ _ => trivial) (Tr.callL (L := [⟨n, (wdc w).cells, 168, 128⟩]) J J J J J Body228 (wide_finish n w ((w.y + w.x) * (p.y + p.x) - (w.y - w.x) * (p.y - p.x)) (w.z * p.z + w.z * p.z - w.t * tw * p.t) (w.z * p.z + w.z * p.z + w.t * tw * p.t) ((w.y + w.x) * (p.y + p.x) + (w.y - w.x) * (p.y - p.x))) (pm_cons rM pm_nil) (lent_ok J) (fun w h => own_blk h (by exact mem5)) ?_))))
 rintro v84 out84 rfl
 refine Tr.nil (en_n ?_)
 exact ⟨_, [⟨n, (wdc (Wd.fin ((w.y + w.x) * (p.y + p.x) - (w.y - w.x) * (p.y - p.x)) (w.z * p.z + w.z * p.z - w.t * tw * p.t) (w.z * p.z + w.z * p.z + w.t * tw * p.t) ((w.y + w.x) * (p.y + p.x) + (w.y - w.x) * (p.y - p.x)))).cells, 168, 128⟩], res_none rfl, (fun b hb => by rw [List.mem_singleton.1 hb]; exact Z0), nodup1, rfl⟩

theorem wide_double (n : Nat) (w : Wd Fp) : Meets Tryz.prog 181 [ptr n 0] [n] (fun W => BlkOk W ⟨n, (wdc w).cells, 168, 128⟩) (fun v out => out = [⟨n, (wdc (Wd.dbl w)).cells, 168, 128⟩]) := by
 intro W hW
 refine calls_of (hp0 := [⟨n, (wdc w).cells, 168, 128⟩]) Tryz.func181 J 66 Tryz.ntmps181 J (HRep.one hW) (Sat.seq (Sat.draw [(0, 0), (0, 1), (0, 2), (1, 3), (0, 4), (0, 5), (0, 6), (1, 7), (0, 9), (0, 10), (0, 11), (1, 12), (0, 13), (0, 14), (0, 15), (1, 16), (0, 18), (0, 19), (0, 20), (1, 21), (0, 22), (0, 23), (0, 24), (1, 25), (3, 8), (3, 17), (3, 26), (2, 27), (2, 28), (2, 29), (4, 30), (4, 31), (4, 32)] Mixed zK (Tr.move J J J (Tr.nilChk J J J (Tr.fld J J J Tryz.underlying168 J Sz77 dE _ J (Tr.loadN (bytesV _) J J J Y77 J Sz77 Z0 (wide.row_fX (by exact wdc_ok _)) (wide.rl_fX (by exact wdc_ok _)) ?_))))))
 refine Tr.move J J J (Tr.nilChk J J J (Tr.fld J J J Tryz.underlying168 J Sz77 dE _ J (Tr.loadN (bytesV _) J J J Y77 J Sz77 Z0 (wide.row_fX (by exact wdc_ok _)) (wide.rl_fX (by exact wdc_ok _)) ?_)))
 refine Tr.move J J J (Tr.nilChk J J J (Tr.fld J J J Tryz.underlying168 J Sz77 dE _ J (Tr.loadN (bytesV _) J J J Y77 J Sz77 Z0 (wide.row_fY (by exact wdc_ok _)) (wide.rl_fY (by exact wdc_ok _)) ?_)))
 refine Tr.move J J J (Tr.nilChk J J J (Tr.fld J J J Tryz.underlying168 J Sz77 dE _ J (Tr.loadN (bytesV _) J J J Y77 J Sz77 Z0 (wide.row_fY (by exact wdc_ok _)) (wide.rl_fY (by exact wdc_ok _)) ?_)))
 refine Tr.move J J J (Tr.nilChk J J J (Tr.fld J J J Tryz.underlying168 J Sz77 dE _ J (Tr.loadN (bytesV _) J J J Y77 J Sz77 Z0 (wide.row_fZ (by exact wdc_ok _)) (wide.rl_fZ (by exact wdc_ok _)) ?_)))
 refine Tr.move J J J (Tr.nilChk J J J (Tr.fld J J J Tryz.underlying168 J Sz77 dE _ J (Tr.loadN (bytesV _) J J J Y77 J Sz77 Z0 (wide.row_fZ (by exact wdc_ok _)) (wide.rl_fZ (by exact wdc_ok _)) ?_)))
 refine Tr.callV J J J J Body169 (f_mul _ _) (fun _ _ => trivial) (Tr.callV J J J J Body169 (f_mul _ _) (fun _ _ => trivial) (Tr.callV J J J J Body169 (f_mul _ _) (fun _ _ => trivial) (Tr.alloc (cs := (bytesV (List.replicate 32 0))) J Zr77 J ?_)))
 intro n2 hn2 hf2
 refine Tr.alloc (cs := (bytesV (List.replicate 32 0))) J Zr77 J ?_
 intro n3 hn3 hf3
 refine Tr.alloc (cs := (bytesV (List.replicate 32 0))) J Zr77 J ?_
 intro n4 hn4 hf4
 refine Tr.storeAll J J J J zE Sz77 zF Z2 sP (by exact upd2) ?_
 refine Tr.storeAll J J J J zE Sz77 zF Z1 sP zV ?_
 refine Tr.storeAll J J J J zE Sz77 zF Z0 sP zU ?_
 refine Tr.nil (at_n (Sat.seq (Sat.draw [(0, 0), (0, 1), (0, 2), (1, 3), (0, 4), (0, 5), (0, 6), (1, 7), (3, 8), (2, 9), (4, 10)] Mixed zK (Tr.move J J J (Tr.nilChk J J J (Tr.fld J J J Tryz.underlying168 J Sz77 dE _ J (Tr.loadN (bytesV _) J J J Y77 J Sz77 Z3 (wide.row_fX (by exact wdc_ok _)) (wide.rl_fX (by exact wdc_ok _)) ?_)))))))
 refine Tr.move J J J (Tr.nilChk J J J (Tr.fld J J J Tryz.underlying168 J Sz77 dE _ J (Tr.loadN (bytesV _) J J J Y77 J Sz77 Z3 (wide.row_fY (by exact wdc_ok _)) (wide.rl_fY (by exact wdc_ok _)) ?_)))
 refine Tr.callV J J J J Body172 (f_add _ _) (fun _ _ => trivial) (Tr.alloc (cs := (bytesV (List.replicate 32 0))) J Zr77 J ?_)
 intro n5 hn5 hf5
 refine Tr.storeAll J J J J zE Sz77 zF Z0 sP zU ?_
 refine Tr.nil (at_n (Sat.seq (Sat.region (Tr.loadAll J J J Y77 J Sz77 Z3 zF ?_))))
 refine Tr.loadAll J J J Y77 J Sz77 Z2 zF ?_
 refine Tr.callV J J J J Body172 (f_add _ _) (fun _ _ => trivial) (Tr.alloc (cs := (bytesV (List.replicate 32 0))) J Zr77 J ?_)
 intro n6 hn6 hf6
 refine Tr.storeAll J J J J zE Sz77 zF Z0 sP zU ?_
 refine Tr.nil (at_n (Sat.seq (Sat.draw [(1, 0), (1, 1), (1, 2), (3, 3), (3, 4), (2, 5), (4, 6)] Mixed zK (Tr.loadAll J J J Y77 J Sz77 Z0 zF ?_))))
 refine Tr.loadAll J J J Y77 J Sz77 Z1 zF ?_
 refine Tr.loadAll J J J Y77 J Sz77 Z1 zF ?_
 refine Tr.callV J J J J Body169 (f_mul _ _) (fun _ _ => trivial) (Tr.callV J J J J Body170 (f_sub _ _) (fun _ _ => trivial) (Tr.alloc (cs := (bytesV (List.replicate 32 0))) J Zr77 J ?_))
 intro n7 hn7 hf7
 refine Tr.storeAll J J J J zE Sz77 zF Z0 sP zU ?_
 refine Tr.nil (at_n (Sat.seq (Sat.region (Tr.loadAll J J J Y77 J Sz77 (by exact mem5) zF ?_))))
 refine Tr.loadAll J J J Y77 J Sz77 Z4 zF ?_
 refine Tr.callV J J J J Body170 (f_sub _ _) (fun _ _ => trivial) (Tr.alloc (cs := (bytesV (List.replicate 32 0))) J Zr77 J ?_)
 intro n8 hn8 hf8
 refine Tr.storeAll J J J J zE Sz77 zF Z0 sP zU ?_
 refine Tr.nil (at_n (Sat.draw [(0, 0), (1, 1), (1, 2), (1, 3), (1, 5), (1, 7), (1, 8), (3, 4), (3, 6), (4, 9)] Mixed zK (Tr.move J J J (Tr.loadAll J J J Y77 J Sz77 Z1 zF ?_))))
 refine Tr.loadAll J J J Y77 J Sz77 Z4 zF ?_
 refine Tr.loadAll J J J Y77 J Sz77 Z4 zF ?_
 refine Tr.loadAll J J J Y77 J Sz77 Z0 zF ?_
 refine Tr.loadAll J J J Y77 J Sz77 Z0 zF ?_
 refine Tr.loadAll J J J Y77 J Sz77 Z2 zF ?_
 refine Tr.callV J J J J Body172 (f_add _ _) (fun _ _ => trivial) (Tr.callV J J J J Body172 (f_add _ _) (fun _ _ => trivial) (Tr.callL (L := [⟨n, (wdc w).cells, 168, 128⟩]) J J J J J Body228 (wide_finish n w (w.x * w.x + w.y * w.y - (w.x + w.y) * (w.x + w.y)) (w.z * w.z + w.z * w.z + (w.x * w.x - w.y * w.y)) (w.x * w.x - w.y * w.y) (w.x * w.x + w.y * w.y)) (pm_cons rM pm_nil) (lent_ok J) (fun w h => own_blk h (by exact mem7)) ?_))
 rintro v65 out65 rfl
 refine Tr.nil (en_n ?_)
 exact ⟨_, [⟨n, (wdc (Wd.dbl w)).cells, 168, 128⟩], res_none rfl, (fun b hb => by rw [List.mem_singleton.1 hb]; exact Z0), nodup1, rfl⟩

end Go.Proofs.YtpacobmjjjillaaGreat
end

section
namespace Go.Proofs.YtpacobmjjjillaaGreat
open Go Hw
set_option linter.unusedVariables false
set_option linter.unusedSimpArgs false

open Ed

theorem own_ne {C : Cx} {hp R : List Blk} {w : World} {b1 b2 : Blk} (h : HRep C hp w) (p : hp.Perm ((b1 :: b2 :: []) ++ R)) : b2.n ≠ b1.n := fun e => by
  have := (p.map (·.n)).nodup_iff.1 h.nodup
  simp [e] at this
theorem wide_addD (n q : Nat) (w p : Wd Fp) : Meets Tryz.prog 180 [ptr n 0, ptr q 0, agg (bytesV (fb (fD + fD)))] [n] (fun W => BlkOk W ⟨n, (wdc w).cells, 168, 128⟩ ∧ Sees W q 0 (wdc p).cells ∧ q ≠ n) (fun v out => out = [⟨n, (wdc (Wd.add fD w p)).cells, 168, 128⟩]) := wide_add n q w p (fD + fD)
theorem wide_pointR (n : Nat) (w : Wd Fp) (R : Pt Fp) (hw : w.rep R) : Meets Tryz.prog 183 [ptr n 0] [] (fun W => Sees W n 0 (wdc w).cells) (fun v out => v = agg (ptc R).cells ∧ out = []) := by
  have h := wide_point n w
  have e : (⟨w.x * finv w.z, w.y * finv w.z⟩ : Pt Fp) = R := cv.rep_pt hw
  rwa [e] at h
theorem pair_eg : Tryz.prog.eqGuardType Tryz.prog.depth 174 = false := by kernel_rfl
theorem pair_eq (a b c d : Bool) (w : World) : (Op.equalIn 10000 174 (agg [.bool a, .bool b]) (agg [.bool c, .bool d])).run Tryz.prog w = .ok (a == c && b == d) w := by
  cases a <;> cases b <;> cases c <;> cases d <;> kernel_rfl

theorem curve_Mul2 (a b : List UInt8) (P Q : Pt Fp) (ha : a.length = 32) (hb : b.length = 32) (hP : cv.on P) (hQ : cv.on Q) : Meets Tryz.prog 109 [agg (bytesV a), agg (ptc P).cells, agg (bytesV b), agg (ptc Q).cells] [] (fun _ => True) (fun v out => v = agg (ptc (cv.lin (le a) (le b) P Q)).cells ∧ out = []) := by
 intro W hW
 refine calls_of (hp0 := []) Tryz.func109 J 65 Tryz.ntmps109 J (HRep.nil _) (Sat.seq (Sat.region (Tr.boxA J J ?_)))
 intro n4 hn4 hf4
 refine Tr.boxA J J ?_
 intro n5 hn5 hf5
 refine Tr.boxA J J ?_
 intro n6 hn6 hf6
 refine Tr.boxA J J ?_
 intro n7 hn7 hf7
 refine Tr.alloc (cs := Point.zero.cells) J Point.zr J ?_
 intro n8 hn8 hf8
 refine Tr.nil (at_n (Sat.seq (Sat.seq (Sat.region (Tr.loadAll J J J Y79 J Sz79 Z3 (Point.length zP) ?_)))))
 refine Tr.callV J J J J Body177 (curve_Check_on P hP) (fun _ _ => trivial) (Tr.nei J J J J (show (!decide _) = false from congrArg not (decide_eq_true (rfl))) (Tr.move J J J (Tr.loadAll J J J Y79 J Sz79 Z1 (Point.length zP) ?_)))
 refine Tr.callV J J J J Body177 (curve_Check_on Q hQ) (fun _ _ => trivial) (Tr.nei J J J J (show (!decide _) = false from congrArg not (decide_eq_true (rfl))) (Tr.pick J J J J J J (Tr.nil (at_n (Sat.cond_f J J (Sat.skip (at_n (Sat.seq (Sat.region (Tr.callV J J J J Body173 (curve_D) (fun _ _ => trivial) (Tr.callV J J J J Body173 (curve_D) (fun _ _ => trivial) (Tr.callV J J J J Body172 (f_add _ _) (fun _ _ => trivial) (Tr.alloc (cs := (bytesV (List.replicate 32 0))) J Zr77 J ?_)))))))))))))
 intro n9 hn9 hf9
 refine Tr.storeAll J J J J zE Sz77 zF Z0 sP zU ?_
 refine Tr.nil (at_n (Sat.seq (Sat.draw [(1, 0), (1, 2), (1, 4), (3, 1), (3, 3), (3, 5), (3, 6), (3, 7), (2, 8), (2, 9), (2, 10), (2, 11), (4, 12), (4, 13), (4, 14), (4, 15)] Mixed zK (Tr.loadAll J J J Y79 J Sz79 Z4 (Point.length zP) ?_))))
 refine Tr.loadAll J J J Y79 J Sz79 Z2 (Point.length zP) ?_
 refine Tr.loadAll J J J Y79 J Sz79 Z4 (Point.length zP) ?_
 refine Tr.callV J J J J Body179 (curve_widen P) (fun _ _ => trivial) (Tr.callV J J J J Body179 (curve_widen Q) (fun _ _ => trivial) (Tr.callV J J J J Body179 (curve_widen P) (fun _ _ => trivial) (Tr.callV J J J J Body178 (curve_Zero) (fun _ _ => trivial) (Tr.callV J J J J Body179 (curve_widen (zero : Pt Fp)) (fun _ _ => trivial) (Tr.alloc (cs := wide.zero.cells) J wide.zr J ?_)))))
 intro n10 hn10 hf10
 refine Tr.alloc (cs := wide.zero.cells) J wide.zr J ?_
 intro n11 hn11 hf11
 refine Tr.alloc (cs := wide.zero.cells) J wide.zr J ?_
 intro n12 hn12 hf12
 refine Tr.alloc (cs := wide.zero.cells) J wide.zr J ?_
 intro n13 hn13 hf13
 refine Tr.storeAll J J J J (wide.isCell (by exact wdc_ok _)) Sz168 (wide.length (by exact wdc_ok _)) Z3 (wide.length (by exact wide.zero_ok)) (by exact upd3) ?_
 refine Tr.storeAll J J J J (wide.isCell (by exact wdc_ok _)) Sz168 (wide.length (by exact wdc_ok _)) Z2 (wide.length (by exact wide.zero_ok)) (by exact upd2) ?_
 refine Tr.storeAll J J J J (wide.isCell (by exact wdc_ok _)) Sz168 (wide.length (by exact wdc_ok _)) Z1 (wide.length (by exact wide.zero_ok)) zV ?_
 refine Tr.storeAll J J J J (wide.isCell (by exact wdc_ok _)) Sz168 (wide.length (by exact wdc_ok _)) Z0 (wide.length (by exact wide.zero_ok)) zU ?_
 refine Tr.nil (at_n (Sat.seq (Sat.region (Tr.loadAll J J J Y77 J Sz77 Z4 zF ?_))))
 refine Tr.callL (L := [⟨n12, (wdc (Wd.of P)).cells, 168, 128⟩]) J J J J J Body180 (wide_addD n12 n11 (Wd.of P) (Wd.of Q)) (pm_cons rM pm_nil) (lent_ok J) (fun w h => ⟨own_blk h Z1, sees_own h Z2, own_ne (b1 := ⟨n12, (wdc (Wd.of P)).cells, 168, 128⟩) (b2 := ⟨n11, (wdc (Wd.of Q)).cells, 168, 128⟩) h (pm_cons rM (pm_cons rM pm_nil))⟩) ?_
 rintro v36 out36 rfl
 simp only [List.cons_append, List.nil_append]
 refine Tr.nil (at_n (Sat.seq (Sat.seq (Sat.region (Tr.assign J J J (Tr.nil (at_n (Sat.block (Sat.loop (ι := Nat × Wd Fp) (fun p => ⟨[(4, ptr n4 0), (6, ptr n6 0), (8, ptr n8 0), (9, ptr n9 0), (10, ptr n10 0), (11, ptr n11 0), (12, ptr n12 0), (13, ptr n13 0), (14, i64 (255 - (p.1 : Int)))], [⟨n13, (wdc p.2).cells, 168, 128⟩, ⟨n12, (wdc (Wd.add fD (Wd.of P) (Wd.of Q))).cells, 168, 128⟩, ⟨n11, (wdc (Wd.of Q)).cells, 168, 128⟩, ⟨n10, (wdc (Wd.of P)).cells, 168, 128⟩, ⟨n9, bytesV (fb (fD + fD)), 77, 32⟩, ⟨n8, Point.zero.cells, 79, 64⟩, ⟨n6, bytesV b, 77, (bytesV b).length⟩, ⟨n4, bytesV a, 77, (bytesV a).length⟩]⟩) (fun p => p.1 ≤ 256 ∧ p.2.rep (cv.lin (le a / 2 ^ (256 - p.1)) (le b / 2 ^ (256 - p.1)) P Q)) (fun p => 256 - p.1) ((0, Wd.of zero)) ?_ ?_ ?_)))))))))
 · exact ⟨Nat.zero_le _, lin_first a b ha hb P Q⟩
 · exact weak_perm (wk1 rfl (wk1 rfl (wk1 rfl (wk1 rfl (wk1 rfl (wk1 rfl (wk1 rfl (wk1 rfl (wk1 rfl wk0))))))))) (pm_cons rM (pm_cons rM (pm_cons rM (pm_cons rM (pm_cons rM (pm_cons rM (pm_cons rM (pm_cons rM pm_nil))))))))
 ·
  rintro p ⟨hj1, hw⟩
  refine Sat.seq (Sat.seq (Sat.region (Tr.move J J J (Tr.geq J J J J J (Tr.nil (at_n (Sat.condP J (fun hc1 => ?_) (fun hc1 => ?_))))))))
  ·
   have hj : p.1 < 256 := by omega
   refine Sat.skip (at_n (Sat.join (ι := Wd Fp) (fun u => ⟨[(4, ptr n4 0), (6, ptr n6 0), (8, ptr n8 0), (9, ptr n9 0), (10, ptr n10 0), (11, ptr n11 0), (12, ptr n12 0), (13, ptr n13 0), (14, i64 (((255 - p.1 : Nat) : Int)))], [⟨n13, (wdc u).cells, 168, 128⟩, ⟨n12, (wdc (Wd.add fD (Wd.of P) (Wd.of Q))).cells, 168, 128⟩, ⟨n11, (wdc (Wd.of Q)).cells, 168, 128⟩, ⟨n10, (wdc (Wd.of P)).cells, 168, 128⟩, ⟨n9, bytesV (fb (fD + fD)), 77, 32⟩, ⟨n8, Point.zero.cells, 79, 64⟩, ⟨n6, bytesV b, 77, (bytesV b).length⟩, ⟨n4, bytesV a, 77, (bytesV a).length⟩]⟩) (fun u => u.rep (cv.lin (le a / 2 ^ (256 - (p.1 + 1))) (le b / 2 ^ (256 - (p.1 + 1))) P Q)) ?_ ?_))
   ·
    refine Sat.block (Sat.seq (Sat.region (Tr.callL (L := [⟨n13, (wdc p.2).cells, 168, 128⟩]) J J J J J Body181 (wide_double n13 p.2) (pm_cons rM pm_nil) (lent_ok J) (fun w h => own_blk h Z0) ?_)))
    rintro v41 out41 rfl
    simp only [List.cons_append, List.nil_append]
    rw [show (255 : Int) - (p.1 : Int) = ((255 - p.1 : Nat) : Int) by omega]
    refine Tr.nil (at_n (Sat.seq (Sat.draw [(1, 0), (0, 1), (1, 3), (0, 4), (3, 2), (3, 5), (0, 6)] Mixed zK (Tr.loadAll J J J Y77 J Sz77 (by exact mem7) (by (simp [ha]; done)) ?_))))
    refine Tr.move J J J (Tr.loadAll J J J Y77 J Sz77 (by exact mem6) (by (simp [hb]; done)) ?_)
    refine Tr.move J J J (Tr.callB J J J J Body182 (scalar_bit_at a ha (255 - p.1) oM) (fun _ _ => trivial) (fun hs10_20 => ?_) (fun hs10_20 => ?_))
    ·
     have hs10_2 := nd_t hs10_20
     have hs10_2 := hs10_20
     refine Tr.callB J J J J Body182 (scalar_bit_at b hb (255 - p.1) oM) (fun _ _ => trivial) (fun hs10_50 => ?_) (fun hs10_50 => ?_)
     ·
      have hs10_5 := nd_t hs10_50
      have hs10_5 := hs10_50
      refine Tr.build (cs := [.bool true, .bool true]) J J J (fun w => by kernel_rfl) ?_
      refine Tr.nil (at_n (Sat.block (Sat.seq (Sat.region (Tr.build (cs := [.bool true, .bool true]) J J J (fun w => by kernel_rfl) ?_)))))
      refine Tr.eql_rec (q := (true == true && true == true)) (r := true) J J J J pair_eg (fun w => pair_eq true true true true w) J (Tr.assign J J J (Tr.nil (at_n (Sat.cond_t J J (Sat.region (Tr.loadAll J J J Y77 J Sz77 Z4 zF ?_))))))
      refine Tr.callL (L := [⟨n13, (wdc (Wd.dbl p.2)).cells, 168, 128⟩]) J J J J J Body180 (wide_addD n13 n12 (Wd.dbl p.2) (Wd.add fD (Wd.of P) (Wd.of Q))) (pm_cons rM pm_nil) (lent_ok J) (fun w h => ⟨own_blk h Z0, sees_own h Z1, own_ne (b1 := ⟨n13, (wdc (Wd.dbl p.2)).cells, 168, 128⟩) (b2 := ⟨n12, (wdc (Wd.add fD (Wd.of P) (Wd.of Q))).cells, 168, 128⟩) h (pm_cons rM (pm_cons rM pm_nil))⟩) ?_
      rintro v53 out53 rfl
      simp only [List.cons_append, List.nil_append]
      refine Tr.nil (bl_n (bl_n (at_n ?_)))
      (exact ⟨Wd.add fD (Wd.dbl p.2) (Wd.add fD (Wd.of P) (Wd.of Q)), (by rw [lin_tt hj hP hQ hs10_2 hs10_5]; exact cv.rep_add (cv.rep_dbl hw (cv.on_lin hP hQ _ _)) (cv.rep_add (cv.rep_of P) (cv.rep_of Q) hP hQ) (cv.on_add (cv.on_lin hP hQ _ _) (cv.on_lin hP hQ _ _)) (cv.on_add hP hQ)), weak_perm (wk1 rfl (wk1 rfl (wk1 rfl (wk1 rfl (wk1 rfl (wk1 rfl (wk1 rfl (wk1 rfl (wk1 rfl wk0))))))))) (pm_cons rM (pm_cons rM (pm_cons rM (pm_cons rM (pm_cons rM (pm_cons rM (pm_cons rM (pm_cons rM pm_nil))))))))⟩)
     ·
      have hs10_5 := nd_f hs10_50
      have hs10_5 := hs10_50
      refine Tr.build (cs := [.bool true, .bool false]) J J J (fun w => by kernel_rfl) ?_
      refine Tr.nil (at_n (Sat.block (Sat.seq (Sat.region (Tr.build (cs := [.bool true, .bool true]) J J J (fun w => by kernel_rfl) ?_)))))
      refine Tr.eql_rec (q := (true == true && false == true)) (r := false) J J J J pair_eg (fun w => pair_eq true false true true w) J (Tr.assign J J J (Tr.nil (at_n (Sat.cond_f J J (Sat.seq (Sat.region (Tr.build (cs := [.bool true, .bool false]) J J J (fun w => by kernel_rfl) ?_)))))))
      refine Tr.eql_rec (q := (true == true && false == false)) (r := true) J J J J pair_eg (fun w => pair_eq true false true false w) J (Tr.assign J J J (Tr.nil (at_n (Sat.cond_t J J (Sat.region (Tr.loadAll J J J Y77 J Sz77 Z4 zF ?_))))))
      refine Tr.callL (L := [⟨n13, (wdc (Wd.dbl p.2)).cells, 168, 128⟩]) J J J J J Body180 (wide_addD n13 n10 (Wd.dbl p.2) (Wd.of P)) (pm_cons rM pm_nil) (lent_ok J) (fun w h => ⟨own_blk h Z0, sees_own h Z3, own_ne (b1 := ⟨n13, (wdc (Wd.dbl p.2)).cells, 168, 128⟩) (b2 := ⟨n10, (wdc (Wd.of P)).cells, 168, 128⟩) h (pm_cons rM (pm_cons rM pm_nil))⟩) ?_
      rintro v58 out58 rfl
      simp only [List.cons_append, List.nil_append]
      refine Tr.nil (bl_n (bl_n (at_n ?_)))
      (exact ⟨Wd.add fD (Wd.dbl p.2) (Wd.of P), (by rw [lin_tf hj hP hQ hs10_2 hs10_5]; exact cv.rep_add (cv.rep_dbl hw (cv.on_lin hP hQ _ _)) (cv.rep_of P) (cv.on_add (cv.on_lin hP hQ _ _) (cv.on_lin hP hQ _ _)) hP), weak_perm (wk1 rfl (wk1 rfl (wk1 rfl (wk1 rfl (wk1 rfl (wk1 rfl (wk1 rfl (wk1 rfl (wk1 rfl wk0))))))))) (pm_cons rM (pm_cons rM (pm_cons rM (pm_cons rM (pm_cons rM (pm_cons rM (pm_cons rM (pm_cons rM pm_nil))))))))⟩)
    ·
     have hs10_2 := nd_f hs10_20
     have hs10_2 := hs10_20
     refine Tr.callB J J J J Body182 (scalar_bit_at b hb (255 - p.1) oM) (fun _ _ => trivial) (fun hs10_50 => ?_) (fun hs10_50 => ?_)
     ·
      have hs10_5 := nd_t hs10_50
      have hs10_5 := hs10_50
      refine Tr.build (cs := [.bool false, .bool true]) J J J (fun w => by kernel_rfl) ?_
      refine Tr.nil (at_n (Sat.block (Sat.seq (Sat.region (Tr.build (cs := [.bool true, .bool true]) J J J (fun w => by kernel_rfl) ?_)))))
      refine Tr.eql_rec (q := (false == true && true == true)) (r := false) J J J J pair_eg (fun w => pair_eq false true true true w) J (Tr.assign J J J (Tr.nil (at_n (Sat.cond_f J J (Sat.seq (Sat.region (Tr.build (cs := [.bool true, .bool false]) J J J (fun w => by kernel_rfl) ?_)))))))
      refine Tr.eql_rec (q := (false == true && true == false)) (r := false) J J J J pair_eg (fun w => pair_eq false true true false w) J (Tr.assign J J J (Tr.nil (at_n (Sat.cond_f J J (Sat.seq (Sat.region (Tr.build (cs := [.bool false, .bool true]) J J J (fun w => by kernel_rfl) ?_)))))))
      refine Tr.eql_rec (q := (false == false && true == true)) (r := true) J J J J pair_eg (fun w => pair_eq false true false true w) J (Tr.assign J J J (Tr.nil (at_n (Sat.cond_t J J (Sat.region (Tr.loadAll J J J Y77 J Sz77 Z4 zF ?_))))))
      refine Tr.callL (L := [⟨n13, (wdc (Wd.dbl p.2)).cells, 168, 128⟩]) J J J J J Body180 (wide_addD n13 n11 (Wd.dbl p.2) (Wd.of Q)) (pm_cons rM pm_nil) (lent_ok J) (fun w h => ⟨own_blk h Z0, sees_own h Z2, own_ne (b1 := ⟨n13, (wdc (Wd.dbl p.2)).cells, 168, 128⟩) (b2 := ⟨n11, (wdc (Wd.of Q)).cells, 168, 128⟩) h (pm_cons rM (pm_cons rM pm_nil))⟩) ?_
      rintro v63 out63 rfl
      simp only [List.cons_append, List.nil_append]
      refine Tr.nil (bl_n (bl_n (at_n ?_)))
      (exact ⟨Wd.add fD (Wd.dbl p.2) (Wd.of Q), (by rw [lin_ft hj hP hQ hs10_2 hs10_5]; exact cv.rep_add (cv.rep_dbl hw (cv.on_lin hP hQ _ _)) (cv.rep_of Q) (cv.on_add (cv.on_lin hP hQ _ _) (cv.on_lin hP hQ _ _)) hQ), weak_perm (wk1 rfl (wk1 rfl (wk1 rfl (wk1 rfl (wk1 rfl (wk1 rfl (wk1 rfl (wk1 rfl (wk1 rfl wk0))))))))) (pm_cons rM (pm_cons rM (pm_cons rM (pm_cons rM (pm_cons rM (pm_cons rM (pm_cons rM (pm_cons rM pm_nil))))))))⟩)
     ·
      have hs10_5 := nd_f hs10_50
      have hs10_5 := hs10_50
      refine Tr.build (cs := [.bool false, .bool false]) J J J (fun w => by kernel_rfl) ?_
      refine Tr.nil (at_n (Sat.block (Sat.seq (Sat.region (Tr.build (cs := [.bool true, .bool true]) J J J (fun w => by kernel_rfl) ?_)))))
      refine Tr.eql_rec (q := (false == true && false == true)) (r := false) J J J J pair_eg (fun w => pair_eq false false true true w) J (Tr.assign J J J (Tr.nil (at_n (Sat.cond_f J J (Sat.seq (Sat.region (Tr.build (cs := [.bool true, .bool false]) J J J (fun w => by kernel_rfl) ?_)))))))
      refine Tr.eql_rec (q := (false == true && false == false)) (r := false) J J J J pair_eg (fun w => pair_eq false false true false w) J (Tr.assign J J J (Tr.nil (at_n (Sat.cond_f J J (Sat.seq (Sat.region (Tr.build (cs := [.bool false, .bool true]) J J J (fun w => by kernel_rfl) ?_)))))))
      refine Tr.eql_rec (q := (false == false && false == true)) (r := false) J J J J pair_eg (fun w => pair_eq false false false true w) J (Tr.assign J J J (Tr.nil (at_n (Sat.cond_f J J (Sat.skip (bl_n (bl_n (at_n ?_))))))))
      (exact ⟨Wd.dbl p.2, (by rw [lin_ff hj hP hQ hs10_2 hs10_5]; exact (cv.rep_dbl hw (cv.on_lin hP hQ _ _))), weak_perm (wk1 rfl (wk1 rfl (wk1 rfl (wk1 rfl (wk1 rfl (wk1 rfl (wk1 rfl (wk1 rfl (wk1 rfl wk0))))))))) (pm_cons rM (pm_cons rM (pm_cons rM (pm_cons rM (pm_cons rM (pm_cons rM (pm_cons rM (pm_cons rM pm_nil))))))))⟩)
   ·
    intro u hj
    have hu := hj
    refine Sat.region (Tr.move J J J (Tr.sub_i64 J J J J oM (Tr.assign J J J (Tr.nil (at_n ?_)))))
    exact ⟨(p.1 + 1, u), ⟨by simp only []; omega, hu⟩, by simp only []; omega, weak_perm (wk1 rfl (wk1 rfl (wk1 rfl (wk1 rfl (wk1 rfl (wk1 rfl (wk1 rfl (wk1 rfl (wk1 (congrArg (fun z => some (i64 z)) (show ((255 - p.1 : Nat) : Int) - 1 = 255 - ((p.1 + 1 : Nat) : Int) by omega)) wk0))))))))) (pm_cons rM (pm_cons rM (pm_cons rM (pm_cons rM (pm_cons rM (pm_cons rM (pm_cons rM (pm_cons rM pm_nil))))))))⟩
  ·
   have hje : p.1 = 256 := by omega
   have hfin : p.2.rep (cv.lin (le a) (le b) P Q) := by rw [hje, lin_last] at hw; exact hw
   refine Sat.exit (at_x (at_x (bl_h (at_n (Sat.seq (Sat.region (Tr.callV J J J J Body183 (wide_pointR n13 p.2 _ hfin) (fun w h => sees_own h Z0) ?_)))))))
   refine Tr.storeAll J J J J (Point.isCell zP) Sz79 (Point.length zP) (by exact mem5) (Point.length zZ) (by exact upd5) ?_
   refine Tr.nil (at_n (Sat.ret (en_r ?_)))
   refine ⟨_, [], res_cell J J Y79 J Sz79 (by exact mem5) (by exact Point.length zP), sP, sP, ?_, rfl⟩
   rfl

theorem ptc_y (P : Pt Fp) : (ptc P).fY = fb P.y := rfl
theorem le_zero32 : le (List.replicate 32 0) = 0 := by kernel_rfl
theorem curve_Mul2z (a : List UInt8) (P : Pt Fp) (ha : a.length = 32) (hP : cv.on P) : Meets Tryz.prog 109 [agg (bytesV a), agg (ptc P).cells, agg (bytesV (List.replicate 32 0)), agg (ptc (zero : Pt Fp)).cells] [] (fun _ => True) (fun v out => v = agg (ptc (cv.mul (le a) P)).cells ∧ out = []) := by
  have h := curve_Mul2 a (List.replicate 32 0) P zero ha rfl hP cv.on_zero
  rwa [le_zero32, lin_one] at h

theorem curve_Mul (a : List UInt8) (P : Pt Fp) (ha : a.length = 32) (hP : cv.on P) : Meets Tryz.prog 159 [agg (bytesV a), agg (ptc P).cells] [] (fun _ => True) (fun v out => v = agg (ptc (cv.mul (le a) P)).cells ∧ out = []) := by
 intro W hW
 refine calls_of (hp0 := []) Tryz.func159 J 10 Tryz.ntmps159 J (HRep.nil _) (Sat.seq (Sat.region (Tr.boxA J J ?_)))
 intro n2 hn2 hf2
 refine Tr.boxA J J ?_
 intro n3 hn3 hf3
 refine Tr.alloc (cs := Point.zero.cells) J Point.zr J ?_
 intro n4 hn4 hf4
 refine Tr.nil (at_n (Sat.seq (Sat.draw [(1, 0), (1, 1), (0, 2), (3, 3), (3, 4), (4, 5)] Mixed zK (Tr.loadAll J J J Y77 J Sz77 Z2 (by (simp [ha]; done)) ?_))))
 refine Tr.loadAll J J J Y79 J Sz79 Z1 (Point.length zP) ?_
 refine Tr.build (cs := bytesV (List.replicate 32 0)) J J J (fun w => by kernel_rfl) ?_
 refine Tr.callV J J J J Body178 (curve_Zero) (fun _ _ => trivial) (Tr.callV J J J J Body109 (curve_Mul2z a P ha hP) (fun _ _ => trivial) (Tr.storeAll J J J J (Point.isCell zP) Sz79 (Point.length zP) Z0 (Point.length zZ) zU ?_))
 refine Tr.nil (at_n (Sat.ret (en_r ?_)))
 refine ⟨_, [], res_cell J J Y79 J Sz79 Z0 (by exact Point.length zP), sP, sP, ?_, rfl⟩
 rfl

theorem curve_Neg (P : Pt Fp) (hP : cv.on P) : Meets Tryz.prog 111 [agg (ptc P).cells] [] (fun _ => True) (fun v out => v = agg (ptc (neg P)).cells ∧ out = []) := by
 intro W hW
 refine calls_of (hp0 := []) Tryz.func111 J 13 Tryz.ntmps111 J (HRep.nil _) (Sat.seq (Sat.region (Tr.boxA J J ?_)))
 intro n1 hn1 hf1
 refine Tr.alloc (cs := Point.zero.cells) J Point.zr J ?_
 intro n2 hn2 hf2
 refine Tr.nil (at_n (Sat.seq (Sat.seq (Sat.region (Tr.loadAll J J J Y79 J Sz79 Z1 (Point.length zP) ?_)))))
 refine Tr.callV J J J J Body177 (curve_Check_on P hP) (fun _ _ => trivial) (Tr.nei J J J J (show (!decide _) = false from congrArg not (decide_eq_true (rfl))) (Tr.nil (at_n (Sat.cond_f J (rfl) (Sat.skip (at_n (Sat.seq (Sat.draw [(0, 0), (1, 1), (0, 3), (1, 4), (3, 2), (0, 5), (4, 6)] Mixed zK (Tr.fld J J J Y79 J Sz77 dE _ J (Tr.loadN (bytesV _) J J J Y77 J Sz77 Z1 (Point.row_fX zP) (Point.rl_fX zP) ?_))))))))))
 refine Tr.fld J J J Y79 J Sz77 dE _ J (Tr.loadN (bytesV _) J J J Y77 J Sz77 Z1 (Point.row_fY zP) (Point.rl_fY zP) ?_)
 refine Tr.callV J J J J Body176 (f_neg _) (fun _ _ => trivial) (Tr.build (cs := (ptc (neg P)).cells) J J J (fun w => by kernel_rfl) ?_)
 refine Tr.storeAll J J J J (Point.isCell zP) Sz79 (Point.length zP) Z0 (Point.length zZ) zU ?_
 refine Tr.nil (at_n (Sat.ret (en_r ?_)))
 refine ⟨_, [], res_cell J J Y79 J Sz79 Z0 (by exact Point.length zP), sP, sP, ?_, rfl⟩
 rfl

theorem curve_Bytes (P : Pt Fp) (hP : cv.on P) : Meets Tryz.prog 158 [agg (ptc P).cells] [] (fun _ => True) (fun v out => v = .tuple #[agg (bytesV (pb P)), i64 0] ∧ out = []) := by
 intro W hW
 refine calls_of (hp0 := []) Tryz.func158 J 22 Tryz.ntmps158 J (HRep.nil _) (Sat.seq (Sat.region (Tr.boxA J J ?_)))
 intro n1 hn1 hf1
 refine Tr.alloc (cs := (bytesV (List.replicate 32 0))) J Zr23 J ?_
 intro n2 hn2 hf2
 refine Tr.assign J J J (Tr.nil (at_n (Sat.seq (Sat.seq (Sat.region (Tr.loadAll J J J Y79 J Sz79 Z1 (Point.length zP) ?_))))))
 refine Tr.callV J J J J Body177 (curve_Check_on P hP) (fun _ _ => trivial) (Tr.assign J J J (Tr.nil (at_n (Sat.seq (Sat.region (Tr.move J J J (Tr.nei J J J J (show (!decide _) = false from congrArg not (decide_eq_true (rfl))) (Tr.nil (at_n (Sat.cond_f J (rfl) (Sat.skip (at_n (Sat.seq (Sat.region (Tr.fld J J J Y79 J Sz77 dE _ J (Tr.loadN (bytesV _) J J J Y77 J Sz77 Z1 (Point.row_fY zP) (Point.rl_fY zP) ?_))))))))))))))))
 refine Tr.alloc (cs := (bytesV (List.replicate 32 0))) J Zr23 J ?_
 intro n5 hn5 hf5
 refine Tr.storeAll J J J J zE Sz23 (by (simp [fb_length, ptc_y]; done)) Z0 sP zU ?_
 refine Tr.nil (at_n (Sat.join (ι := Unit) (fun _u => ⟨[(2, ptr n2 0), (5, ptr n5 0)], [⟨n5, bytesV (pb P), 23, 32⟩, ⟨n2, bytesV (List.replicate 32 0), 23, 32⟩]⟩) (fun _u => True) ?_ ?_))
 ·
  refine Sat.seq (Sat.region (Tr.fld J J J Y79 J Sz77 dE _ J (Tr.loadN (bytesV _) J J J Y77 J Sz77 Z2 (Point.row_fX zP) (Point.rl_fX zP) ?_)))
  refine Tr.callV J J J J Body215 (f_odd P.x) (fun _ _ => trivial) (Tr.nil (at_n (Sat.condP J (fun hc1 => ?_) (fun hc1 => ?_))))
  ·
   refine Sat.region (Tr.idxArr1 J J J J Y23 Sz5 31 J dE (Tr.load1 J J J Y5 J Z0 (by rfl) ?_))
   refine Tr.or_u8 J J J (show evIn _ _ = some (u8 128) from rfl) (Tr.idxArr1 J J J J Y23 Sz5 31 J dE (Tr.store1 J J J J J Sz5 Z0 (by (simp [fb_length, ptc_y]; done)) (by exact set_bytes _ _ _) zU ?_))
   refine Tr.nil (at_n ?_)
   (rw [show pb P = (fb P.y).set 31 ((fb P.y).getD 31 0 ||| 128) from if_pos hc1]; exact ⟨(), trivial, weak_of (wk1 rfl (wk1 rfl wk0)) (wh1 Z0 (wh1 Z1 wh0)) nD⟩)
  ·
   refine Sat.skip (at_n ?_)
   (rw [show pb P = fb P.y from if_neg hc1]; exact ⟨(), trivial, weak_of (wk1 rfl (wk1 rfl wk0)) (wh1 Z0 (wh1 Z1 wh0)) nD⟩)
 ·
  intro _u hj
  skip
  refine Sat.seq (Sat.region (Tr.loadAll J J J Y23 J Sz23 Z0 (by (simp [pb_length]; done)) ?_))
  refine Tr.storeAll J J J J zE Sz23 (by (simp [pb_length]; done)) Z1 sP zV ?_
  refine Tr.assign J J J (Tr.nil (at_n (Sat.ret (en_r ?_))))
  refine ⟨_, [], res_cell_tmp J J J Y23 J Sz23 Z1 (by simp [pb_length]), sP, sP, ?_, rfl⟩
  rfl

def rdV (b : List UInt8) : Value := match rdP b with
  | some P => .tuple #[agg (ptc P).cells, i64 0]
  | none => .tuple #[agg Point.zero.cells, i64 4]
theorem rdV_none {b : List UInt8} (h : rdP b = none) : rdV b = .tuple #[agg Point.zero.cells, i64 4] := by rw [rdV, h]
theorem rdV_some {b : List UInt8} {P : Pt Fp} (h : rdP b = some P) : rdV b = .tuple #[agg (ptc P).cells, i64 0] := by rw [rdV, h]
theorem rd_n1 {b : List UInt8} (h : ¬ fb (fe (le (lowB b))) = lowB b) : rdP b = none := by rw [rdP, if_neg h]
theorem rd_n2 {b : List UInt8} {r : Fp × Bool} (hx : xOf (fe (le (lowB b))) = r) (h : r.2 = false) : rdP b = none := by
  rw [rdP]
  split
  · rw [hx, if_neg (by rw [h]; simp)]
  · rfl
theorem rd_n3 {b : List UInt8} {r : Fp × Bool} (hx : xOf (fe (le (lowB b))) = r) (h1 : topB b = true) (h : fb r.1 = List.replicate 32 0) : rdP b = none := by
  have h2 : r.1 = 0 := fb_inj.1 (h.trans fb_zero.symm)
  rw [rdP]
  split
  · rw [hx, if_neg (fun e => e.2 ⟨h1, h2⟩)]
  · rfl
theorem rd_s1 {b : List UInt8} {r : Fp × Bool} (hc : fb (fe (le (lowB b))) = lowB b) (hx : xOf (fe (le (lowB b))) = r) (h2 : r.2 = true) (h1 : topB b = true) (h : ¬ fb r.1 = List.replicate 32 0) : rdP b = some ⟨-r.1, fe (le (lowB b))⟩ := by
  rw [rdP, if_pos hc, hx, if_pos ⟨h2, fun e => h (by rw [e.2, fb_zero])⟩, if_pos h1]
theorem rd_s2 {b : List UInt8} {r : Fp × Bool} (hc : fb (fe (le (lowB b))) = lowB b) (hx : xOf (fe (le (lowB b))) = r) (h2 : r.2 = true) (h1 : topB b = false) : rdP b = some ⟨r.1, fe (le (lowB b))⟩ := by
  rw [rdP, if_pos hc, hx, if_pos ⟨h2, fun e => by rw [h1] at e; cases e.1⟩, if_neg (by rw [h1]; decide)]
theorem topB_t {b : List UInt8} (h : ¬ ((b.getD 31 0 &&& 128).toNat : Int) = 0) : topB b = true := by rw [topB, decide_eq_false h]; rfl
theorem topB_f {b : List UInt8} (h : ((b.getD 31 0 &&& 128).toNat : Int) = 0) : topB b = false := by rw [topB, decide_eq_true h]; rfl

theorem curve_Read (b : List UInt8) (hb : b.length = 32) : Meets Tryz.prog 108 [agg (bytesV b)] [] (fun _ => True) (fun v out => v = rdV b ∧ out = []) := by
 intro W hW
 have hll := lowB_length hb
 obtain ⟨Y, hY⟩ : ∃ Y, fe (le (lowB b)) = Y := ⟨_, rfl⟩
 have hcan := field_Canon (lowB b) hll
 have hmul := field_Mul (lowB b) (lowB b) hll hll
 have hinv := f_inv (fD * (Y * Y) + 1)
 have hxo : xOf Y = fRoot ((Y * Y - 1) * finv (fD * (Y * Y) + 1)) := rfl
 revert hinv hxo
 generalize finv (fD * (Y * Y) + 1) = iz
 intro hinv hxo
 have hroot := field_Root (fb ((Y * Y - 1) * iz)) ((Y * Y - 1) * iz) (fb_length _) (fe_fb _)
 revert hroot hxo
 generalize fRoot ((Y * Y - 1) * iz) = xr
 intro hxo hroot
 rw [← hY] at hxo
 rw [hY] at hcan hmul
 refine calls_of (hp0 := []) Tryz.func108 J 60 Tryz.ntmps108 J (HRep.nil _) (Sat.seq (Sat.region (Tr.boxA J J ?_)))
 intro n1 hn1 hf1
 refine Tr.alloc (cs := Point.zero.cells) J Point.zr J ?_
 intro n2 hn2 hf2
 refine Tr.assign J J J (Tr.nil (at_n (Sat.seq (Sat.region (Tr.idxArr1 J J J J Y23 Sz5 31 J dE (Tr.load1 J J J Y5 J Z1 zG ?_))))))
 refine Tr.and_u8 J J J (show evIn _ _ = some (u8 128) from rfl) (two (fun r hr k => Tr.nei J J J J hr k) (fun hs1_30 => ?_) (fun hs1_30 => ?_))
 ·
  have hs1_3 := nd_t hs1_30
  refine Tr.assign J J J (Tr.nil (at_n (Sat.seq (Sat.region (Tr.loadAll J J J Y23 J Sz23 Z1 (by (simp [hb]; done)) ?_)))))
  refine Tr.alloc (cs := (bytesV (List.replicate 32 0))) J Zr77 J ?_
  intro n5 hn5 hf5
  refine Tr.storeAll J J J J zE Sz77 (by (simp [hb]; done)) Z0 sP zU ?_
  refine Tr.nil (at_n (Sat.seq (Sat.region (Tr.idxArr1 J J J J Y77 Sz5 31 J dE (Tr.load1 J J J Y5 J Z0 zG ?_)))))
  refine Tr.and_u8 J J J (show evIn _ _ = some (u8 127) from rfl) (Tr.idxArr1 J J J J Y77 Sz5 31 J dE (Tr.store1 J J J J J Sz5 Z0 (by (simp [hb]; done)) (by exact set_bytes _ _ _) zU ?_))
  refine Tr.nil (at_n (Sat.seq (Sat.seq (Sat.region (Tr.loadAll J J J Y77 J Sz77 Z0 (by (simp [hb]; done)) ?_)))))
  refine Tr.callV J J J J Body168 (hcan) (fun _ _ => trivial) (Tr.not J J J (Tr.nil (at_n (Sat.cond J (fun hc0 => ?_) (fun hc0 => ?_)))))
  ·
   have hcn : ¬ fb Y = lowB b := of_decide_eq_false (by simpa using hc0)
   refine Sat.seq (Sat.region (Tr.build (cs := Point.zero.cells) J J J (fun w => by kernel_rfl) ?_))
   refine Tr.storeAll J J J J (Point.isCell zZ) Sz79 (Point.length zZ) Z1 (Point.length zZ) zV ?_
   refine Tr.assign J J J (Tr.nil (at_n (Sat.ret (at_r (en_r ?_)))))
   refine ⟨_, [], res_cell_tmp J J J Y79 J Sz79 Z1 (by exact Point.length zZ), sP, sP, ?_, rfl⟩
   exact (rdV_none (rd_n1 (by rw [hY]; exact hcn))).symm
  ·
   have hcy : fb Y = lowB b := of_decide_eq_true (by simpa using hc0)
   refine Sat.skip (at_n (Sat.seq (Sat.region (Tr.loadAll J J J Y77 J Sz77 Z0 (by (simp [hb]; done)) ?_))))
   refine Tr.loadAll J J J Y77 J Sz77 Z0 (by (simp [hb]; done)) ?_
   refine Tr.callV J J J J Body169 (hmul) (fun _ _ => trivial) (Tr.alloc (cs := (bytesV (List.replicate 32 0))) J Zr77 J ?_)
   intro n6 hn6 hf6
   refine Tr.storeAll J J J J zE Sz77 zF Z0 sP zU ?_
   refine Tr.nil (at_n (Sat.seq (Sat.draw [(1, 0), (3, 1), (3, 2), (2, 3), (4, 4)] Mixed zK (Tr.loadAll J J J Y77 J Sz77 Z0 zF ?_))))
   refine Tr.callV J J J J Body171 (f_one) (fun _ _ => trivial) (Tr.callV J J J J Body170 (f_sub _ _) (fun _ _ => trivial) (Tr.alloc (cs := (bytesV (List.replicate 32 0))) J Zr77 J ?_))
   intro n7 hn7 hf7
   refine Tr.storeAll J J J J zE Sz77 zF Z0 sP zU ?_
   refine Tr.nil (at_n (Sat.seq (Sat.draw [(1, 1), (3, 0), (3, 2), (3, 3), (3, 4), (2, 5), (4, 6)] Mixed zK (Tr.loadAll J J J Y77 J Sz77 Z1 zF ?_))))
   refine Tr.callV J J J J Body173 (curve_D) (fun _ _ => trivial) (Tr.callV J J J J Body169 (f_mul _ _) (fun _ _ => trivial) (Tr.callV J J J J Body171 (f_one) (fun _ _ => trivial) (Tr.callV J J J J Body172 (f_add _ _) (fun _ _ => trivial) (Tr.alloc (cs := (bytesV (List.replicate 32 0))) J Zr77 J ?_))))
   intro n8 hn8 hf8
   refine Tr.storeAll J J J J zE Sz77 zF Z0 sP zU ?_
   refine Tr.nil (at_n (Sat.seq (Sat.draw [(1, 0), (1, 1), (3, 2), (3, 3), (3, 4), (0, 5), (0, 6), (0, 7), (2, 8), (4, 9), (0, 10)] Mixed zK (Tr.loadAll J J J Y77 J Sz77 Z1 zF ?_))))
   refine Tr.loadAll J J J Y77 J Sz77 Z0 zF ?_
   refine Tr.callV J J J J Body175 (hinv) (fun _ _ => trivial) (Tr.callV J J J J Body169 (f_mul _ _) (fun _ _ => trivial) (Tr.callV J J J J Body174 (hroot) (fun _ _ => trivial) (Tr.move J J J (Tr.extract J J J J (Tr.extractB J J J J (fun hs9_70 => ?_) (fun hs9_70 => ?_))))))
   ·
    have hs9_7 := hs9_70
    refine Tr.alloc (cs := (bytesV (List.replicate 32 0))) J Zr77 J ?_
    intro n9 hn9 hf9
    refine Tr.storeAll J J J J zE Sz77 zF Z0 sP zU ?_
    refine Tr.assign J J J (Tr.nil (at_n (Sat.seq (Sat.seq (Sat.region (Tr.move J J J (Tr.not J J J (Tr.move J J J (Tr.move J J J (Tr.move J J J (Tr.loadAll J J J Y77 J Sz77 Z0 zF ?_)))))))))))
    refine Tr.build (cs := bytesV (List.replicate 32 0)) J J J (fun w => by kernel_rfl) ?_
    refine two (fun r hr k => Tr.eql_bytes J J J J Tryz.eqGuardType77 Y77 Y5 Sz5 zF sP hr k) (fun hs10_70 => ?_) (fun hs10_70 => ?_)
    ·
     have hs10_7 := of_decide_eq_true hs10_70
     refine Tr.pick J J J J J J (Tr.pick J J J J J J (Tr.nil (at_n (Sat.cond_t J J (Sat.seq (Sat.region (Tr.build (cs := Point.zero.cells) J J J (fun w => by kernel_rfl) ?_)))))))
     refine Tr.storeAll J J J J (Point.isCell zZ) Sz79 (Point.length zZ) (by exact mem5) (Point.length zZ) (by exact upd5) ?_
     refine Tr.assign J J J (Tr.nil (at_n (Sat.ret (at_r (en_r ?_)))))
     refine ⟨_, [], res_cell_tmp J J J Y79 J Sz79 (by exact mem5) (by exact Point.length zZ), sP, sP, ?_, rfl⟩
     exact (rdV_none (rd_n3 hxo (topB_t hs1_3) hs10_7)).symm
    ·
     have hs10_7 := of_decide_eq_false hs10_70
     refine Tr.pick J J J J J J (Tr.pick J J J J J J (Tr.nil (at_n (Sat.cond_f J J (Sat.skip (at_n (Sat.seq (Sat.seq (Sat.region (Tr.move J J J (Tr.nil (at_n (Sat.cond_t J J (Sat.region (Tr.loadAll J J J Y77 J Sz77 Z0 zF ?_)))))))))))))))
     refine Tr.callV J J J J Body176 (f_neg _) (fun _ _ => trivial) (Tr.storeAll J J J J zE Sz77 zF Z0 zF zU ?_)
     refine Tr.nil (at_n (Sat.seq (Sat.region ?_)))
     rw [show b.set 31 (b.getD 31 0 &&& 127) = fb Y from hcy.symm]
     refine Tr.loadAll J J J Y77 J Sz77 Z0 zF ?_
     refine Tr.loadAll J J J Y77 J Sz77 Z4 zF ?_
     refine Tr.build (cs := (⟨fb (-xr.1), fb Y⟩ : Point).cells) J J J (fun w => by kernel_rfl) ?_
     refine Tr.storeAll J J J J (Point.isCell (by exact ⟨fb32 _, fb32 _⟩)) Sz79 (Point.length (by exact ⟨fb32 _, fb32 _⟩)) (by exact mem5) (Point.length zZ) (by exact upd5) ?_
     refine Tr.assign J J J (Tr.nil (at_n (Sat.ret (en_r ?_))))
     refine ⟨_, [], res_cell_tmp J J J Y79 J Sz79 (by exact mem5) (by exact Point.length (by exact ⟨fb32 _, fb32 _⟩)), sP, sP, ?_, rfl⟩
     (rw [rdV_some (rd_s1 (by rw [hY]; exact hcy) hxo hs9_7 (topB_t hs1_3) hs10_7), hY]; rfl)
   ·
    have hs9_7 := hs9_70
    refine Tr.alloc (cs := (bytesV (List.replicate 32 0))) J Zr77 J ?_
    intro n9 hn9 hf9
    refine Tr.storeAll J J J J zE Sz77 zF Z0 sP zU ?_
    refine Tr.assign J J J (Tr.nil (at_n (Sat.seq (Sat.seq (Sat.region (Tr.move J J J (Tr.not J J J (Tr.move J J J (Tr.skp J J (Tr.skp J J (Tr.skp J J (Tr.skp J J (Tr.skp J J (Tr.skp J J (Tr.pick J J J J J J (Tr.nil (at_n (Sat.cond_t J J (Sat.seq (Sat.region (Tr.build (cs := Point.zero.cells) J J J (fun w => by kernel_rfl) ?_)))))))))))))))))))))
    refine Tr.storeAll J J J J (Point.isCell zZ) Sz79 (Point.length zZ) (by exact mem5) (Point.length zZ) (by exact upd5) ?_
    refine Tr.assign J J J (Tr.nil (at_n (Sat.ret (at_r (en_r ?_)))))
    refine ⟨_, [], res_cell_tmp J J J Y79 J Sz79 (by exact mem5) (by exact Point.length zZ), sP, sP, ?_, rfl⟩
    exact (rdV_none (rd_n2 hxo hs9_7)).symm
 ·
  have hs1_3 := nd_f hs1_30
  refine Tr.assign J J J (Tr.nil (at_n (Sat.seq (Sat.region (Tr.loadAll J J J Y23 J Sz23 Z1 (by (simp [hb]; done)) ?_)))))
  refine Tr.alloc (cs := (bytesV (List.replicate 32 0))) J Zr77 J ?_
  intro n5 hn5 hf5
  refine Tr.storeAll J J J J zE Sz77 (by (simp [hb]; done)) Z0 sP zU ?_
  refine Tr.nil (at_n (Sat.seq (Sat.region (Tr.idxArr1 J J J J Y77 Sz5 31 J dE (Tr.load1 J J J Y5 J Z0 zG ?_)))))
  refine Tr.and_u8 J J J (show evIn _ _ = some (u8 127) from rfl) (Tr.idxArr1 J J J J Y77 Sz5 31 J dE (Tr.store1 J J J J J Sz5 Z0 (by (simp [hb]; done)) (by exact set_bytes _ _ _) zU ?_))
  refine Tr.nil (at_n (Sat.seq (Sat.seq (Sat.region (Tr.loadAll J J J Y77 J Sz77 Z0 (by (simp [hb]; done)) ?_)))))
  refine Tr.callV J J J J Body168 (hcan) (fun _ _ => trivial) (Tr.not J J J (Tr.nil (at_n (Sat.cond J (fun hc0 => ?_) (fun hc0 => ?_)))))
  ·
   have hcn : ¬ fb Y = lowB b := of_decide_eq_false (by simpa using hc0)
   refine Sat.seq (Sat.region (Tr.build (cs := Point.zero.cells) J J J (fun w => by kernel_rfl) ?_))
   refine Tr.storeAll J J J J (Point.isCell zZ) Sz79 (Point.length zZ) Z1 (Point.length zZ) zV ?_
   refine Tr.assign J J J (Tr.nil (at_n (Sat.ret (at_r (en_r ?_)))))
   refine ⟨_, [], res_cell_tmp J J J Y79 J Sz79 Z1 (by exact Point.length zZ), sP, sP, ?_, rfl⟩
   exact (rdV_none (rd_n1 (by rw [hY]; exact hcn))).symm
  ·
   have hcy : fb Y = lowB b := of_decide_eq_true (by simpa using hc0)
   refine Sat.skip (at_n (Sat.seq (Sat.region (Tr.loadAll J J J Y77 J Sz77 Z0 (by (simp [hb]; done)) ?_))))
   refine Tr.loadAll J J J Y77 J Sz77 Z0 (by (simp [hb]; done)) ?_
   refine Tr.callV J J J J Body169 (hmul) (fun _ _ => trivial) (Tr.alloc (cs := (bytesV (List.replicate 32 0))) J Zr77 J ?_)
   intro n6 hn6 hf6
   refine Tr.storeAll J J J J zE Sz77 zF Z0 sP zU ?_
   refine Tr.nil (at_n (Sat.seq (Sat.draw [(1, 0), (3, 1), (3, 2), (2, 3), (4, 4)] Mixed zK (Tr.loadAll J J J Y77 J Sz77 Z0 zF ?_))))
   refine Tr.callV J J J J Body171 (f_one) (fun _ _ => trivial) (Tr.callV J J J J Body170 (f_sub _ _) (fun _ _ => trivial) (Tr.alloc (cs := (bytesV (List.replicate 32 0))) J Zr77 J ?_))
   intro n7 hn7 hf7
   refine Tr.storeAll J J J J zE Sz77 zF Z0 sP zU ?_
   refine Tr.nil (at_n (Sat.seq (Sat.draw [(1, 1), (3, 0), (3, 2), (3, 3), (3, 4), (2, 5), (4, 6)] Mixed zK (Tr.loadAll J J J Y77 J Sz77 Z1 zF ?_))))
   refine Tr.callV J J J J Body173 (curve_D) (fun _ _ => trivial) (Tr.callV J J J J Body169 (f_mul _ _) (fun _ _ => trivial) (Tr.callV J J J J Body171 (f_one) (fun _ _ => trivial) (Tr.callV J J J J Body172 (f_add _ _) (fun _ _ => trivial) (Tr.alloc (cs := (bytesV (List.replicate 32 0))) J Zr77 J ?_))))
   intro n8 hn8 hf8
   refine Tr.storeAll J J J J zE Sz77 zF Z0 sP zU ?_
   refine Tr.nil (at_n (Sat.seq (Sat.draw [(1, 0), (1, 1), (3, 2), (3, 3), (3, 4), (0, 5), (0, 6), (0, 7), (2, 8), (4, 9), (0, 10)] Mixed zK (Tr.loadAll J J J Y77 J Sz77 Z1 zF ?_))))
   refine Tr.loadAll J J J Y77 J Sz77 Z0 zF ?_
   refine Tr.callV J J J J Body175 (hinv) (fun _ _ => trivial) (Tr.callV J J J J Body169 (f_mul _ _) (fun _ _ => trivial) (Tr.callV J J J J Body174 (hroot) (fun _ _ => trivial) (Tr.move J J J (Tr.extract J J J J (Tr.extractB J J J J (fun hs9_70 => ?_) (fun hs9_70 => ?_))))))
   ·
    have hs9_7 := hs9_70
    refine Tr.alloc (cs := (bytesV (List.replicate 32 0))) J Zr77 J ?_
    intro n9 hn9 hf9
    refine Tr.storeAll J J J J zE Sz77 zF Z0 sP zU ?_
    refine Tr.assign J J J (Tr.nil (at_n (Sat.seq (Sat.seq (Sat.region (Tr.move J J J (Tr.not J J J (Tr.move J J J (Tr.move J J J (Tr.move J J J (Tr.skp J J (Tr.skp J J (Tr.skp J J (Tr.pick J J J J J J (Tr.pick J J J J J J (Tr.nil (at_n (Sat.cond_f J J (Sat.skip (at_n (Sat.seq (Sat.seq (Sat.region (Tr.move J J J (Tr.nil (at_n (Sat.cond_f J J (Sat.skip (at_n (Sat.seq (Sat.region ?_)))))))))))))))))))))))))))))))
    rw [show b.set 31 (b.getD 31 0 &&& 127) = fb Y from hcy.symm]
    refine Tr.loadAll J J J Y77 J Sz77 Z0 zF ?_
    refine Tr.loadAll J J J Y77 J Sz77 Z4 zF ?_
    refine Tr.build (cs := (⟨fb xr.1, fb Y⟩ : Point).cells) J J J (fun w => by kernel_rfl) ?_
    refine Tr.storeAll J J J J (Point.isCell (by exact ⟨fb32 _, fb32 _⟩)) Sz79 (Point.length (by exact ⟨fb32 _, fb32 _⟩)) (by exact mem5) (Point.length zZ) (by exact upd5) ?_
    refine Tr.assign J J J (Tr.nil (at_n (Sat.ret (en_r ?_))))
    refine ⟨_, [], res_cell_tmp J J J Y79 J Sz79 (by exact mem5) (by exact Point.length (by exact ⟨fb32 _, fb32 _⟩)), sP, sP, ?_, rfl⟩
    (rw [rdV_some (rd_s2 (by rw [hY]; exact hcy) hxo hs9_7 (topB_f hs1_3)), hY]; rfl)
   ·
    have hs9_7 := hs9_70
    refine Tr.alloc (cs := (bytesV (List.replicate 32 0))) J Zr77 J ?_
    intro n9 hn9 hf9
    refine Tr.storeAll J J J J zE Sz77 zF Z0 sP zU ?_
    refine Tr.assign J J J (Tr.nil (at_n (Sat.seq (Sat.seq (Sat.region (Tr.move J J J (Tr.not J J J (Tr.move J J J (Tr.skp J J (Tr.skp J J (Tr.skp J J (Tr.skp J J (Tr.skp J J (Tr.skp J J (Tr.pick J J J J J J (Tr.nil (at_n (Sat.cond_t J J (Sat.seq (Sat.region (Tr.build (cs := Point.zero.cells) J J J (fun w => by kernel_rfl) ?_)))))))))))))))))))))
    refine Tr.storeAll J J J J (Point.isCell zZ) Sz79 (Point.length zZ) (by exact mem5) (Point.length zZ) (by exact upd5) ?_
    refine Tr.assign J J J (Tr.nil (at_n (Sat.ret (at_r (en_r ?_)))))
    refine ⟨_, [], res_cell_tmp J J J Y79 J Sz79 (by exact mem5) (by exact Point.length zZ), sP, sP, ?_, rfl⟩
    exact (rdV_none (rd_n2 hxo hs9_7)).symm

end Go.Proofs.YtpacobmjjjillaaGreat
end

section
namespace Go.Proofs.YtpacobmjjjillaaGreat
open Go Hw
set_option linter.unusedVariables false
set_option linter.unusedSimpArgs false

open Ed

/-- SHA-512 -/
def sha512 (l : List UInt8) : List UInt8 := sumUp (allW kW startW l) 64
theorem sha512_length (l : List UInt8) : (sha512 l).length = 64 := sumUp_length _ _
theorem sha_StartS (s : List UInt64) (h : Hid (startW = s)) : Meets Tryz.prog 204 [] [] (fun _ => True) (fun v out => v = agg (wordsV s) ∧ out = []) := by
  rw [← h.out]; exact sha_Start

theorem sha_Sum512 (p : Option Addr) (n c : Nat) (ss : List Sl) (ls : List (List UInt8)) (hss : ss.length = n) (hls : ls.length = n) (hsl : ∀ j, j < n → (ss.getD j Sl.nil).n = (ls.getD j []).length ∧ ((ss.getD j Sl.nil).p = none → (ss.getD j Sl.nil).n = 0)) (F : List UInt8) (hF : ls.flatten = F) (htot : F.length ≤ 90000) (hn : n ≤ 1000000) (s : List UInt8) (hs : Hid (sha512 F = s))  : Meets Tryz.prog 160 [.slice p n c] [] (fun W => SeesP W p (ss.map Sl.v) ∧ ∀ j, j < n → SeesP W (ss.getD j Sl.nil).p (bytesV (ls.getD j []))) (fun v out => v = agg (bytesV s) ∧ out = []) := by
 intro W hW
 have hs64 : s.length = 64 := by rw [← hs.out]; exact sha512_length F
 obtain ⟨k, hk⟩ : ∃ k, Hid (kW = k) := ⟨_, ⟨rfl⟩⟩
 obtain ⟨st, hst⟩ : ∃ k, Hid (startW = k) := ⟨_, ⟨rfl⟩⟩
 obtain ⟨r, hr⟩ : ∃ r, Hid (allW k st F = r) := ⟨_, ⟨rfl⟩⟩
 have hk80 : k.length = 80 := by rw [← hk.out]; rfl
 have hst8 : st.length = 8 := by rw [← hst.out]; rfl
 have hr8 : r.length = 8 := by rw [← hr.out, allW_length]; exact hst8
 have hs2 : Hid (sumUp r 64 = s) := ⟨by rw [← hs.out, sha512, hk.out, hst.out, hr.out]⟩
 refine calls_of (hp0 := []) Tryz.func160 J 7 Tryz.ntmps160 J (HRep.nil _) (Sat.seq (Sat.region (Tr.alloc (cs := (bytesV (List.replicate 64 0))) J Zr26 J ?_)))
 intro n2 hn2 hf2
 refine Tr.nil (at_n (Sat.seq (Sat.region (Tr.callV J J J J Body204 (sha_StartS st hst) (fun _ _ => trivial) (Tr.move J J J (Tr.callV J J J J Body127 (sha_whole st hst8 k hk hk80 p n c ss ls hss hls hsl F hF htot hn) (fun w h => ⟨seesP_ext h J hW.1, fun j hj => seesP_ext h J (hW.2 j hj)⟩) ?_))))))
 rw [hr.out]
 refine Tr.callV J J J J Body126 (sha_sum r hr8 s hs2) (fun _ _ => trivial) (Tr.storeAll J J J J zE Sz26 (by (simp [hs64]; done)) Z0 sP zU ?_)
 refine Tr.nil (at_n (Sat.ret (en_r ?_)))
 refine ⟨_, [], res_cell J J Y26 J Sz26 Z0 (by simp [hs64]), sP, sP, ?_, rfl⟩
 rfl

theorem sign_residue (p : Option Addr) (n c : Nat) (ss : List Sl) (ls : List (List UInt8)) (hss : ss.length = n) (hls : ls.length = n) (hsl : ∀ j, j < n → (ss.getD j Sl.nil).n = (ls.getD j []).length ∧ ((ss.getD j Sl.nil).p = none → (ss.getD j Sl.nil).n = 0)) (F : List UInt8) (hF : ls.flatten = F) (htot : F.length ≤ 90000) (hn : n ≤ 1000000) (s : List UInt8) (hs : Hid (sha512 F = s))  : Meets Tryz.prog 105 [.slice p n c] [] (fun W => SeesP W p (ss.map Sl.v) ∧ ∀ j, j < n → SeesP W (ss.getD j Sl.nil).p (bytesV (ls.getD j []))) (fun v out => v = agg (bytesV (leb 32 (le s % L))) ∧ out = []) := by
 intro W hW
 have hs64 : s.length = 64 := by rw [← hs.out]; exact sha512_length F
 refine calls_of (hp0 := []) Tryz.func105 J 14 Tryz.ntmps105 J (HRep.nil _) (Sat.seq (Sat.region (Tr.alloc (cs := (bytesV (List.replicate 32 0))) J Zr77 J ?_)))
 intro n2 hn2 hf2
 refine Tr.nil (at_n (Sat.seq (Sat.region (Tr.move J J J (Tr.callV J J J J Body160 (sha_Sum512 p n c ss ls hss hls hsl F hF htot hn s hs) (fun w h => ⟨seesP_ext h J hW.1, fun j hj => seesP_ext h J (hW.2 j hj)⟩) (Tr.alloc (cs := (bytesV (List.replicate 64 0))) J Zr26 J ?_))))))
 intro n3 hn3 hf3
 refine Tr.storeAll J J J J zE Sz26 (by (simp [hs64]; done)) Z0 sP zU ?_
 refine Tr.nil (at_n (Sat.seq (Sat.region (Tr.sliceArr J J J Y26 Sz5 (Tr.callV J J J J Body161 (scalar_rest n3 0 64 64 s hs64 dE) (fun w h => sees_own h Z0) ?_)))))
 refine Tr.move J J J (Tr.extract J J J J (Tr.extract J J J J (Tr.alloc (cs := (bytesV (List.replicate 32 0))) J Zr77 J ?_)))
 intro n4 hn4 hf4
 refine Tr.storeAll J J J J zE Sz77 (by (simp [leb_length]; done)) Z0 sP zU ?_
 refine Tr.assign J J J (Tr.nil (at_n (Sat.seq (Sat.region (Tr.loadAll J J J Y77 J Sz77 Z0 (by (simp [leb_length]; done)) ?_)))))
 refine Tr.storeAll J J J J zE Sz77 (by (simp [leb_length]; done)) Z2 sP (by exact upd2) ?_
 refine Tr.nil (at_n (Sat.ret (en_r ?_)))
 refine ⟨_, [], res_cell J J Y77 J Sz77 Z2 (by simp [leb_length]), sP, sP, ?_, rfl⟩
 rfl

theorem sign_multiple (a : List UInt8) (ha : a.length = 32) : Meets Tryz.prog 103 [agg (bytesV a)] [] (fun _ => True) (fun v out => v = agg (bytesV (pb (cv.mul (le a) bP))) ∧ out = []) := by
 intro W hW
 obtain ⟨Q, hQ⟩ : ∃ Q, cv.mul (le a) bP = Q := ⟨_, rfl⟩
 have hQo : cv.on Q := by rw [← hQ]; exact cv.on_mul bP_on _
 have hmul := curve_Mul a bP ha bP_on
 rw [hQ] at hmul ⊢
 refine calls_of (hp0 := []) Tryz.func103 J 13 Tryz.ntmps103 J (HRep.nil _) (Sat.seq (Sat.region (Tr.boxA J J ?_)))
 intro n1 hn1 hf1
 refine Tr.alloc (cs := (bytesV (List.replicate 32 0))) J Zr23 J ?_
 intro n2 hn2 hf2
 refine Tr.nil (at_n (Sat.seq (Sat.draw [(1, 0), (3, 1), (3, 2), (3, 3), (0, 4), (0, 5), (0, 6), (2, 7), (4, 8), (0, 9)] Mixed zK (Tr.loadAll J J J Y77 J Sz77 Z1 (by (simp [ha]; done)) ?_))))
 refine Tr.callV J J J J Body110 (curve_Base) (fun _ _ => trivial) (Tr.callV J J J J Body159 (hmul) (fun _ _ => trivial) (Tr.callV J J J J Body158 (curve_Bytes Q hQo) (fun _ _ => trivial) (Tr.move J J J (Tr.extract J J J J (Tr.extract J J J J (Tr.alloc (cs := (bytesV (List.replicate 32 0))) J Zr23 J ?_))))))
 intro n3 hn3 hf3
 refine Tr.storeAll J J J J zE Sz23 (by (simp [pb_length]; done)) Z0 sP zU ?_
 refine Tr.assign J J J (Tr.nil (at_n (Sat.seq (Sat.region (Tr.loadAll J J J Y23 J Sz23 Z0 (by (simp [pb_length]; done)) ?_)))))
 refine Tr.storeAll J J J J zE Sz23 (by (simp [pb_length]; done)) Z1 sP zV ?_
 refine Tr.nil (at_n (Sat.ret (en_r ?_)))
 refine ⟨_, [], res_cell J J Y23 J Sz23 Z1 (by simp [pb_length]), sP, sP, ?_, rfl⟩
 rfl

/-- the secret number of 32 bytes -/
def clampB (l : List UInt8) : List UInt8 := (l.set 0 (l.getD 0 0 &&& 248)).set 31 (((l.getD 31 0) &&& 127) ||| 64)
theorem clampB_length {l : List UInt8} (h : l.length = 32) : (clampB l).length = 32 := by simp [clampB, h]
theorem clamp_all (l z : List UInt8) (h : l.length = 32) : ((l ++ z).set 0 ((l ++ z).getD 0 0 &&& 248)).set 31 (((((l ++ z).set 0 ((l ++ z).getD 0 0 &&& 248)).getD 31 0) &&& 127) ||| 64) = clampB l ++ z := by
  have g : ∀ i, i < 32 → (l ++ z).getD i 0 = l.getD i 0 := fun i hi => by
    rw [List.getD_eq_getElem?_getD, List.getElem?_append_left oM, ← List.getD_eq_getElem?_getD]
  have g2 : ((l ++ z).set 0 ((l ++ z).getD 0 0 &&& 248)).getD 31 0 = l.getD 31 0 := by
    rw [List.getD_eq_getElem?_getD, List.getElem?_set_ne dE, ← List.getD_eq_getElem?_getD, g 31 dE]
  rw [g2, g 0 dE, List.set_append_left _ _ oM, List.set_append_left _ _ (by simp; omega)]
  rfl
def secB (h : List UInt8) : secrets := ⟨clampB (h.take 32), h.drop 32⟩
theorem secB_ok {h : List UInt8} (hl : h.length = 64) : (secB h).ok := ⟨clampB_length (by rw [List.length_take, hl]; rfl), by show (h.drop 32).length = 32; rw [List.length_drop, hl]⟩
theorem sec_first (l : List UInt8) : ({ secrets.zero with fNumber := l } : secrets).cells = bytesV (l ++ List.replicate 32 0) := by
  show bytesV l ++ bytesV (List.replicate 32 0) = _
  simp [bytesV]
theorem sec_last (l : List UInt8) : bytesV (clampB l ++ List.replicate 32 0) = (⟨clampB l, List.replicate 32 0⟩ : secrets).cells := by
  show _ = bytesV (clampB l) ++ bytesV (List.replicate 32 0)
  simp [bytesV]
theorem d64 {s : List UInt8} (h : s.length = 64) : (s.drop 32).take 32 = s.drop 32 := List.take_of_length_le (by rw [List.length_drop, h]; decide)

theorem sign_expand (seed : List UInt8) (h32 : seed.length = 32) (s : List UInt8) (hs : Hid (sha512 seed = s)) : Meets Tryz.prog 104 [agg (bytesV seed)] [] (fun _ => True) (fun v out => v = agg (secB s).cells ∧ out = []) := by
 intro W hW
 have hs64 : s.length = 64 := by rw [← hs.out]; exact sha512_length seed
 have ht32 : (s.take 32).length = 32 := by rw [List.length_take, hs64]; rfl
 have hd32 : (s.drop 32).length = 32 := by rw [List.length_drop, hs64]
 refine calls_of (hp0 := []) Tryz.func104 J 29 Tryz.ntmps104 J (HRep.nil _) (Sat.seq (Sat.region (Tr.boxA J J ?_)))
 intro n1 hn1 hf1
 refine Tr.alloc (cs := secrets.zero.cells) J secrets.zr J ?_
 intro n2 hn2 hf2
 refine Tr.nil (at_n (Sat.seq (Sat.region (Tr.sliceArr J J J Y23 Sz5 (Tr.mkRow2 (z := .slice none 0 0) [.slice (some ⟨n1, 0, none⟩) 32 32] [.slice (some ⟨n1, 0, none⟩) 32 32] rfl J Y133 Sz39 Zr39 J J (by intro v hv; rw [List.mem_singleton.1 hv]; rfl) dE J ?_)))))
 intro q5
 refine Tr.callV J J J J Body160 (sha_Sum512 (some ⟨q5, 0, none⟩) 1 1 [⟨some ⟨n1, 0, none⟩, 32, 32⟩] [seed] rfl J (fun j hj => (by obtain rfl : j = 0 := oM; exact ⟨by simp [h32], fun e => by cases e⟩)) seed sP oM dE s hs) (fun w h => ⟨SeesP.of (sees_own h Z0), fun j hj => (by obtain rfl : j = 0 := oM; exact SeesP.of (sees_own h Z2))⟩) ?_
 refine Tr.alloc (cs := (bytesV (List.replicate 64 0))) J Zr26 J ?_
 intro n3 hn3 hf3
 refine Tr.storeAll J J J J zE Sz26 (by (simp [hs64]; done)) Z0 sP zU ?_
 refine Tr.nil (at_n (Sat.seq (Sat.region (Tr.sliceArrHi 32 J J J J J dE dE Y26 Sz5 (Tr.s2a J J J Y77 oM (Tr.loadN (bytesV (s.take 32)) J J J Y77 J Sz77 Z0 (by rw [List.drop_zero, ← List.map_take]) (by rw [List.length_map]; exact ht32) ?_))))))
 refine Tr.fld J J J Tryz.underlying114 J Sz77 dE _ J (Tr.storeN (bytesV _) J J J J J zE Sz77 (by simp [hs64]) Z2 (by rw [secrets.length (by exact secrets.zero_ok)]; simp [hs64]) (secrets.upd_fNumber (by exact secrets.zero_ok) _ (by simp [ht32])) (by exact upd2) ?_)
 refine Tr.nil (at_n (Sat.seq (Sat.region ?_)))
 rw [sec_first]
 refine Tr.fld J J J Tryz.underlying114 J Sz77 dE _ J (Tr.idxArr1 J J J J Y77 Sz5 0 J dE (Tr.load1 J J J Y5 J Z2 (get_bytes (by simp [ht32])) ?_))
 refine Tr.and_u8 J J J (show evIn _ _ = some (u8 248) from rfl) (Tr.fld J J J Tryz.underlying114 J Sz77 dE _ J (Tr.idxArr1 J J J J Y77 Sz5 0 J dE (Tr.store1 J J J J J Sz5 Z2 (by rw [bytesV, List.length_map]; simp [ht32]) (by exact set_bytes _ 0 _) (by exact upd2) ?_)))
 refine Tr.nil (at_n (Sat.seq (Sat.region (Tr.fld J J J Tryz.underlying114 J Sz77 dE _ J (Tr.idxArr1 J J J J Y77 Sz5 31 J dE (Tr.load1 J J J Y5 J Z2 (get_bytes (by simp [ht32])) ?_))))))
 refine Tr.and_u8 J J J (show evIn _ _ = some (u8 127) from rfl) (Tr.or_u8 J J J (show evIn _ _ = some (u8 64) from rfl) (Tr.fld J J J Tryz.underlying114 J Sz77 dE _ J (Tr.idxArr1 J J J J Y77 Sz5 31 J dE (Tr.store1 J J J J J Sz5 Z2 (by rw [bytesV, List.length_map]; simp [ht32]) (by exact set_bytes _ 31 _) (by exact upd2) ?_))))
 refine Tr.nil (at_n (Sat.seq (Sat.region ?_)))
 rw [clamp_all _ _ ht32, sec_last]
 refine Tr.sliceArrLo 32 J J J J J dE Y26 Sz5 (Tr.s2a J J J Y23 oM (Tr.loadN (bytesV (s.drop 32)) J J J Y23 J Sz23 Z0 (by show ((s.map u8).drop 32).take 32 = _; rw [← List.map_drop, ← List.map_take, d64 hs64]) (by rw [List.length_map]; exact hd32) ?_))
 refine Tr.fld J J J Tryz.underlying114 J Sz23 dE _ J (Tr.storeN (bytesV _) J J J J J zE Sz23 (by simp [hs64]) Z2 (by rw [secrets.length (by exact ⟨clampB_length ht32, rfl⟩)]; simp [hs64]) (secrets.upd_fRest (by exact ⟨clampB_length ht32, rfl⟩) _ (by simp [hd32])) (by exact upd2) ?_)
 refine Tr.nil (at_n (Sat.seq (Sat.region (Tr.loadAll J J J Tryz.underlying114 J Sz114 Z2 (secrets.length (by exact secB_ok hs64)) ?_))))
 refine Tr.storeAll J J J J (secrets.isCell (by exact secB_ok hs64)) Sz114 (secrets.length (by exact secB_ok hs64)) Z2 (secrets.length (by exact secB_ok hs64)) (by exact upd2) ?_
 refine Tr.nil (at_n (Sat.ret (en_r ?_)))
 refine ⟨_, [], res_cell J J Tryz.underlying114 J Sz114 Z2 (by exact secrets.length (by exact secB_ok hs64)), sP, sP, ?_, rfl⟩
 rfl

theorem sign_Key (seed : List UInt8) (h32 : seed.length = 32) (s : List UInt8) (hs : Hid (sha512 seed = s)) : Meets Tryz.prog 58 [agg (bytesV seed)] [] (fun _ => True) (fun v out => v = agg (bytesV (pb (cv.mul (le (clampB (s.take 32))) bP))) ∧ out = []) := by
 intro W hW
 have hs64 : s.length = 64 := by rw [← hs.out]; exact sha512_length seed
 have hc32 : (clampB (s.take 32)).length = 32 := clampB_length (by rw [List.length_take, hs64]; rfl)
 have hm := sign_multiple (clampB (s.take 32)) hc32
 refine calls_of (hp0 := []) Tryz.func58 J 7 Tryz.ntmps58 J (HRep.nil _) (Sat.seq (Sat.region (Tr.boxA J J ?_)))
 intro n1 hn1 hf1
 refine Tr.alloc (cs := (bytesV (List.replicate 32 0))) J Zr25 J ?_
 intro n2 hn2 hf2
 refine Tr.nil (at_n (Sat.seq (Sat.region (Tr.loadAll J J J Y23 J Sz23 Z1 (by (simp [h32]; done)) ?_))))
 refine Tr.callV J J J J Body104 (sign_expand seed h32 s hs) (fun _ _ => trivial) (Tr.fieldN (bytesV (clampB (s.take 32))) J J J Tryz.underlying114 J Y77 J Sz77 (secrets.row_fNumber (secB_ok hs64)) (Tr.callV J J J J Body103 (hm) (fun _ _ => trivial) (Tr.storeAll J J J J zE Sz25 (by (simp [pb_length]; done)) Z0 sP zU ?_)))
 refine Tr.nil (at_n (Sat.ret (en_r ?_)))
 refine ⟨_, [], res_cell J J Y25 J Sz25 Z0 (by simp [pb_length]), sP, sP, ?_, rfl⟩
 rfl

end Go.Proofs.YtpacobmjjjillaaGreat
end

section
namespace Go.Proofs.YtpacobmjjjillaaGreat
open Go Hw
set_option linter.unusedVariables false
set_option linter.unusedSimpArgs false

open Ed

/-- the residue of a hash -/
def sgR (s : List UInt8) : List UInt8 := leb 32 (le s % L)
theorem sgR_length (s : List UInt8) : (sgR s).length = 32 := leb_length _ _
def sgF (s1 : List UInt8) : List UInt8 := pb (cv.mul (le (sgR s1)) bP)
def sgK (s : List UInt8) : List UInt8 := pb (cv.mul (le (clampB (s.take 32))) bP)
theorem sgF_length (s : List UInt8) : (sgF s).length = 32 := pb_length _
theorem sgK_length (s : List UInt8) : (sgK s).length = 32 := pb_length _
def sgS (s s1 s2 : List UInt8) : List UInt8 := leb 32 ((le (sgR s2) * le (clampB (s.take 32)) + le (sgR s1)) % L)
theorem sgS_length (s s1 s2 : List UInt8) : (sgS s s1 s2).length = 32 := leb_length _ _
theorem upd_first {f : List UInt8} (h : f.length = 32) : upd (bytesV (List.replicate 64 0)) 0 (bytesV f) = bytesV (f ++ List.replicate 32 0) := by
  simp [upd, bytesV, h]
theorem upd_last {f g : List UInt8} (h : f.length = 32) (hg : g.length = 32) : upd (bytesV (f ++ List.replicate 32 0)) 32 (bytesV g) = bytesV (f ++ g) := by
  simp [upd, bytesV, h, hg]

theorem sign_residueR (p : Option Addr) (n c : Nat) (ss : List Sl) (ls : List (List UInt8)) (hss : ss.length = n) (hls : ls.length = n) (hsl : ∀ j, j < n → (ss.getD j Sl.nil).n = (ls.getD j []).length ∧ ((ss.getD j Sl.nil).p = none → (ss.getD j Sl.nil).n = 0)) (F : List UInt8) (hF : ls.flatten = F) (htot : F.length ≤ 90000) (hn : n ≤ 1000000) (s : List UInt8) (hs : Hid (sha512 F = s)) (r : List UInt8) (hr : Hid (sgR s = r))  : Meets Tryz.prog 105 [.slice p n c] [] (fun W => SeesP W p (ss.map Sl.v) ∧ ∀ j, j < n → SeesP W (ss.getD j Sl.nil).p (bytesV (ls.getD j []))) (fun v out => v = agg (bytesV r) ∧ out = []) := by
  have h := sign_residue p n c ss ls hss hls hsl F hF htot hn s hs
  rwa [show leb 32 (le s % L) = r from hr.out] at h

theorem take_sees {l : List UInt8} {n i : Nat} {v : Value} (h : (bytesV (l.take n))[i]? = some v) : (bytesV l)[i]? = some v := by
  rw [bytesV, List.map_take, List.getElem?_take] at h
  split at h
  · exact h
  · cases h

theorem sign_Sign (seed : List UInt8) (h32 : seed.length = 32) (sb : Sl) (bb : List UInt8) (hbn : bb.length ≤ 80000) (s s1 s2 : List UInt8) (hs : Hid (sha512 seed = s)) (hs1 : Hid (sha512 (s.drop 32 ++ bb) = s1)) (hs2 : Hid (sha512 (sgF s1 ++ (sgK s ++ bb)) = s2)) : Meets Tryz.prog 59 [agg (bytesV seed), sb.v] [] (fun W => BytesAt W sb bb) (fun v out => v = agg (bytesV (sgF s1 ++ sgS s s1 s2)) ∧ out = []) := by
 intro W hW
 have hs64 : s.length = 64 := by rw [← hs.out]; exact sha512_length seed
 have hexp := sign_expand seed h32 s hs
 obtain ⟨sc, hsc⟩ : ∃ sc, secB s = sc := ⟨_, rfl⟩
 rw [hsc] at hexp
 have hok : sc.ok := by rw [← hsc]; exact secB_ok hs64
 have hnum : clampB (s.take 32) = sc.fNumber := by rw [← hsc]; rfl
 have hrst : s.drop 32 = sc.fRest := by rw [← hsc]; rfl
 have hnl := hok.l_fNumber
 have hrl := hok.l_fRest
 obtain ⟨r1, hr1⟩ : ∃ r, Hid (sgR s1 = r) := ⟨_, ⟨rfl⟩⟩
 obtain ⟨r2, hr2⟩ : ∃ r, Hid (sgR s2 = r) := ⟨_, ⟨rfl⟩⟩
 have hr1l : r1.length = 32 := by rw [← hr1.out]; exact sgR_length s1
 have hr2l : r2.length = 32 := by rw [← hr2.out]; exact sgR_length s2
 have hm1 := sign_multiple sc.fNumber hnl
 have hm2 := sign_multiple r1 hr1l
 obtain ⟨K1, hK1⟩ : ∃ l, Hid (sgK s = l) := ⟨_, ⟨rfl⟩⟩
 obtain ⟨F1, hF1⟩ : ∃ l, Hid (sgF s1 = l) := ⟨_, ⟨rfl⟩⟩
 obtain ⟨S1, hS1⟩ : ∃ l, Hid (sgS s s1 s2 = l) := ⟨_, ⟨rfl⟩⟩
 have hF1l : F1.length = 32 := by rw [← hF1.out]; exact sgF_length s1
 have hK1l : K1.length = 32 := by rw [← hK1.out]; exact sgK_length s
 have hSl : S1.length = 32 := by rw [← hS1.out]; exact sgS_length s s1 s2
 rw [show pb (cv.mul (le sc.fNumber) bP) = K1 from by rw [← hK1.out, sgK, hnum]] at hm1
 rw [show pb (cv.mul (le r1) bP) = F1 from by rw [← hF1.out, sgF, hr1.out]] at hm2
 have hma := scalar_muladd r2 sc.fNumber r1 hr2l hnl hr1l
 rw [show leb 32 ((le r2 * le sc.fNumber + le r1) % L) = S1 from by rw [← hS1.out, sgS, hr1.out, hr2.out, hnum]] at hma
 rw [hF1.out, hS1.out]
 rw [hF1.out, hK1.out] at hs2
 rw [hrst] at hs1
 clear hsc hnum hrst
 refine calls_of (hp0 := []) Tryz.func59 J 39 Tryz.ntmps59 J (HRep.nil _) (Sat.seq (Sat.region (Tr.boxA J J ?_)))
 intro n2 hn2 hf2
 refine Tr.alloc (cs := (bytesV (List.replicate 64 0))) J Zr27 J ?_
 intro n4 hn4 hf4
 refine Tr.nil (at_n (Sat.seq (Sat.region (Tr.loadAll J J J Y23 J Sz23 Z1 (by (simp [h32]; done)) ?_))))
 refine Tr.callV J J J J Body104 (hexp) (fun _ _ => trivial) (Tr.alloc (cs := secrets.zero.cells) J secrets.zr J ?_)
 intro n5 hn5 hf5
 refine Tr.storeAll J J J J (secrets.isCell (by exact hok)) Sz114 (secrets.length (by exact hok)) Z0 (secrets.length (by exact secrets.zero_ok)) zU ?_
 refine Tr.nil (at_n (Sat.seq (Sat.region (Tr.fld J J J Tryz.underlying114 J Sz77 dE _ J (Tr.loadN (bytesV _) J J J Y77 J Sz77 Z0 (secrets.row_fNumber (by exact hok)) (secrets.rl_fNumber (by exact hok)) ?_)))))
 refine Tr.callV J J J J Body103 (hm1) (fun _ _ => trivial) (Tr.alloc (cs := (bytesV (List.replicate 32 0))) J Zr23 J ?_)
 intro n6 hn6 hf6
 refine Tr.storeAll J J J J zE Sz23 (by (simp [hK1l]; done)) Z0 sP zU ?_
 refine Tr.nil (at_n (Sat.seq (Sat.region (Tr.fld J J J Tryz.underlying114 J Sz23 dE _ J (Tr.sliceArr J J J Y23 Sz5 (Tr.move J J J (Tr.mkRow2 (z := .slice none 0 0) [.slice (some ⟨n5, 32, none⟩) 32 32, sb.v] [.slice (some ⟨n5, 32, none⟩) 32 32, sb.v] rfl J Y133 Sz39 Zr39 J J (by intro v hv; simp only [List.mem_cons, List.not_mem_nil, or_false] at hv; rcases hv with rfl | rfl <;> rfl) dE J ?_)))))))
 intro q19
 refine Tr.callV J J J J Body105 (sign_residueR (some ⟨q19, 0, none⟩) 2 2 [⟨some ⟨n5, 32, none⟩, 32, 32⟩, sb] [sc.fRest, bb] rfl J (fun j hj => (by
   rcases (show j = 0 ∨ j = 1 by omega) with rfl | rfl
   · exact ⟨by show 32 = List.length _; exact hrl.symm, fun e => by cases e⟩
   · exact ⟨by show sb.n = bb.length; exact hW.len.symm, fun e => by have h1 := hW.nil e; have h2 := hW.cap; show sb.n = 0; omega⟩)) (sc.fRest ++ bb) sP (by simp [hrl]; omega) dE s1 hs1 r1 hr1) (fun w h => ⟨SeesP.of (sees_own h Z0), (fun j hj => (by
   rcases (show j = 0 ∨ j = 1 by omega) with rfl | rfl
   · exact SeesP.of (by have h9 := sees_subC (sees_own h Z2) (secrets.see_fRest hok); exact h9)
   · exact seesP_ext h rfl hW.see))⟩) ?_
 refine Tr.alloc (cs := (bytesV (List.replicate 32 0))) J Zr77 J ?_
 intro n7 hn7 hf7
 refine Tr.storeAll J J J J zE Sz77 (by (simp [hr1l]; done)) Z0 sP zU ?_
 refine Tr.nil (at_n (Sat.seq (Sat.region (Tr.loadAll J J J Y77 J Sz77 Z0 (by (simp [hr1l]; done)) ?_))))
 refine Tr.callV J J J J Body103 (hm2) (fun _ _ => trivial) (Tr.alloc (cs := (bytesV (List.replicate 32 0))) J Zr23 J ?_)
 intro n8 hn8 hf8
 refine Tr.storeAll J J J J zE Sz23 (by (simp [hF1l]; done)) Z0 sP zU ?_
 refine Tr.nil (at_n (Sat.seq (Sat.draw [(0, 0), (0, 1), (0, 2), (0, 5), (1, 6), (1, 7), (2, 3), (3, 4), (3, 8), (2, 9), (4, 10)] Mixed zK (Tr.sliceArr J J J Y23 Sz5 (Tr.sliceArr J J J Y23 Sz5 (Tr.move J J J (Tr.fld J J J Tryz.underlying114 J Sz77 dE _ J (Tr.loadN (bytesV _) J J J Y77 J Sz77 Z4 (secrets.row_fNumber (by exact hok)) (secrets.rl_fNumber (by exact hok)) ?_))))))))
 refine Tr.loadAll J J J Y77 J Sz77 Z1 (by (simp [hr1l]; done)) ?_
 refine Tr.mkRow2 (z := .slice none 0 0) [.slice (some ⟨n8, 0, none⟩) 32 32, .slice (some ⟨n6, 0, none⟩) 32 32, sb.v] [.slice (some ⟨n8, 0, none⟩) 32 32, .slice (some ⟨n6, 0, none⟩) 32 32, sb.v] rfl J Y133 Sz39 Zr39 J J (by intro v hv; simp only [List.mem_cons, List.not_mem_nil, or_false] at hv; rcases hv with rfl | rfl | rfl <;> rfl) dE J ?_
 intro q26
 refine Tr.callV J J J J Body105 (sign_residueR (some ⟨q26, 0, none⟩) 3 3 [⟨some ⟨n8, 0, none⟩, 32, 32⟩, ⟨some ⟨n6, 0, none⟩, 32, 32⟩, sb] [F1, K1, bb] rfl J (fun j hj => (by
   rcases (show j = 0 ∨ j = 1 ∨ j = 2 by omega) with rfl | rfl | rfl
   · exact ⟨by show 32 = List.length _; exact hF1l.symm, fun e => by cases e⟩
   · exact ⟨by show 32 = List.length _; exact hK1l.symm, fun e => by cases e⟩
   · exact ⟨by show sb.n = bb.length; exact hW.len.symm, fun e => by have h1 := hW.nil e; have h2 := hW.cap; show sb.n = 0; omega⟩)) (F1 ++ (K1 ++ bb)) sP (by simp [hF1l, hK1l]; omega) dE s2 hs2 r2 hr2) (fun w h => ⟨SeesP.of (sees_own h Z0), (fun j hj => (by
   rcases (show j = 0 ∨ j = 1 ∨ j = 2 by omega) with rfl | rfl | rfl
   · exact SeesP.of (sees_own (cs := bytesV F1) h Z1)
   · exact SeesP.of (sees_own (cs := bytesV K1) h Z4)
   · exact seesP_ext h rfl hW.see))⟩) ?_
 refine Tr.callV J J J J Body106 (hma) (fun _ _ => trivial) (Tr.alloc (cs := (bytesV (List.replicate 32 0))) J Zr77 J ?_)
 intro n9 hn9 hf9
 refine Tr.storeAll J J J J zE Sz77 (by (simp [hSl]; done)) Z0 sP zU ?_
 refine Tr.nil (at_n (Sat.seq (Sat.region (Tr.alloc (cs := (bytesV (List.replicate 64 0))) J Zr27 J ?_))))
 intro n10 hn10 hf10
 refine Tr.nil (at_n (Sat.seq (Sat.draw [(0, 0), (0, 1), (4, 2)] Mixed zK (Tr.sliceArrHi 32 J J J J J dE dE Y27 Sz5 (Tr.sliceArr J J J Y23 Sz5 (Tr.copyP (bytesV F1) 32 J J J J J Y39 Sz5 (fun w h => SeesP.of (sees_own h Z3)) (fun e => by cases e) (by rw [bytesV, List.length_map]; exact hF1l) J (by rw [bytesV, ← List.map_take, List.take_of_length_le (Nat.le_of_eq hF1l)]) (bytesV_cell _) Z0 sP (by exact upd_first hF1l) zU ?_))))))
 refine Tr.nil (at_n (Sat.seq (Sat.draw [(0, 0), (0, 1), (4, 2)] Mixed zK (Tr.sliceArrLo 32 J J J J J dE Y27 Sz5 (Tr.sliceArr J J J Y77 Sz5 (Tr.copyP (bytesV S1) 32 J J J J J Y39 Sz5 (fun w h => SeesP.of (sees_own h Z1)) (fun e => by cases e) (by rw [bytesV, List.length_map]; exact hSl) J (by rw [bytesV, ← List.map_take, List.take_of_length_le (Nat.le_of_eq hSl)]) (bytesV_cell _) Z0 (by (simp; omega)) (by exact upd_last hF1l hSl) zU ?_))))))
 refine Tr.nil (at_n (Sat.seq (Sat.region (Tr.loadAll J J J Y27 J Sz27 Z0 (by (simp [hF1l, hSl]; done)) ?_))))
 refine Tr.storeAll J J J J zE Sz27 (by (simp [hF1l, hSl]; done)) (by (repeat (first | exact List.mem_cons_self | refine List.mem_cons_of_mem _ ?_))) sP (by (repeat (first | exact upd0 | apply Upd.tail))) ?_
 refine Tr.nil (at_n (Sat.ret (en_r ?_)))
 refine ⟨_, [], res_cell J J Y27 J Sz27 (by (repeat (first | exact List.mem_cons_self | refine List.mem_cons_of_mem _ ?_))) (by simp [hF1l, hSl]), sP, sP, ?_, rfl⟩
 rfl

theorem curve_Read_none (b : List UInt8) (hb : b.length = 32) (h : rdP b = none) : Meets Tryz.prog 108 [agg (bytesV b)] [] (fun _ => True) (fun v out => v = .tuple #[agg Point.zero.cells, i64 4] ∧ out = []) := by
  have := curve_Read b hb
  rwa [rdV_none h] at this
theorem curve_Read_some (b : List UInt8) (P : Pt Fp) (hb : b.length = 32) (h : rdP b = some P) : Meets Tryz.prog 108 [agg (bytesV b)] [] (fun _ => True) (fun v out => v = .tuple #[agg (ptc P).cells, i64 0] ∧ out = []) := by
  have := curve_Read b hb
  rwa [rdV_some h] at this
open Classical in
noncomputable def goodB (k bb sg : List UInt8) : Bool := decide (le (sg.drop 32) < L ∧ ∃ A R, rdP k = some A ∧ rdP (sg.take 32) = some R ∧ cv.lin (le (sg.drop 32)) (le (sgR (sha512 (sg.take 32 ++ (k ++ bb))))) bP (neg A) = R)
theorem good_dec {k bb sg : List UInt8} {A R Q : Pt Fp} (h1 : le (sg.drop 32) < L) (h2 : rdP k = some A) (h3 : rdP (sg.take 32) = some R) (h4 : cv.lin (le (sg.drop 32)) (le (sgR (sha512 (sg.take 32 ++ (k ++ bb))))) bP (neg A) = Q) : @decide (ptc Q = ptc R) (Classical.propDecidable _) = goodB k bb sg := by
  rw [goodB, Bool.eq_iff_iff]
  simp only [decide_eq_true_eq, ptc_inj]
  constructor
  · intro h
    exact ⟨h1, A, R, h2, h3, h4.trans h⟩
  · rintro ⟨_, A', R', e1, e2, e3⟩
    rw [h2] at e1; rw [h3] at e2
    cases e1; cases e2
    exact h4.symm.trans e3
theorem good_no {k bb sg : List UInt8} (h : ¬ (le (sg.drop 32) < L ∧ (∃ A, rdP k = some A) ∧ ∃ R, rdP (sg.take 32) = some R)) : goodB k bb sg = false := by
  rw [goodB, decide_eq_false_iff_not]
  intro e
  refine h ?_
  obtain ⟨h1, A, R, h2, h3, _⟩ := e
  exact ⟨h1, ⟨A, h2⟩, ⟨R, h3⟩⟩

theorem sign_Good_c (k : List UInt8) (hk : k.length = 32) (sb : Sl) (bb : List UInt8) (hbn : bb.length ≤ 80000) (sg : List UInt8) (hsg : sg.length = 64) (hc : ¬ le (sg.drop 32) < L) : Meets Tryz.prog 60 [agg (bytesV k), sb.v, agg (bytesV sg)] [] (fun W => BytesAt W sb bb) (fun v out => v = .bool false ∧ out = []) := by
 intro W hW
 have hd32 : (sg.drop 32).length = 32 := by rw [List.length_drop, hsg]
 have ht32 : (sg.take 32).length = 32 := by rw [List.length_take, hsg]; rfl
 refine calls_of (hp0 := []) Tryz.func60 J 45 Tryz.ntmps60 J (HRep.nil _) (Sat.seq (Sat.region (Tr.boxA J J ?_)))
 intro n3 hn3 hf3
 refine Tr.boxA J J ?_
 intro n5 hn5 hf5
 refine Tr.assign J J J (Tr.nil (at_n (Sat.seq (Sat.region (Tr.sliceArrLo 32 J J J J J dE Y27 Sz5 (Tr.s2a J J J Y77 oM (Tr.loadN (bytesV (sg.drop 32)) J J J Y77 J Sz77 Z0 (by show ((sg.map u8).drop 32).take 32 = _; rw [← List.map_drop, ← List.map_take, d64 hsg]) (by rw [List.length_map]; exact hd32) ?_)))))))
 refine Tr.alloc (cs := (bytesV (List.replicate 32 0))) J Zr77 J ?_
 intro n7 hn7 hf7
 refine Tr.storeAll J J J J zE Sz77 (by (simp [hsg]; done)) Z0 sP zU ?_
 refine Tr.nil (at_n (Sat.seq (Sat.seq (Sat.region (Tr.loadAll J J J Y77 J Sz77 Z0 (by (simp [hsg]; done)) ?_)))))
 refine Tr.callV J J J J Body107 (scalar_canon (sg.drop 32) hd32) (fun _ _ => trivial) (Tr.not J J J (Tr.nil (at_n (Sat.cond_t J (by rw [decide_eq_false hc]; rfl) ?_))))
 refine Sat.seq (Sat.region (Tr.assign J J J (Tr.nil (at_n (Sat.ret (at_r (en_r ?_)))))))
 refine ⟨_, [], res_tmp J J, sP, sP, ?_, rfl⟩
 rfl

theorem sign_Good_k (k : List UInt8) (hk : k.length = 32) (sb : Sl) (bb : List UInt8) (hbn : bb.length ≤ 80000) (sg : List UInt8) (hsg : sg.length = 64) (hc : le (sg.drop 32) < L) (h1 : rdP k = none) : Meets Tryz.prog 60 [agg (bytesV k), sb.v, agg (bytesV sg)] [] (fun W => BytesAt W sb bb) (fun v out => v = .bool false ∧ out = []) := by
 intro W hW
 have hd32 : (sg.drop 32).length = 32 := by rw [List.length_drop, hsg]
 have ht32 : (sg.take 32).length = 32 := by rw [List.length_take, hsg]; rfl
 refine calls_of (hp0 := []) Tryz.func60 J 45 Tryz.ntmps60 J (HRep.nil _) (Sat.seq (Sat.region (Tr.boxA J J ?_)))
 intro n3 hn3 hf3
 refine Tr.boxA J J ?_
 intro n5 hn5 hf5
 refine Tr.assign J J J (Tr.nil (at_n (Sat.seq (Sat.region (Tr.sliceArrLo 32 J J J J J dE Y27 Sz5 (Tr.s2a J J J Y77 oM (Tr.loadN (bytesV (sg.drop 32)) J J J Y77 J Sz77 Z0 (by show ((sg.map u8).drop 32).take 32 = _; rw [← List.map_drop, ← List.map_take, d64 hsg]) (by rw [List.length_map]; exact hd32) ?_)))))))
 refine Tr.alloc (cs := (bytesV (List.replicate 32 0))) J Zr77 J ?_
 intro n7 hn7 hf7
 refine Tr.storeAll J J J J zE Sz77 (by (simp [hsg]; done)) Z0 sP zU ?_
 refine Tr.nil (at_n (Sat.seq (Sat.seq (Sat.region (Tr.loadAll J J J Y77 J Sz77 Z0 (by (simp [hsg]; done)) ?_)))))
 refine Tr.callV J J J J Body107 (scalar_canon (sg.drop 32) hd32) (fun _ _ => trivial) (Tr.not J J J (Tr.nil (at_n (Sat.cond_f J (by rw [decide_eq_true hc]; rfl) ?_))))
 refine Sat.skip (at_n (Sat.seq (Sat.region (Tr.loadAll J J J Y25 J Sz25 Z2 (by (simp [hk]; done)) ?_))))
 refine Tr.callV J J J J Body108 (curve_Read_none k hk h1) (fun _ _ => trivial) (Tr.move J J J (Tr.extract J J J J (Tr.extract J J J J (Tr.alloc (cs := Point.zero.cells) J Point.zr J ?_))))
 intro n8 hn8 hf8
 refine Tr.storeAll J J J J (Point.isCell zZ) Sz79 (Point.length zZ) Z0 (Point.length zZ) zU ?_
 refine Tr.assign J J J (Tr.nil (at_n (Sat.seq (Sat.seq (Sat.region (Tr.move J J J (Tr.nei J J J J (show (!decide _) = true from congrArg not (decide_eq_false dE)) (Tr.nil (at_n (Sat.cond_t J (rfl) (Sat.seq (Sat.region (Tr.assign J J J (Tr.nil (at_n (Sat.ret (at_r (en_r ?_))))))))))))))))))
 refine ⟨_, [], res_tmp J J, sP, sP, ?_, rfl⟩
 rfl

theorem sign_Good_r (k : List UInt8) (hk : k.length = 32) (sb : Sl) (bb : List UInt8) (hbn : bb.length ≤ 80000) (sg : List UInt8) (hsg : sg.length = 64) (hc : le (sg.drop 32) < L) (A : Pt Fp) (h1 : rdP k = some A) (h2 : rdP (sg.take 32) = none) : Meets Tryz.prog 60 [agg (bytesV k), sb.v, agg (bytesV sg)] [] (fun W => BytesAt W sb bb) (fun v out => v = .bool false ∧ out = []) := by
 intro W hW
 have hd32 : (sg.drop 32).length = 32 := by rw [List.length_drop, hsg]
 have ht32 : (sg.take 32).length = 32 := by rw [List.length_take, hsg]; rfl
 refine calls_of (hp0 := []) Tryz.func60 J 45 Tryz.ntmps60 J (HRep.nil _) (Sat.seq (Sat.region (Tr.boxA J J ?_)))
 intro n3 hn3 hf3
 refine Tr.boxA J J ?_
 intro n5 hn5 hf5
 refine Tr.assign J J J (Tr.nil (at_n (Sat.seq (Sat.region (Tr.sliceArrLo 32 J J J J J dE Y27 Sz5 (Tr.s2a J J J Y77 oM (Tr.loadN (bytesV (sg.drop 32)) J J J Y77 J Sz77 Z0 (by show ((sg.map u8).drop 32).take 32 = _; rw [← List.map_drop, ← List.map_take, d64 hsg]) (by rw [List.length_map]; exact hd32) ?_)))))))
 refine Tr.alloc (cs := (bytesV (List.replicate 32 0))) J Zr77 J ?_
 intro n7 hn7 hf7
 refine Tr.storeAll J J J J zE Sz77 (by (simp [hsg]; done)) Z0 sP zU ?_
 refine Tr.nil (at_n (Sat.seq (Sat.seq (Sat.region (Tr.loadAll J J J Y77 J Sz77 Z0 (by (simp [hsg]; done)) ?_)))))
 refine Tr.callV J J J J Body107 (scalar_canon (sg.drop 32) hd32) (fun _ _ => trivial) (Tr.not J J J (Tr.nil (at_n (Sat.cond_f J (by rw [decide_eq_true hc]; rfl) ?_))))
 refine Sat.skip (at_n (Sat.seq (Sat.region (Tr.loadAll J J J Y25 J Sz25 Z2 (by (simp [hk]; done)) ?_))))
 refine Tr.callV J J J J Body108 (curve_Read_some k A hk h1) (fun _ _ => trivial) (Tr.move J J J (Tr.extract J J J J (Tr.extract J J J J (Tr.alloc (cs := Point.zero.cells) J Point.zr J ?_))))
 intro n8 hn8 hf8
 refine Tr.storeAll J J J J (Point.isCell zP) Sz79 (Point.length zP) Z0 (Point.length zZ) zU ?_
 refine Tr.assign J J J (Tr.nil (at_n (Sat.seq (Sat.seq (Sat.region (Tr.move J J J (Tr.nei J J J J (show (!decide _) = false from congrArg not (decide_eq_true (rfl))) (Tr.nil (at_n (Sat.cond_f J (rfl) (Sat.skip (at_n (Sat.seq (Sat.region (Tr.sliceArrHi 32 J J J J J dE dE Y27 Sz5 (Tr.s2a J J J Y23 oM (Tr.loadN (bytesV (sg.take 32)) J J J Y23 J Sz23 Z2 (by rw [List.drop_zero, ← List.map_take]) (by rw [List.length_map]; exact ht32) ?_)))))))))))))))))
 refine Tr.callV J J J J Body108 (curve_Read_none (sg.take 32) ht32 h2) (fun _ _ => trivial) (Tr.move J J J (Tr.extract J J J J (Tr.extract J J J J (Tr.alloc (cs := Point.zero.cells) J Point.zr J ?_))))
 intro n10 hn10 hf10
 refine Tr.storeAll J J J J (Point.isCell zZ) Sz79 (Point.length zZ) Z0 (Point.length zZ) zU ?_
 refine Tr.assign J J J (Tr.nil (at_n (Sat.seq (Sat.seq (Sat.region (Tr.move J J J (Tr.nei J J J J (show (!decide _) = true from congrArg not (decide_eq_false dE)) (Tr.nil (at_n (Sat.cond_t J (rfl) (Sat.seq (Sat.region (Tr.assign J J J (Tr.nil (at_n (Sat.ret (at_r (en_r ?_))))))))))))))))))
 refine ⟨_, [], res_tmp J J, sP, sP, ?_, rfl⟩
 rfl

theorem sign_Good_ok (k : List UInt8) (hk : k.length = 32) (sb : Sl) (bb : List UInt8) (hbn : bb.length ≤ 80000) (sg : List UInt8) (hsg : sg.length = 64) (hc : le (sg.drop 32) < L) (A R : Pt Fp) (h1 : rdP k = some A) (h2 : rdP (sg.take 32) = some R) (s r : List UInt8) (hs : Hid (sha512 (sg.take 32 ++ (k ++ bb)) = s)) (hr : Hid (sgR s = r)) (hrl : r.length = 32) : Meets Tryz.prog 60 [agg (bytesV k), sb.v, agg (bytesV sg)] [] (fun W => BytesAt W sb bb) (fun v out => v = .bool (goodB k bb sg) ∧ out = []) := by
 intro W hW
 have hd32 : (sg.drop 32).length = 32 := by rw [List.length_drop, hsg]
 have ht32 : (sg.take 32).length = 32 := by rw [List.length_take, hsg]; rfl
 have hA := rdP_on h1
 obtain ⟨Q, hQ⟩ : ∃ Q, cv.lin (le (sg.drop 32)) (le (sgR (sha512 (sg.take 32 ++ (k ++ bb))))) bP (neg A) = Q := ⟨_, rfl⟩
 have hmul := curve_Mul2 (sg.drop 32) r bP (neg A) hd32 hrl bP_on (cv.on_neg hA)
 rw [show cv.lin (le (sg.drop 32)) (le r) bP (neg A) = Q from by rw [← hr.out, ← hs.out]; exact hQ] at hmul
 refine calls_of (hp0 := []) Tryz.func60 J 45 Tryz.ntmps60 J (HRep.nil _) (Sat.seq (Sat.region (Tr.boxA J J ?_)))
 intro n3 hn3 hf3
 refine Tr.boxA J J ?_
 intro n5 hn5 hf5
 refine Tr.assign J J J (Tr.nil (at_n (Sat.seq (Sat.region (Tr.sliceArrLo 32 J J J J J dE Y27 Sz5 (Tr.s2a J J J Y77 oM (Tr.loadN (bytesV (sg.drop 32)) J J J Y77 J Sz77 Z0 (by show ((sg.map u8).drop 32).take 32 = _; rw [← List.map_drop, ← List.map_take, d64 hsg]) (by rw [List.length_map]; exact hd32) ?_)))))))
 refine Tr.alloc (cs := (bytesV (List.replicate 32 0))) J Zr77 J ?_
 intro n7 hn7 hf7
 refine Tr.storeAll J J J J zE Sz77 (by (simp [hsg]; done)) Z0 sP zU ?_
 refine Tr.nil (at_n (Sat.seq (Sat.seq (Sat.region (Tr.loadAll J J J Y77 J Sz77 Z0 (by (simp [hsg]; done)) ?_)))))
 refine Tr.callV J J J J Body107 (scalar_canon (sg.drop 32) hd32) (fun _ _ => trivial) (Tr.not J J J (Tr.nil (at_n (Sat.cond_f J (by rw [decide_eq_true hc]; rfl) ?_))))
 refine Sat.skip (at_n (Sat.seq (Sat.region (Tr.loadAll J J J Y25 J Sz25 Z2 (by (simp [hk]; done)) ?_))))
 refine Tr.callV J J J J Body108 (curve_Read_some k A hk h1) (fun _ _ => trivial) (Tr.move J J J (Tr.extract J J J J (Tr.extract J J J J (Tr.alloc (cs := Point.zero.cells) J Point.zr J ?_))))
 intro n8 hn8 hf8
 refine Tr.storeAll J J J J (Point.isCell zP) Sz79 (Point.length zP) Z0 (Point.length zZ) zU ?_
 refine Tr.assign J J J (Tr.nil (at_n (Sat.seq (Sat.seq (Sat.region (Tr.move J J J (Tr.nei J J J J (show (!decide _) = false from congrArg not (decide_eq_true (rfl))) (Tr.nil (at_n (Sat.cond_f J (rfl) (Sat.skip (at_n (Sat.seq (Sat.region (Tr.sliceArrHi 32 J J J J J dE dE Y27 Sz5 (Tr.s2a J J J Y23 oM (Tr.loadN (bytesV (sg.take 32)) J J J Y23 J Sz23 Z2 (by rw [List.drop_zero, ← List.map_take]) (by rw [List.length_map]; exact ht32) ?_)))))))))))))))))
 refine Tr.callV J J J J Body108 (curve_Read_some (sg.take 32) R ht32 h2) (fun _ _ => trivial) (Tr.move J J J (Tr.extract J J J J (Tr.extract J J J J (Tr.alloc (cs := Point.zero.cells) J Point.zr J ?_))))
 intro n10 hn10 hf10
 refine Tr.storeAll J J J J (Point.isCell zP) Sz79 (Point.length zP) Z0 (Point.length zZ) zU ?_
 refine Tr.assign J J J (Tr.nil (at_n (Sat.seq (Sat.seq (Sat.region (Tr.move J J J (Tr.nei J J J J (show (!decide _) = false from congrArg not (decide_eq_true (rfl))) (Tr.nil (at_n (Sat.cond_f J (rfl) (Sat.skip (at_n (Sat.seq (Sat.draw [(1, 0), (0, 2), (0, 3), (0, 4), (1, 7), (1, 10), (3, 1), (2, 5), (3, 6), (3, 8), (3, 9), (0, 11), (0, 12)] Mixed zK (Tr.loadAll J J J Y77 J Sz77 Z2 (by (simp [hsg]; done)) ?_)))))))))))))))
 refine Tr.sliceArrHi 32 J J J J J dE dE Y27 Sz5 (Tr.sliceArr J J J Y25 Sz5 (Tr.move J J J (Tr.loadAll J J J Y79 J Sz79 Z1 (Point.length zP) ?_)))
 refine Tr.loadAll J J J Y79 J Sz79 Z0 (Point.length zP) ?_
 refine Tr.callV J J J J Body110 (curve_Base) (fun _ _ => trivial) (Tr.mkRow2 (z := .slice none 0 0) [.slice (some ⟨n5, 0, none⟩) 32 64, .slice (some ⟨n3, 0, none⟩) 32 32, sb.v] [.slice (some ⟨n5, 0, none⟩) 32 64, .slice (some ⟨n3, 0, none⟩) 32 32, sb.v] rfl J Y133 Sz39 Zr39 J J (by intro v hv; simp only [List.mem_cons, List.not_mem_nil, or_false] at hv; rcases hv with rfl | rfl | rfl <;> rfl) dE J ?_)
 intro q38
 refine Tr.callV J J J J Body105 (sign_residueR (some ⟨q38, 0, none⟩) 3 3 [⟨some ⟨n5, 0, none⟩, 32, 64⟩, ⟨some ⟨n3, 0, none⟩, 32, 32⟩, sb] [sg.take 32, k, bb] rfl J (fun j hj => (by
   rcases (show j = 0 ∨ j = 1 ∨ j = 2 by omega) with rfl | rfl | rfl
   · exact ⟨by show 32 = List.length _; exact ht32.symm, fun e => by cases e⟩
   · exact ⟨by show 32 = List.length _; exact hk.symm, fun e => by cases e⟩
   · exact ⟨by show sb.n = bb.length; exact hW.len.symm, fun e => by have h1 := hW.nil e; have h2 := hW.cap; show sb.n = 0; omega⟩)) (sg.take 32 ++ (k ++ bb)) sP (by simp [hsg, hk]; omega) dE s hs r hr) (fun w h => ⟨SeesP.of (sees_own h Z0), (fun j hj => (by
   rcases (show j = 0 ∨ j = 1 ∨ j = 2 by omega) with rfl | rfl | rfl
   · exact SeesP.of (by have h9 := sees_own (cs := bytesV sg) h Z4; exact fun i v hv => h9 i v (take_sees hv))
   · exact SeesP.of (sees_own (cs := bytesV k) h (by exact mem5))
   · exact seesP_ext h rfl hW.see))⟩) ?_
 refine Tr.callV J J J J Body111 (curve_Neg A hA) (fun _ _ => trivial) (Tr.callV J J J J Body109 (hmul) (fun _ _ => trivial) (Tr.eql_rec J J J J Point.eg (fun w => Point.eq_runC (ptc_ok _) (ptc_ok _) w) (good_dec hc h1 h2 hQ) (Tr.assign J J J (Tr.nil (at_n (Sat.ret (en_r ?_)))))))
 refine ⟨_, [], res_tmp J J, sP, sP, ?_, rfl⟩
 rfl

theorem sign_Good (k : List UInt8) (hk : k.length = 32) (sb : Sl) (bb : List UInt8) (hbn : bb.length ≤ 80000) (sg : List UInt8) (hsg : sg.length = 64) : Meets Tryz.prog 60 [agg (bytesV k), sb.v, agg (bytesV sg)] [] (fun W => BytesAt W sb bb) (fun v out => v = .bool (goodB k bb sg) ∧ out = []) := by
  by_cases hc : le (sg.drop 32) < L
  · cases h1 : rdP k with
    | none =>
      rw [good_no (fun e => by obtain ⟨_, ⟨A, h⟩, _⟩ := e; rw [h1] at h; cases h)]
      exact sign_Good_k k hk sb bb hbn sg hsg hc h1
    | some A =>
      cases h2 : rdP (sg.take 32) with
      | none =>
        rw [good_no (fun e => by obtain ⟨_, _, ⟨R, h⟩⟩ := e; rw [h2] at h; cases h)]
        exact sign_Good_r k hk sb bb hbn sg hsg hc A h1 h2
      | some R => exact sign_Good_ok k hk sb bb hbn sg hsg hc A R h1 h2 _ _ ⟨rfl⟩ ⟨rfl⟩ (sgR_length _)
  · rw [good_no (fun e => hc e.1)]
    exact sign_Good_c k hk sb bb hbn sg hsg hc
end Go.Proofs.YtpacobmjjjillaaGreat
end

section
namespace Hw
open Go
set_option linter.unusedSimpArgs false
set_option linter.unusedVariables false
set_option maxRecDepth 100000

/-- the low k bytes of a number, and zeros up to N -/
def padW (N n k : Nat) : List UInt8 := leb k n ++ List.replicate (N - k) 0
theorem padW_length (N n k : Nat) (h : k ≤ N) : (padW N n k).length = N := by simp [padW, leb_length]; omega
theorem padW_zero (N n : Nat) : padW N n 0 = List.replicate N 0 := by simp [padW, leb]
theorem padW_all (N n : Nat) : padW N n N = leb N n := by simp [padW]
theorem leb_getD (k n i : Nat) (h : i < k) : (leb k n).getD i 0 = UInt8.ofNat (n / 256 ^ i) := by
  rw [List.getD_eq_getElem?_getD, leb_get k n i h]; rfl
theorem ofNat8 {m n : Nat} (h : m % 256 = n % 256) : UInt8.ofNat m = UInt8.ofNat n := by
  apply UInt8.toNat_inj.1
  rw [UInt8.toNat_ofNat', UInt8.toNat_ofNat']; exact h
theorem byte_low (A m k i : Nat) (h : i < k) : (A + 256 ^ k * m) / 256 ^ i % 256 = A / 256 ^ i % 256 := by
  have e : 256 ^ k * m = 256 ^ i * (256 * (256 ^ (k - i - 1) * m)) := by
    rw [← Nat.mul_assoc, ← Nat.mul_assoc, ← Nat.pow_succ, ← Nat.pow_add]
    congr 2; omega
  rw [e, Nat.add_mul_div_left _ _ (Nat.pow_pos dE), Nat.add_mul_mod_self_left]
theorem leb_low (A m k : Nat) : leb k (A + 256 ^ k * m) = leb k A := by
  apply List.ext_getElem?
  intro i
  rcases Nat.lt_or_ge i k with h | h
  · rw [leb_get _ _ i h, leb_get _ _ i h]
    congr 1
    exact ofNat8 (byte_low A m k i h)
  · rw [List.getElem?_eq_none (by rw [leb_length]; exact h), List.getElem?_eq_none (by rw [leb_length]; exact h)]
theorem leb_succ' (k n : Nat) : leb (k + 1) n = leb k n ++ [UInt8.ofNat (n / 256 ^ k)] := by
  apply List.ext_getElem?
  intro i
  rcases Nat.lt_trichotomy i k with h | h | h
  · rw [leb_get _ _ i oM, List.getElem?_append_left (by rw [leb_length]; exact h), leb_get _ _ i h]
  · subst h
    rw [leb_get _ _ i oM, List.getElem?_append_right (by rw [leb_length]; omega), leb_length, Nat.sub_self]; rfl
  · rw [List.getElem?_eq_none (by rw [leb_length]; omega), List.getElem?_eq_none (by simp [leb_length]; omega)]
theorem byteOf_mod (s : Int) : byteOf (s % 256) = byteOf s := by simp [byteOf]
theorem byteOf_nat (n : Nat) : byteOf (n : Int) = UInt8.ofNat n := by
  apply ofNat8
  omega
theorem set_end {α : Type} (l : List α) (x y : α) (r : List α) (k : Nat) (h : l.length = k) : (l ++ x :: r).set k y = l ++ [y] ++ r := by
  subst h; simp
/-- one byte of a sum with a carry -/
theorem padW_step (N A m k : Nat) (hk : k < N) (s : Int) (hs : s = ((A / 256 ^ k + m : Nat) : Int)) :
    (padW N A k).set k (byteOf s) = padW N (A + 256 ^ k * m) (k + 1) := by
  subst hs
  have e : List.replicate (N - k) (0 : UInt8) = 0 :: List.replicate (N - (k + 1)) 0 := by
    rw [show N - k = (N - (k + 1)) + 1 by omega]; rfl
  rw [padW, e, set_end _ _ _ _ _ (leb_length k A), padW, leb_succ', leb_low, Nat.add_mul_div_left _ _ (Nat.pow_pos dE), byteOf_nat]
theorem carry_step (A m k : Nat) (s : Int) (hs : s = ((A / 256 ^ k + m : Nat) : Int)) : s / 256 = (((A + 256 ^ k * m) / 256 ^ (k + 1) : Nat) : Int) := by
  subst hs
  rw [Nat.pow_succ, ← Nat.div_div_eq_div_mul, Nat.add_mul_div_left _ _ (Nat.pow_pos dE)]
  omega
/-- the order of numbers is that of their highest differing bytes -/
theorem le_lt_at {a b : List UInt8} {i : Nat} (ha : a.length = 32) (hb : b.length = 32) (hi : i < 32) (hd : a.drop (i + 1) = b.drop (i + 1)) (hne : (a.getD i 0).toNat ≠ (b.getD i 0).toNat) :
    ((a.getD i 0).toNat < (b.getD i 0).toNat) ↔ le a < le b := by
  have h1 := le_take_drop a (i + 1) oM
  have h2 := le_take_drop b (i + 1) oM
  rw [le_take_succ a i oM] at h1
  rw [le_take_succ b i oM, ← hd] at h2
  have l1 := le_take_lt a i
  have l2 := le_take_lt b i
  generalize 256 ^ (i + 1) * le (a.drop (i + 1)) = X at h1 h2
  generalize hP : 256 ^ i = P at h1 h2 l1 l2
  generalize (a.getD i 0).toNat = x at *
  generalize (b.getD i 0).toNat = y at *
  rw [h1, h2]
  constructor
  · intro h
    have : P * (x + 1) ≤ P * y := Nat.mul_le_mul_left _ h
    rw [Nat.mul_add, Nat.mul_one] at this
    omega
  · intro h
    apply Nat.lt_of_not_le
    intro h'
    have : P * (y + 1) ≤ P * x := Nat.mul_le_mul_left _ oM
    rw [Nat.mul_add, Nat.mul_one] at this
    omega
theorem drop_step {a b : List UInt8} {i : Nat} (ha : a.length = 32) (hb : b.length = 32) (hi : i < 32) (hd : a.drop (i + 1) = b.drop (i + 1)) (he : (a.getD i 0).toNat = (b.getD i 0).toNat) : a.drop i = b.drop i := by
  rw [List.drop_eq_getElem_cons oM, List.drop_eq_getElem_cons (l := b) oM, hd]
  congr 1
  have := UInt8.toNat_inj.1 he
  rw [List.getD_eq_getElem?_getD, List.getD_eq_getElem?_getD, List.getElem?_eq_getElem oM, List.getElem?_eq_getElem oM] at this
  exact this

/-- the borrow of (D + m) - m below byte k -/
def bor (D m k : Nat) : Nat := (D % 256 ^ k + m % 256 ^ k) / 256 ^ k
theorem bor_zero (D m : Nat) : bor D m 0 = 0 := by simp [bor, Nat.mod_one]
theorem mod_succ256 (n k : Nat) : n % 256 ^ (k + 1) = n % 256 ^ k + 256 ^ k * (n / 256 ^ k % 256) := by
  rw [Nat.pow_succ, Nat.mod_mul]
theorem bor_step (D m k : Nat) : bor D m (k + 1) = (D / 256 ^ k % 256 + m / 256 ^ k % 256 + bor D m k) / 256 := by
  unfold bor
  rw [mod_succ256, mod_succ256, Nat.pow_succ, ← Nat.div_div_eq_div_mul]
  have e : D % 256 ^ k + 256 ^ k * (D / 256 ^ k % 256) + (m % 256 ^ k + 256 ^ k * (m / 256 ^ k % 256)) = (D % 256 ^ k + m % 256 ^ k) + 256 ^ k * (D / 256 ^ k % 256 + m / 256 ^ k % 256) := by
    rw [Nat.mul_add]; omega
  rw [e, Nat.add_mul_div_left _ _ (Nat.pow_pos dE), Nat.add_comm (_ / _)]
theorem bor_le (D m k : Nat) : bor D m k ≤ 1 := by
  unfold bor
  have h1 : D % 256 ^ k < 256 ^ k := Nat.mod_lt _ (Nat.pow_pos dE)
  have h2 : m % 256 ^ k < 256 ^ k := Nat.mod_lt _ (Nat.pow_pos dE)
  rw [← Nat.lt_succ_iff, Nat.div_lt_iff_lt_mul (Nat.pow_pos dE)]
  omega
theorem sum_byte (D m k : Nat) : (D + m) / 256 ^ k % 256 = (D / 256 ^ k % 256 + m / 256 ^ k % 256 + bor D m k) % 256 := by
  have e : D + m = (D % 256 ^ k + m % 256 ^ k) + 256 ^ k * (D / 256 ^ k + m / 256 ^ k) := by
    have h1 := Nat.mod_add_div D (256 ^ k)
    have h2 := Nat.mod_add_div m (256 ^ k)
    rw [Nat.mul_add]; omega
  rw [e, Nat.add_mul_div_left _ _ (Nat.pow_pos dE)]
  change (bor D m k + _) % 256 = _
  omega
/-- a difference, its low k bytes done -/
def subB (D m k : Nat) : List UInt8 := leb k D ++ (leb 32 (D + m)).drop k
theorem subB_length (D m k : Nat) (h : k ≤ 32) : (subB D m k).length = 32 := by simp [subB, leb_length]; omega
theorem subB_zero (D m : Nat) : subB D m 0 = leb 32 (D + m) := by simp [subB, leb]
theorem subB_all (D m : Nat) : subB D m 32 = leb 32 D := by simp [subB, leb_length]
theorem subB_get (D m k : Nat) (h : k < 32) : (subB D m k).getD k 0 = UInt8.ofNat ((D + m) / 256 ^ k) := by
  rw [List.getD_eq_getElem?_getD, subB, List.getElem?_append_right (by rw [leb_length]; omega), leb_length, Nat.sub_self, List.getElem?_drop, Nat.add_zero, leb_get _ _ _ h]; rfl
theorem subB_step (D m k : Nat) (h : k < 32) (d : Int) (hd : d = (((D + m) / 256 ^ k % 256 : Nat) : Int) - ((m / 256 ^ k % 256 : Nat) : Int) + -((bor D m k : Nat) : Int)) :
    (subB D m k).set k (byteOf (d + 256)) = subB D m (k + 1) := by
  have e : (leb 32 (D + m)).drop k = UInt8.ofNat ((D + m) / 256 ^ k) :: (leb 32 (D + m)).drop (k + 1) := by
    rw [List.drop_eq_getElem_cons (by rw [leb_length]; omega)]
    congr 1
    have := leb_get 32 (D + m) k h
    rw [List.getElem?_eq_getElem (by rw [leb_length]; omega)] at this
    exact Option.some.inj this
  rw [subB, e, set_end _ _ _ _ _ (leb_length k D), subB, leb_succ' k D]
  congr 2
  have hb := sum_byte D m k
  have hle := bor_le D m k
  generalize bor D m k = c at *
  generalize (D + m) / 256 ^ k % 256 = x at *
  have hm : m / 256 ^ k % 256 < 256 := Nat.mod_lt _ dE
  generalize m / 256 ^ k % 256 = y at *
  rw [show UInt8.ofNat (D / 256 ^ k) = UInt8.ofNat (D / 256 ^ k % 256) from ofNat8 oM]
  have hz : D / 256 ^ k % 256 < 256 := Nat.mod_lt _ dE
  generalize D / 256 ^ k % 256 = z at *
  congr 1
  apply ofNat8
  subst hd
  omega
theorem bor_next (D m k : Nat) (d : Int) (hd : d = (((D + m) / 256 ^ k % 256 : Nat) : Int) - ((m / 256 ^ k % 256 : Nat) : Int) + -((bor D m k : Nat) : Int)) :
    (d < 0 → bor D m (k + 1) = 1) ∧ (¬ d < 0 → bor D m (k + 1) = 0) := by
  rw [bor_step]
  have hb := sum_byte D m k
  have hle := bor_le D m k
  generalize bor D m k = c at *
  generalize (D + m) / 256 ^ k % 256 = x at *
  have hm : m / 256 ^ k % 256 < 256 := Nat.mod_lt _ dE
  generalize m / 256 ^ k % 256 = y at *
  have hz : D / 256 ^ k % 256 < 256 := Nat.mod_lt _ dE
  generalize D / 256 ^ k % 256 = z at *
  subst hd
  omega
theorem ofNat8_toNat (n : Nat) : (UInt8.ofNat n).toNat = n % 256 := by rw [UInt8.toNat_ofNat']
theorem wordOf_id (n : Int) (h : 0 ≤ n ∧ n < 18446744073709551616) : ((wordOf n).toNat : Int) = n := by
  rw [wordOf, UInt64.toNat_ofNat']; omega
theorem zero_set (n : UInt64) (k : Nat) (hk : k < 8) : (padW 32 n.toNat k).set k (shr64 n (8 * k)).toUInt8 = padW 32 n.toNat (k + 1) := by
  have e : List.replicate (32 - k) (0 : UInt8) = 0 :: List.replicate (32 - (k + 1)) 0 := by
    rw [show 32 - k = (32 - (k + 1)) + 1 by omega]; rfl
  rw [padW, e, set_end _ _ _ _ _ (leb_length k _), padW, leb_succ']
  congr 3
  apply UInt8.toNat_inj.1
  rw [UInt64.toNat_toUInt8, shr64_toNat, UInt8.toNat_ofNat', pow256]
theorem pad_small (n : UInt64) : padW 32 n.toNat 8 = leb 32 n.toNat := by
  have h := n.toNat_lt
  apply List.ext_getElem?
  intro i
  rw [padW]
  rcases Nat.lt_or_ge i 8 with hi | hi
  · rw [List.getElem?_append_left (by rw [leb_length]; exact hi), leb_get _ _ _ hi, leb_get _ _ _ oM]
  · rw [List.getElem?_append_right (by rw [leb_length]; exact hi), leb_length]
    rcases Nat.lt_or_ge i 32 with h2 | h2
    · rw [leb_get _ _ _ h2, List.getElem?_replicate, if_pos oM, Nat.div_eq_of_lt]; rfl
      refine Nat.lt_of_lt_of_le h ?_
      rw [pow256]; exact Nat.pow_le_pow_right dE oM
    · rw [List.getElem?_replicate, if_neg oM, List.getElem?_eq_none (by rw [leb_length]; exact h2)]
theorem div_bit (n j : Nat) : n / 2 ^ j = 2 * (n / 2 ^ (j + 1)) + (if n.testBit j then 1 else 0) := by
  rw [Nat.pow_succ, ← Nat.div_div_eq_div_mul, Nat.testBit_eq_decide_div_mod_eq]
  by_cases h : n / 2 ^ j % 2 = 1
  · rw [if_pos (decide_eq_true h)]; omega
  · rw [if_neg (by simpa using h)]; omega
theorem le_one' : le ((List.replicate 32 0).set 0 1) = 1 := by decide
theorem dbl_mod (m : Nat) : (m % L + m % L) % L = (2 * m) % L := by
  rw [← Nat.add_mod, Nat.two_mul]
theorem dbl_mod1 (m : Nat) : ((m % L + m % L) % L + 1) % L = (2 * m + 1) % L := by
  rw [← Nat.add_mod, Nat.mod_add_mod, Nat.two_mul]
theorem le_zero_div (xs : List UInt8) (n : Nat) (h : xs.length = n) : le xs / 2 ^ (8 * n) = 0 := by
  apply Nat.div_eq_of_lt
  rw [← pow256, ← h]; exact le_lt xs
theorem leb_zero32 : leb 32 0 = List.replicate 32 0 := by decide
theorem zero_modL : 0 % L = 0 := Nat.zero_mod L
theorem mod_bit (n k : Nat) : n % 2 ^ (k + 1) = n % 2 ^ k + (if n.testBit k then 2 ^ k else 0) := by
  rw [Nat.pow_succ, Nat.mod_mul, Nat.testBit_eq_decide_div_mod_eq]
  by_cases h : n / 2 ^ k % 2 = 1
  · rw [if_pos (decide_eq_true h), h, Nat.mul_one]
  · rw [if_neg (by simpa using h), show n / 2 ^ k % 2 = 0 by omega, Nat.mul_zero]
end Hw
end

section
namespace Ed
open Hw Go
set_option linter.unusedVariables false

def BB : Nat := 115792089237316195423570985008687907853269984665640564039457584007913129639936
def pk (x y z t : Nat) : Nat := (x + BB * (y + BB * (z + BB * t))) + 1
def ux (s : Nat) : Nat := (s - 1) % BB
def uy (s : Nat) : Nat := (s - 1) / BB % BB
def uz (s : Nat) : Nat := (s - 1) / BB / BB % BB
def ut (s : Nat) : Nat := (s - 1) / BB / BB / BB
def subN (a b : Nat) : Nat := (a + (PF - b % PF)) % PF
def finN (e f g h : Nat) : Nat := pk (e * f % PF) (g * h % PF) (f * g % PF) (e * h % PF)
def twoDN : Nat := 2 * fD.val
def addN (s p : Nat) : Nat :=
  finN (subN ((uy s + ux s) * (uy p + ux p)) (subN (uy s) (ux s) * subN (uy p) (ux p))) (subN (uz s * uz p + uz s * uz p) (ut s * twoDN % PF * ut p)) ((uz s * uz p + uz s * uz p + ut s * twoDN % PF * ut p) % PF) (((uy s + ux s) * (uy p + ux p) + subN (uy s) (ux s) * subN (uy p) (ux p)) % PF)
theorem fp_cases {a : Fp} (h : a * a = 1) : a = 1 ∨ a = -1 := by
  have h1 : (a - 1) * (a + 1) = 0 := by grind
  rcases cv.zero_or h1 with e | e
  · exact .inl (by grind)
  · exact .inr (by grind)
theorem sq_cases {a b : Fp} (h : a * a = b * b) : a = b ∨ a = -b := by
  have h1 : (a - b) * (a + b) = 0 := by grind
  rcases cv.zero_or h1 with e | e
  · exact .inl (by grind)
  · exact .inr (by grind)
def unit2 : Fp := fpow (fe 2) ((PF - 1) / 4)
theorem unit2_sq : unit2 * unit2 = -1 := by kernel_rfl
theorem fpow_one' (a : Fp) : fpow a 1 = a := by
  rw [show (1 : Nat) = 0 + 1 from rfl, fpow_succ dE, fpow_zero]; grind
theorem fpow_sq2 (x : Fp) : x * x = fpow x 2 := by
  rw [show (2 : Nat) = 2 * 1 from rfl, fpow_two dE, fpow_one']
theorem root_pow (x : Fp) : fpow (x * x) ((PF + 3) / 8) * fpow (x * x) ((PF + 3) / 8) = x * x * fpow x ((PF - 1) / 2) := by
  rw [← fpow_two dE, fpow_sq2, fpow_mul dE dE dE, ← fpow_add dE]
  rfl
theorem half_cases {x : Fp} (h : x ≠ 0) : fpow x ((PF - 1) / 2) = 1 ∨ fpow x ((PF - 1) / 2) = -1 := by
  refine fp_cases ?_
  rw [← fpow_two dE]
  exact ferm h
theorem fRoot1_sq (x : Fp) : fRoot1 (x * x) * fRoot1 (x * x) = x * x := by
  have h0 := root_pow x
  have hu := unit2_sq
  unfold fRoot1
  change (if fpow (x * x) ((PF + 3) / 8) * fpow (x * x) ((PF + 3) / 8) = x * x then fpow (x * x) ((PF + 3) / 8) else fpow (x * x) ((PF + 3) / 8) * unit2) * (if fpow (x * x) ((PF + 3) / 8) * fpow (x * x) ((PF + 3) / 8) = x * x then fpow (x * x) ((PF + 3) / 8) else fpow (x * x) ((PF + 3) / 8) * unit2) = x * x
  have hc : fpow (x * x) ((PF + 3) / 8) * fpow (x * x) ((PF + 3) / 8) = x * x ∨ fpow (x * x) ((PF + 3) / 8) * fpow (x * x) ((PF + 3) / 8) = -(x * x) := by
    by_cases hx : x = 0
    · left
      rw [h0, hx]; grind
    · rcases half_cases hx with e | e
      · left; rw [h0, e]; grind
      · right; rw [h0, e]; grind
  revert hc
  generalize fpow (x * x) ((PF + 3) / 8) = r
  generalize unit2 = u at *
  intro hc
  clear h0
  by_cases h1 : r * r = x * x
  · rw [if_pos h1]; exact h1
  · rw [if_neg h1]
    rcases hc with e | e
    · exact absurd e h1
    · have : r * u * (r * u) = r * r * (u * u) := by grind
      rw [this, e, hu]; grind
theorem val_neg {x : Fp} (h : x ≠ 0) : (-x).val + x.val = PF := by
  have h1 : fe ((-x).val + x.val) = 0 := by
    rw [fe_add, fe_of, fe_of]; grind
  have h2 : ((-x).val + x.val) % PF = 0 := congrArg Fin.val h1
  have h3 := (-x).isLt
  have h4 := x.isLt
  have h5 : x.val ≠ 0 := fun e => h (Fin.ext e)
  have h6 : PF ∣ (-x).val + x.val := Nat.dvd_of_mod_eq_zero h2
  obtain ⟨k, hk⟩ := h6
  generalize (-x).val = a at *
  generalize x.val = b at *
  clear h h1 h2
  have hP : 0 < PF := by decide
  generalize PF = q at *
  have h7 : k = 1 := by
    rcases Nat.lt_or_ge k 1 with h | h
    · obtain rfl : k = 0 := by omega
      rw [Nat.mul_zero] at hk; omega
    · rcases Nat.lt_or_ge 1 k with h9 | h9
      · have : q * 2 ≤ q * k := Nat.mul_le_mul_left _ h9
        omega
      · omega
  rw [h7, Nat.mul_one] at hk
  exact hk
theorem neg_neg' (x : Fp) : - -x = x := by grind
/-- the even one of x and -x -/
theorem fRoot_eq (x : Fp) : fRoot (x * x) = ((if x.val % 2 = 1 then -x else x), true) := by
  have h1 := fRoot1_sq x
  have h2 := sq_cases h1
  unfold fRoot
  generalize fRoot1 (x * x) = r at *
  rw [if_pos h1]
  congr 1
  by_cases hx : x = 0
  · have : r = 0 := by rcases h2 with e | e <;> rw [e, hx] <;> grind
    rw [this, hx]
  · have hv := val_neg hx
    have hodd : PF % 2 = 1 := by decide
    rcases h2 with e | e
    · rw [e]
    · rw [e]
      have hn : -x ≠ 0 := fun e2 => hx (by grind)
      by_cases h3 : x.val % 2 = 1
      · rw [if_pos h3, if_neg oM]
      · rw [if_neg h3, if_pos oM, neg_neg']
theorem on_xsq {x y : Fp} (h : cv.on ⟨x, y⟩) : (y * y - 1) * finv (fD * (y * y) + 1) = x * x := by
  have h1 := finv_mul (cv.below_ne y)
  have h2 := (cv.on_iff ⟨x, y⟩).1 h
  have h3 : y * y - x * x = 1 + fD * (x * x * (y * y)) := h2
  have h4 : (cv.d * (y * y) + 1) * finv (cv.d * (y * y) + 1) = 1 := h1
  change (fD * (y * y) + 1) * finv (fD * (y * y) + 1) = 1 at h4
  generalize finv (fD * (y * y) + 1) = u at *
  generalize fD = d at *
  have h5 : y * y - 1 = x * x * (d * (y * y) + 1) := by grind
  rw [h5]
  have : x * x * (d * (y * y) + 1) * u = x * x * ((d * (y * y) + 1) * u) := by grind
  rw [this, h4]; grind
theorem xOf_eq {x y : Fp} (h : cv.on ⟨x, y⟩) : xOf y = ((if x.val % 2 = 1 then -x else x), true) := by
  rw [xOf, on_xsq h, fRoot_eq]
theorem fb_top (x : Fp) : ((fb x).getD 31 0).toNat < 128 := by
  have h : (fb x).getD 31 0 = UInt8.ofNat (x.val / 256 ^ 31) := leb_getD 32 x.val 31 dE
  have h1 := x.isLt
  have h2 : x.val / 256 ^ 31 < 128 := by
    rw [Nat.div_lt_iff_lt_mul dE]
    exact Nat.lt_of_lt_of_le h1 dE
  rw [h, UInt8.toNat_ofNat']
  omega
theorem getD_set (l : List UInt8) (i : Nat) (v : UInt8) (hi : i < l.length) : (l.set i v).getD i 0 = v := by
  rw [List.getD_eq_getElem?_getD, List.getElem?_set_self hi, Option.getD_some]
end Ed
end

section
namespace Go.Proofs.YtpacobmjjjillaaGreat
open Go Hw
set_option linter.unusedVariables false
set_option linter.unusedSimpArgs false

open Ed

def vtag : List UInt8 := [118, 111, 116, 101]
/-- what is signed of a vote -/
def vtxt (V : Vote) : List UInt8 := vtag ++ voteT V
theorem vtxt_length {V : Vote} (h : V.ok) : (vtxt V).length = 4 + voteN V := by rw [vtxt, List.length_append, voteT_length h]; rfl
theorem own_bytes {W : World} {q n c : Nat} {l : List UInt8} (hs : SeesP W (some ⟨q, 0, none⟩) (bytesV l)) (hl : l.length = n) (hc : n ≤ c) (hm : n ≤ maxLen) : BytesAt W ⟨some ⟨q, 0, none⟩, n, c⟩ l := ⟨hl, hc, hs, hm, fun e => by cases e⟩
theorem own_vtxt {W : World} {q c : Nat} {V : Vote} (hV : V.ok) (hs : SeesP W (some ⟨q, 0, none⟩) (bytesV (vtxt V))) (hc : (vtxt V).length ≤ c) : BytesAt W ⟨some ⟨q, 0, none⟩, (vtxt V).length, c⟩ (vtxt V) :=
  own_bytes hs rfl hc (by have h1 := vtxt_length hV; have h2 := voteN_le V; unfold maxLen; omega)
/-- a vote that is signed -/
def vsg (V : Vote) (K G : List UInt8) : Vote := { V with fVoter := K, fSig := G }
theorem vsg_ok {V : Vote} (h : V.ok) {K G : List UInt8} (hK : K.length = 32) (hG : G.length = 64) : (vsg V K G).ok := ⟨h.l_fValue, hK, hG⟩
theorem vcheck_vsg (V : Vote) (K G : List UInt8) : vcheck (vsg V K G) = vcheck V := rfl
theorem acc_made {q c : Nat} {l : List UInt8} {n : Nat} {E : TypeId} (hl : l.length = n) (hc : n ≤ c) : Hw.Acc ⟨some ⟨q, 0, none⟩, n, c⟩ [⟨q, bytesV l, E, c * 1⟩] (bytesV l) E n 1 := Acc.some hc (by rw [bytesV, List.length_map, hl, Nat.mul_one])

theorem vote_text (V : Vote) (hV : V.ok) : Meets Tryz.prog 20 [agg V.cells] [] (fun _ => True) (fun v out => FreshRow v out (bytesV (vtxt V)) 5 (vtxt V).length 1) := by
 intro W hW
 have hvl := vtxt_length hV
 have hvn := voteN_le V
 refine calls_of (hp0 := []) Tryz.func20 J 7 Tryz.ntmps20 J (HRep.nil _) (Sat.seq (Sat.region (Tr.boxA J J ?_)))
 intro n1 hn1 hf1
 refine Tr.assign J J J (Tr.nil (at_n (Sat.seq (Sat.region (Tr.mkRow (z := u8 0) [u8 118, u8 111, u8 116, u8 101] (bytesV vtag) J J J Tryz.underlying72 Sz5 Zr5 J J (by intro v hv; simp only [List.mem_cons, List.not_mem_nil, or_false] at hv; rcases hv with rfl | rfl | rfl | rfl <;> rfl) dE J ?_)))))
 intro q3
 refine Tr.constB J J J J Tryz.underlying72 Y5 Z0 ?_
 refine Tr.loadAll J J J Y29 J Sz29 Z1 (Vote.length zA) ?_
 refine Tr.callL (L := [⟨q3, bytesV vtag, 5, 4 * 1⟩]) J J J J J Body62 (text_vote ⟨some ⟨q3, 0, none⟩, 4, 4⟩ [⟨q3, bytesV vtag, 5, 4 * 1⟩] vtag 4 (acc_made J (Nat.le_refl 4)) dE V hV) (pm_consE rM J J pm_nil) (lent_ok J) (fun w h => fun b hb => (by rw [List.mem_singleton.1 hb]; exact own_blk h Z0)) ?_
 rintro v6 out6 ⟨s6, rfl, hac6⟩
 refine Tr.assign J J J (Tr.nil (at_n (Sat.ret (en_r (end_perm (out := (out6 ++ [])) (res_tmp J J) (pm_seg sG pm_nil) ?_)))))
 obtain ⟨q9, c9, rfl, hc9, rfl⟩ := acc_pos hac6 oM
 rw [List.append_nil]
 exact ⟨q9, c9, by rw [hvl]; rfl, by rw [hvl]; exact hc9, rfl⟩

theorem vote_sign_bad (seed : List UInt8) (h32 : seed.length = 32) (V : Vote) (hV : V.ok) (hc : ¬ vcheck V = 0) : Meets Tryz.prog 11 [agg (bytesV seed), agg V.cells] [] (fun _ => True) (fun v out => v = .tuple #[agg Vote.zero.cells, i64 (vcheck V)] ∧ out = []) := by
 intro W hW
 refine calls_of (hp0 := []) Tryz.func11 J 22 Tryz.ntmps11 J (HRep.nil _) (Sat.seq (Sat.region (Tr.boxA J J ?_)))
 intro n2 hn2 hf2
 refine Tr.boxA J J ?_
 intro n3 hn3 hf3
 refine Tr.alloc (cs := Vote.zero.cells) J Vote.zr J ?_
 intro n4 hn4 hf4
 refine Tr.assign J J J (Tr.nil (at_n (Sat.seq (Sat.seq (Sat.region (Tr.loadAll J J J Y29 J Sz29 Z1 (Vote.length zA) ?_))))))
 refine Tr.callV J J J J Body13 (vote_check V hV) (fun _ _ => trivial) (Tr.assign J J J (Tr.nil (at_n (Sat.seq (Sat.region (Tr.move J J J (Tr.nei J J J J J (Tr.nil (at_n (Sat.cond_t J (by simpa using hc) ?_))))))))))
 refine Sat.seq (Sat.region (Tr.build (cs := Vote.zero.cells) J J J (fun w => by kernel_rfl) ?_))
 refine Tr.move J J J (Tr.storeAll J J J J (Vote.isCell zT) Sz29 (Vote.length zT) Z0 (Vote.length zT) zU ?_)
 refine Tr.assign J J J (Tr.nil (at_n (Sat.ret (at_r (en_r ?_)))))
 refine ⟨_, [], res_cell_tmp J J J Y29 J Sz29 Z0 (by exact Vote.length zT), sP, sP, ?_, rfl⟩
 rfl

theorem vote_sign (seed : List UInt8) (h32 : seed.length = 32) (V : Vote) (hV : V.ok) (s s1 s2 : List UInt8) (hs : Hid (sha512 seed = s)) (hs1 : Hid (sha512 (s.drop 32 ++ vtxt (vsg V (sgK s) V.fSig)) = s1)) (hs2 : Hid (sha512 (sgF s1 ++ (sgK s ++ vtxt (vsg V (sgK s) V.fSig))) = s2)) (hc : vcheck V = 0) : Meets Tryz.prog 11 [agg (bytesV seed), agg V.cells] [] (fun _ => True) (fun v out => v = .tuple #[agg (vsg V (sgK s) (sgF s1 ++ sgS s s1 s2)).cells, i64 0] ∧ out = []) := by
 intro W hW
 have lK := sgK_length s
 have lG : (sgF s1 ++ sgS s s1 s2).length = 64 := by rw [List.length_append, sgF_length, sgS_length]
 have hX : (vsg V (sgK s) V.fSig).ok := vsg_ok hV lK hV.l_fSig
 have hG : (vsg V (sgK s) (sgF s1 ++ sgS s s1 s2)).ok := vsg_ok hV lK lG
 have hvl := vtxt_length hX
 have hvn := voteN_le (vsg V (sgK s) V.fSig)
 have cK : Meets Tryz.prog 58 [agg (bytesV seed)] [] (fun _ => True) (fun v out => v = agg (bytesV (sgK s)) ∧ out = []) := sign_Key seed h32 s hs
 have cS := fun (x : Sl) => sign_Sign seed h32 x (vtxt (vsg V (sgK s) V.fSig)) oM s s1 s2 hs hs1 hs2
 have cT := vote_text (vsg V (sgK s) V.fSig) hX
 have cC := vote_check V hV
 rw [hc] at cC
 clear hs1 hs2
 revert lK lG hX hG hvl hvn cK cS cT
 unfold vsg
 generalize sgF s1 ++ sgS s s1 s2 = G
 generalize sgK s = K
 intro lK lG hX hG hvl hvn cK cS cT
 refine calls_of (hp0 := []) Tryz.func11 J 22 Tryz.ntmps11 J (HRep.nil _) (Sat.seq (Sat.region (Tr.boxA J J ?_)))
 intro n2 hn2 hf2
 refine Tr.boxA J J ?_
 intro n3 hn3 hf3
 refine Tr.alloc (cs := Vote.zero.cells) J Vote.zr J ?_
 intro n4 hn4 hf4
 refine Tr.assign J J J (Tr.nil (at_n (Sat.seq (Sat.seq (Sat.region (Tr.loadAll J J J Y29 J Sz29 Z1 (Vote.length zA) ?_))))))
 refine Tr.callV J J J J Body13 (cC) (fun _ _ => trivial) (Tr.assign J J J (Tr.nil (at_n (Sat.seq (Sat.region (Tr.move J J J (Tr.nei J J J J J (Tr.nil (at_n (Sat.cond_f J (rfl) (Sat.skip (at_n (Sat.seq (Sat.region (Tr.loadAll J J J Y23 J Sz23 Z2 (by (simp [h32]; done)) ?_)))))))))))))))
 refine Tr.callV J J J J Body58 (cK) (fun _ _ => trivial) (Tr.fld J J J Y29 J Sz25 dE _ J (Tr.storeN (bytesV _) J J J J J zE Sz25 (by simp [lK]) Z1 (by rw [Vote.length zA]; simp [lK]) (Vote.upd_fVoter zA _ (by simp [lK])) zV ?_))
 refine Tr.nil (at_n (Sat.seq (Sat.draw [(1, 0), (1, 1), (3, 2), (3, 3), (0, 4), (4, 5)] Mixed zK (Tr.loadAll J J J Y23 J Sz23 Z2 (by (simp [h32]; done)) ?_))))
 refine Tr.loadAll J J J Y29 J Sz29 Z1 (Vote.length zA) ?_
 refine Tr.call J J J J Body20 (cT) (FreshRow.loose _ _ _ _) (fun _ _ => trivial) ?_
 rintro v18 out18 ⟨q18, c18, rfl, hc18, rfl⟩
 refine Tr.callV J J J J Body59 (cS ⟨some ⟨q18, 0, none⟩, _, c18⟩) (fun w h => own_vtxt hX (SeesP.of (sees_own h Z0)) hc18) ?_
 refine Tr.fld J J J Y29 J Sz27 dE _ J (Tr.storeN (bytesV _) J J J J J zE Sz27 (by simp [lG]) Z2 (by rw [Vote.length zA]; simp [lG]) (Vote.upd_fSig zA _ (by simp [lG])) (by exact upd2) ?_)
 refine Tr.nil (at_n (Sat.seq (Sat.region (Tr.loadAll J J J Y29 J Sz29 Z2 (Vote.length zA) ?_))))
 refine Tr.storeAll J J J J (Vote.isCell zA) Sz29 (Vote.length zA) Z1 (Vote.length zT) zV ?_
 refine Tr.assign J J J (Tr.nil (at_n (Sat.ret (en_r ?_))))
 refine ⟨_, [], res_cell_tmp J J J Y29 J Sz29 Z1 (by exact Vote.length zA), sP, sP, ?_, rfl⟩
 rfl

/-- what Good says of a vote -/
noncomputable def vgood (V : Vote) : Int := if vcheck V = 0 then (if goodB V.fVoter (vtxt V) V.fSig = true then 0 else 9) else vcheck V

theorem vote_good (V : Vote) (hV : V.ok) : Meets Tryz.prog 14 [agg V.cells] [] (fun _ => True) (fun v out => v = i64 (vgood V) ∧ out = []) := by
 intro W hW
 have hvl := vtxt_length hV
 have hvn := voteN_le V
 refine calls_of (hp0 := []) Tryz.func14 J 17 Tryz.ntmps14 J (HRep.nil _) (Sat.seq (Sat.region (Tr.boxA J J ?_)))
 intro n1 hn1 hf1
 refine Tr.assign J J J (Tr.nil (at_n (Sat.seq (Sat.seq (Sat.region (Tr.loadAll J J J Y29 J Sz29 Z0 (Vote.length zA) ?_))))))
 refine Tr.callV J J J J Body13 (vote_check V hV) (fun _ _ => trivial) (Tr.assign J J J (Tr.nil (at_n (Sat.seq (Sat.region (Tr.move J J J (Tr.nei J J J J J (Tr.nil (at_n (Sat.condNP J (fun hc0 => ?_) (fun hc0 => ?_)))))))))))
 ·
  refine Sat.seq (Sat.region (Tr.move J J J (Tr.assign J J J (Tr.nil (at_n (Sat.ret (at_r (en_r ?_))))))))
  refine ⟨_, [], res_tmp J J, sP, sP, ?_, rfl⟩
  (unfold vgood; rw [if_neg hc0]; done)
 ·
  refine Sat.skip (at_n (Sat.seq (Sat.seq (Sat.draw [(0, 0), (1, 1), (1, 2), (0, 4), (1, 5), (3, 3), (3, 6), (0, 7)] Mixed zK (Tr.fld J J J Y29 J Sz25 dE _ J (Tr.loadN (bytesV _) J J J Y25 J Sz25 Z0 (Vote.row_fVoter zA) (Vote.rl_fVoter zA) ?_))))))
  refine Tr.loadAll J J J Y29 J Sz29 Z0 (Vote.length zA) ?_
  refine Tr.fld J J J Y29 J Sz27 dE _ J (Tr.loadN (bytesV _) J J J Y27 J Sz27 Z0 (Vote.row_fSig zA) (Vote.rl_fSig zA) ?_)
  refine Tr.call J J J J Body20 (vote_text V hV) (FreshRow.loose _ _ _ _) (fun _ _ => trivial) ?_
  rintro v12 out12 ⟨q12, c12, rfl, hc12, rfl⟩
  refine Tr.callV J J J J Body60 (sign_Good V.fVoter hV.l_fVoter ⟨some ⟨q12, 0, none⟩, _, c12⟩ (vtxt V) oM V.fSig hV.l_fSig) (fun w h => own_vtxt hV (SeesP.of (sees_own h Z0)) hc12) ?_
  refine Tr.not J J J (Tr.nil (at_n (Sat.cond J (fun hc1 => ?_) (fun hc1 => ?_))))
  ·
   refine Sat.seq (Sat.region (Tr.assign J J J (Tr.nil (at_n (Sat.ret (at_r (en_r ?_)))))))
   refine ⟨_, [], res_tmp J J, sP, sP, ?_, rfl⟩
   (unfold vgood; rw [if_pos oM, if_neg (by intro e; rw [e] at hc1; cases hc1)]; done)
  ·
   refine Sat.skip (at_n (Sat.seq (Sat.region (Tr.assign J J J (Tr.nil (at_n (Sat.ret (en_r ?_))))))))
   refine ⟨_, [], res_tmp J J, sP, sP, ?_, rfl⟩
   (unfold vgood; rw [if_pos oM, if_pos (by simpa using hc1)]; done)

end Go.Proofs.YtpacobmjjjillaaGreat
end

section
namespace Hw
open Go
set_option linter.unusedSimpArgs false
set_option linter.unusedVariables false

/-- the first byte that a count and the top bits have -/
def headOf (s h : Nat) : UInt8 := shl8 255 (9 - s) ||| UInt8.ofNat h
theorem head_facts : ∀ s, s < 10 → 1 ≤ s → ∀ h, h < 2 ^ (8 - s) → (s = 9 → h = 0) → cntB (headOf s h) = s ∧ (headV (headOf s h)).toNat = h := by
  decide +kernel
theorem head_back : ∀ n, n < 256 → 1 ≤ cntB (UInt8.ofNat n) ∧ cntB (UInt8.ofNat n) ≤ 9 ∧ (headV (UInt8.ofNat n)).toNat < 2 ^ (8 - cntB (UInt8.ofNat n)) ∧ (cntB (UInt8.ofNat n) = 9 → (headV (UInt8.ofNat n)).toNat = 0) ∧ headOf (cntB (UInt8.ofNat n)) (headV (UInt8.ofNat n)).toNat = UInt8.ofNat n := by
  decide +kernel
theorem head_of (f : UInt8) : 1 ≤ cntB f ∧ cntB f ≤ 9 ∧ (headV f).toNat < 2 ^ (8 - cntB f) ∧ (cntB f = 9 → (headV f).toNat = 0) ∧ headOf (cntB f) (headV f).toNat = f := by
  have h := head_back f.toNat f.toNat_lt
  rwa [UInt8.ofNat_toNat] at h

/-- the number of bytes, the high one first -/
def beN : List UInt8 → Nat
  | [] => 0
  | b :: l => b.toNat * 256 ^ l.length + beN l
theorem beN_lt : ∀ l, beN l < 256 ^ l.length
  | [] => by simp [beN]
  | b :: l => by
    have h1 := beN_lt l
    have h2 := b.toNat_lt
    rw [beN, List.length_cons, Nat.pow_succ]
    have : b.toNat * 256 ^ l.length + 256 ^ l.length ≤ 256 ^ l.length * 256 := by
      rw [← Nat.succ_mul, Nat.mul_comm]
      exact Nat.mul_le_mul_left _ oM
    omega
theorem beN_inj : ∀ (a b : List UInt8), a.length = b.length → beN a = beN b → a = b
  | [], [], _, _ => rfl
  | x :: a, y :: b, hl, h => by
    simp only [List.length_cons, Nat.add_right_cancel_iff] at hl
    rw [beN, beN, hl] at h
    have h1 := beN_lt a
    have h2 := beN_lt b
    rw [hl] at h1
    have hp : 0 < 256 ^ b.length := Nat.pow_pos dE
    have e1 : x.toNat = y.toNat := by
      have d1 : (x.toNat * 256 ^ b.length + beN a) / 256 ^ b.length = x.toNat := by rw [Nat.mul_comm, Nat.mul_add_div hp, Nat.div_eq_of_lt h1, Nat.add_zero]
      have d2 : (y.toNat * 256 ^ b.length + beN b) / 256 ^ b.length = y.toNat := by rw [Nat.mul_comm, Nat.mul_add_div hp, Nat.div_eq_of_lt h2, Nat.add_zero]
      rw [← d1, ← d2, h]
    rw [e1] at h
    rw [UInt8.toNat_inj.1 e1, beN_inj a b hl oM]
theorem beN_tail (x : UInt64) : ∀ k, k ≤ 8 → beN (tailB x k) = x.toNat % 256 ^ k
  | 0, _ => by simp [tailB, beN, Nat.mod_one]
  | k + 1, hk => by
    have hp : 0 < 256 ^ k := Nat.pow_pos dE
    have e : (2 : Nat) ^ (8 * k) = 256 ^ k := by rw [Nat.pow_mul]
    rw [tailB, beN, tailB_length, beN_tail x k oM, UInt64.toNat_toUInt8]
    have e1 : (shr64 x (8 * k)).toNat = x.toNat / 256 ^ k := by
      have h : x.toNat / 2 ^ (8 * k) ≤ x.toNat := Nat.div_le_self _ _
      have := x.toNat_lt
      rw [shr64, UInt64.toNat_ofNat', Nat.mod_eq_of_lt oM, e]
    rw [e1]
    have h3 := Nat.mod_mul (a := 256 ^ k) (b := 256) (x := x.toNat)
    have e2 : (256 : Nat) ^ (k + 1) = 256 ^ k * 256 := Nat.pow_succ ..
    have e3 : (2 : Nat) ^ 8 = 256 := by decide
    rw [e2, h3, e3, Nat.mul_comm (256 ^ k)]
    omega
theorem foldB_nat : ∀ (l : List UInt8) (a : UInt64), a.toNat * 256 ^ l.length + beN l < 2 ^ 64 → (foldB a l).toNat = a.toNat * 256 ^ l.length + beN l
  | [], a, _ => by simp [foldB, beN]
  | b :: l, a, h => by
    rw [beN, List.length_cons, Nat.pow_succ] at h
    have hb := b.toNat_lt
    have hp : 0 < 256 ^ l.length := Nat.pow_pos dE
    have e : a.toNat * (256 ^ l.length * 256) + (b.toNat * 256 ^ l.length + beN l) = (a.toNat * 256 + b.toNat) * 256 ^ l.length + beN l := by
      rw [Nat.add_mul, Nat.mul_assoc, Nat.mul_comm 256, Nat.add_assoc]
    rw [e] at h
    have h1 : a.toNat * 256 + b.toNat < 18446744073709551616 := by
      rw [show (2 : Nat) ^ 64 = 18446744073709551616 by decide] at h
      have : (a.toNat * 256 + b.toNat) * 1 ≤ (a.toNat * 256 + b.toNat) * 256 ^ l.length := Nat.mul_le_mul_left _ hp
      omega
    have hs : (shl64 a 8).toNat = a.toNat * 256 := by
      have e0 : a.toNat * 2 ^ 8 = a.toNat * 256 := rfl
      rw [shl64, UInt64.toNat_ofNat', e0, Nat.mod_eq_of_lt (Nat.lt_of_le_of_lt (Nat.le_add_right _ b.toNat) h1)]
    have ho : (shl64 a 8 ||| b.toUInt64).toNat = a.toNat * 256 + b.toNat := by
      rw [UInt64.toNat_or, hs, show b.toUInt64.toNat = b.toNat from by simp]
      rw [show a.toNat * 256 = 2 ^ 8 * a.toNat by omega, Nat.two_pow_add_eq_or_of_lt oM]
    rw [foldB, foldB_nat l _ (by rw [ho]; exact h), ho, beN, List.length_cons, Nat.pow_succ, e]

theorem or_one (x : Nat) : x ||| 1 = if x % 2 = 0 then x + 1 else x := by
  have h := Nat.or_mod_two_pow (a := x) (b := 1) (n := 1)
  have h2 := Nat.or_div_two_pow (a := x) (b := 1) (n := 1)
  simp only [Nat.pow_one] at h h2
  have e : x % 2 = 0 ∨ x % 2 = 1 := by omega
  have hm : (x ||| 1) % 2 = 1 := by
    rw [h]
    rcases e with e | e <;> rw [e] <;> rfl
  have hd : (x ||| 1) / 2 = x / 2 := by rw [h2]; simp
  split <;> omega
theorem or_one_lt {x k : Nat} (hk : 1 ≤ k) : (x ||| 1) < 2 ^ k ↔ x < 2 ^ k := by
  rw [or_one]
  have : 2 ^ k = 2 * 2 ^ (k - 1) := by rw [← Nat.pow_succ']; congr 1; omega
  split <;> omega
theorem szN_le {x s : Nat} (hs : 1 ≤ s) (h8 : s ≤ 8) : szN x ≤ s ↔ x < 2 ^ (7 * s) := by
  rw [← or_one_lt oM, ← bLen_le]
  unfold szN
  omega
theorem szN_hi {x : Nat} (hs : szN x ≤ 8) : x < 2 ^ (7 * szN x) := (szN_le (szN_pos x).1 hs).1 (Nat.le_refl _)

theorem headB_of (x : UInt64) : ∃ h, headB x = headOf (szN x.toNat) h ∧ h < 2 ^ (8 - szN x.toNat) ∧ (szN x.toNat = 9 → h = 0) ∧ x.toNat = h * 256 ^ (szN x.toNat - 1) + x.toNat % 256 ^ (szN x.toNat - 1) := by
  have hp := szN_pos x.toNat
  have hx := x.toNat_lt
  have e : (2 : Nat) ^ (8 * (szN x.toNat - 1)) = 256 ^ (szN x.toNat - 1) := by rw [Nat.pow_mul]
  have e1 : (shr64 x (8 * (szN x.toNat - 1))).toNat = x.toNat / 256 ^ (szN x.toNat - 1) := by
    have h : x.toNat / 2 ^ (8 * (szN x.toNat - 1)) ≤ x.toNat := Nat.div_le_self _ _
    rw [shr64, UInt64.toNat_ofNat', Nat.mod_eq_of_lt oM, e]
  have hlt : x.toNat / 256 ^ (szN x.toNat - 1) < 2 ^ (8 - szN x.toNat) ∧ (szN x.toNat = 9 → x.toNat / 256 ^ (szN x.toNat - 1) = 0) := by
    by_cases h9 : szN x.toNat = 9
    · rw [h9]
      have : x.toNat / 256 ^ (9 - 1) = 0 := Nat.div_eq_of_lt (by rw [show (256 : Nat) ^ (9 - 1) = 2 ^ 64 by decide]; exact hx)
      rw [this]
      exact ⟨by decide, fun _ => rfl⟩
    · refine ⟨?_, fun h => absurd h h9⟩
      rw [Nat.div_lt_iff_lt_mul (Nat.pow_pos dE), ← e, ← Nat.pow_add]
      have := szN_hi (x := x.toNat) oM
      rwa [show 8 - szN x.toNat + 8 * (szN x.toNat - 1) = 7 * szN x.toNat by omega]
  refine ⟨x.toNat / 256 ^ (szN x.toNat - 1), ?_, hlt.1, hlt.2, (Nat.div_add_mod' _ _).symm⟩
  unfold headB headOf
  congr 1
  apply UInt8.toNat_inj.1
  rw [UInt64.toNat_toUInt8, e1, UInt8.toNat_ofNat']

/-- what numB has written -/
theorem num_back (x : UInt64) : cntB (headB x) = szN x.toNat ∧ foldB (headV (headB x)) (tailB x (szN x.toNat - 1)) = x := by
  obtain ⟨h, h1, h2, h3, h4⟩ := headB_of x
  have hp := szN_pos x.toNat
  have hf := head_facts (szN x.toNat) oM hp.1 h h2 h3
  rw [h1]
  refine ⟨hf.1, UInt64.toNat_inj.1 ?_⟩
  have hb := beN_tail x (szN x.toNat - 1) oM
  rw [foldB_nat _ _ (by rw [tailB_length, hf.2, hb, ← h4]; exact x.toNat_lt), tailB_length, hf.2, hb, ← h4]

/-- what is read as a number, with as many bytes as it has, are its bytes -/
theorem num_only {f : UInt8} {l : List UInt8} (hl : l.length = cntB f - 1) (hs : szN (foldB (headV f) l).toNat = cntB f) : numB (foldB (headV f) l) = f :: l := by
  obtain ⟨h1, h2, h3, h4, h5⟩ := head_of f
  have hb := beN_lt l
  rw [hl] at hb
  have hbound : (headV f).toNat * 256 ^ l.length + beN l < 2 ^ 64 := by
    rw [hl]
    have e8 : (256 : Nat) ^ (cntB f - 1) = 2 ^ (8 * (cntB f - 1)) := by rw [Nat.pow_mul]
    by_cases h9 : cntB f = 9
    · have e9 : (256 : Nat) ^ (cntB f - 1) = 2 ^ 64 := by rw [h9]
      rw [h4 h9, Nat.zero_mul, Nat.zero_add, ← e9]
      exact hb
    · have h6 : (headV f).toNat * 256 ^ (cntB f - 1) + 256 ^ (cntB f - 1) ≤ 2 ^ (8 - cntB f) * 256 ^ (cntB f - 1) := by
        rw [← Nat.succ_mul]; exact Nat.mul_le_mul_right _ h3
      have h7 : 2 ^ (8 - cntB f) * 256 ^ (cntB f - 1) = 2 ^ (7 * cntB f) := by
        rw [e8, ← Nat.pow_add]; congr 1; omega
      have h8 : 2 ^ (7 * cntB f) ≤ 2 ^ 64 := Nat.pow_le_pow_right dE oM
      omega
  have hv := foldB_nat l (headV f) hbound
  obtain ⟨x, hx⟩ : ∃ x, foldB (headV f) l = x := ⟨_, rfl⟩
  rw [hx] at hs hv ⊢
  rw [hl] at hv
  have hp : 0 < 256 ^ (cntB f - 1) := Nat.pow_pos dE
  have hdiv : x.toNat / 256 ^ (cntB f - 1) = (headV f).toNat := by
    rw [hv, Nat.mul_comm, Nat.mul_add_div hp, Nat.div_eq_of_lt hb, Nat.add_zero]
  have hmod : x.toNat % 256 ^ (cntB f - 1) = beN l := by
    rw [hv, Nat.mul_comm, Nat.mul_add_mod, Nat.mod_eq_of_lt hb]
  obtain ⟨h, g1, g2, g3, g4⟩ := headB_of x
  rw [hs] at g1 g2 g3 g4
  have hh : h = (headV f).toNat := by
    rw [← hdiv]
    have hm := Nat.mod_lt x.toNat hp
    rw [g4, Nat.mul_comm, Nat.mul_add_div hp, Nat.div_eq_of_lt hm, Nat.add_zero]
  unfold numB
  rw [g1, hh, h5, hs]
  congr 1
  apply beN_inj
  · rw [tailB_length, hl]
  · rw [beN_tail x _ oM, hmod]
end Hw
end

section
namespace Hw
open Go Go.RowKit
set_option linter.unusedSimpArgs false
set_option linter.unusedVariables false

/-- words as the program holds them -/
def wdsV (w : List Nat) : List Value := intsV (w.map Int.ofNat)
theorem wdsV_length (w : List Nat) : (wdsV w).length = w.length := by simp [wdsV, intsV]
theorem get_wds {w : List Nat} {o : Nat} (h : o < w.length) : (wdsV w)[o]? = some (i64 ((w.getD o 0 : Nat) : Int)) := by
  rw [wdsV, get_ints (by simpa using h)]
  congr 2
  rw [List.getD_eq_getElem?_getD, List.getD_eq_getElem?_getD, List.getElem?_map, List.getElem?_eq_getElem h]
  rfl
theorem set_wds (w : List Nat) (o v : Nat) : (wdsV w).set o (i64 (v : Int)) = wdsV (w.set o v) := by
  simp [wdsV, intsV, List.map_set]
theorem wdsV_cell (w : List Nat) : ∀ u ∈ wdsV w, isCell u = true := by
  intro u hu
  simp only [wdsV, intsV, List.mem_map] at hu
  obtain ⟨x, _, rfl⟩ := hu
  rfl
section
variable {C : Cx} {ops : Array Oper} {rest : List (Nat × Oper)} {sl : List (Nat × Value)} {hp : List Blk} {Q : St → Prop} {c d : Nat} {ty : TypeId} {pos : String} {af : Array Edge} {g : Option (Nat × Bool)}
variable {xT yT : TypeId} {x y : Operand}
theorem Tr.addN (a b : Nat) (hg : guardOk ops sl g = true) (hk : okD c d C.N = true) (hx : evIn sl x = some (i64 (a : Int))) (hy : evIn sl y = some (i64 (b : Int))) (hr : a + b ≤ 9223372036854775807)
    (k : Tr C ops rest ⟨(d, i64 ((a + b : Nat) : Int)) :: sl, hp⟩ Q) : Tr C ops ((c, ⟨some d, .binOp .add xT x y yT, ty, pos, af, g⟩) :: rest) ⟨sl, hp⟩ Q := by
  refine .add_i64 hg hk hx hy oM ?_
  rwa [show ((a : Int) + b) = ((a + b : Nat) : Int) by omega]
theorem Tr.subN (a b : Nat) (hg : guardOk ops sl g = true) (hk : okD c d C.N = true) (hx : evIn sl x = some (i64 (a : Int))) (hy : evIn sl y = some (i64 (b : Int))) (hr : b ≤ a ∧ a ≤ 9223372036854775807)
    (k : Tr C ops rest ⟨(d, i64 ((a - b : Nat) : Int)) :: sl, hp⟩ Q) : Tr C ops ((c, ⟨some d, .binOp .sub xT x y yT, ty, pos, af, g⟩) :: rest) ⟨sl, hp⟩ Q := by
  refine .sub_i64 hg hk hx hy oM ?_
  rwa [show ((a : Int) - b) = ((a - b : Nat) : Int) by omega]
theorem Tr.mulN (a b : Nat) (hg : guardOk ops sl g = true) (hk : okD c d C.N = true) (hx : evIn sl x = some (i64 (a : Int))) (hy : evIn sl y = some (i64 (b : Int))) (hr : a * b ≤ 9223372036854775807)
    (k : Tr C ops rest ⟨(d, i64 ((a * b : Nat) : Int)) :: sl, hp⟩ Q) : Tr C ops ((c, ⟨some d, .binOp .mul xT x y yT, ty, pos, af, g⟩) :: rest) ⟨sl, hp⟩ Q := by
  have e : ((a : Int) * b) = ((a * b : Nat) : Int) := (Int.natCast_mul a b).symm
  refine .mul_i64 hg hk hx hy (by rw [e]; omega) ?_
  rwa [e]
theorem Tr.remN (a b : Nat) (hg : guardOk ops sl g = true) (hk : okD c d C.N = true) (hx : evIn sl x = some (i64 (a : Int))) (hy : evIn sl y = some (i64 (b : Int))) (hr : 1 ≤ b)
    (k : Tr C ops rest ⟨(d, i64 ((a % b : Nat) : Int)) :: sl, hp⟩ Q) : Tr C ops ((c, ⟨some d, .binOp .rem xT x y yT, ty, pos, af, g⟩) :: rest) ⟨sl, hp⟩ Q := by
  refine .rem_i64 hg hk hx hy oM ?_
  rwa [show ((a : Int) % b) = ((a % b : Nat) : Int) from rfl]
theorem Tr.quoN (a b : Nat) (hg : guardOk ops sl g = true) (hk : okD c d C.N = true) (hx : evIn sl x = some (i64 (a : Int))) (hy : evIn sl y = some (i64 (b : Int))) (hr : 1 ≤ b ∧ a ≤ 9223372036854775807)
    (k : Tr C ops rest ⟨(d, i64 ((a / b : Nat) : Int)) :: sl, hp⟩ Q) : Tr C ops ((c, ⟨some d, .binOp .quo xT x y yT, ty, pos, af, g⟩) :: rest) ⟨sl, hp⟩ Q := by
  refine .quo_i64 hg hk hx hy oM ?_
  rwa [show ((a : Int) / b) = ((a / b : Nat) : Int) from rfl]
theorem Tr.shrN (a n : Nat) {ky : IntKind} {b : Int} (hg : guardOk ops sl g = true) (hk : okD c d C.N = true) (hx : evIn sl x = some (i64 (a : Int))) (hy : evIn sl y = some (.int ky b)) (hn : b = n) (hr : n ≤ 64)
    (k : Tr C ops rest ⟨(d, i64 ((a / 2 ^ n : Nat) : Int)) :: sl, hp⟩ Q) : Tr C ops ((c, ⟨some d, .binOp .shr xT x y yT, ty, pos, af, g⟩) :: rest) ⟨sl, hp⟩ Q :=
  .bin hg hk hx hy (fun w => by
    subst hn
    simp only [binOp, Op.shift, IntKind.bits]
    rw [if_neg oM, Int.toNat_natCast, Nat.min_eq_left hr]
    have e : ((2 : Int) ^ n) = ((2 ^ n : Nat) : Int) := by simp
    rw [e, Int.fdiv_eq_ediv_of_nonneg _ (Int.natCast_nonneg _)]
    rfl) k
theorem Tr.shlN (a n : Nat) {ky : IntKind} {b : Int} (hg : guardOk ops sl g = true) (hk : okD c d C.N = true) (hx : evIn sl x = some (i64 (a : Int))) (hy : evIn sl y = some (.int ky b)) (hn : b = n) (hn2 : n ≤ 64) (hr : a * 2 ^ n ≤ 9223372036854775807)
    (k : Tr C ops rest ⟨(d, i64 ((a * 2 ^ n : Nat) : Int)) :: sl, hp⟩ Q) : Tr C ops ((c, ⟨some d, .binOp .shl xT x y yT, ty, pos, af, g⟩) :: rest) ⟨sl, hp⟩ Q :=
  .bin hg hk hx hy (fun w => by
    subst hn
    simp only [binOp, Op.shift, IntKind.bits]
    rw [if_neg oM, Int.toNat_natCast, Nat.min_eq_left hn2]
    have e : ((a : Int) * 2 ^ n) = ((a * 2 ^ n : Nat) : Int) := by simp
    rw [e, i64_wrap oM]; rfl) k
theorem Tr.quo_u8 {p : UInt8} {b : Int} (hg : guardOk ops sl g = true) (hk : okD c d C.N = true) (hx : evIn sl x = some (u8 p)) (hy : evIn sl y = some (.int .u8 b)) (n : Nat) (hn : b = n) (h0 : 0 < n)
    (k : Tr C ops rest ⟨(d, u8 (UInt8.ofNat (p.toNat / n))) :: sl, hp⟩ Q) : Tr C ops ((c, ⟨some d, .binOp .quo xT x y yT, ty, pos, af, g⟩) :: rest) ⟨sl, hp⟩ Q :=
  .bin hg hk hx hy (fun w => by
    subst hn
    simp [binOp, Op.intDiv, show ¬ n = 0 by omega]
    exact IntKind.wrap_u8 _) k
end
end Hw
end

section
namespace Go.Proofs.YtpacobmjjjillaaGreat
open Go Hw
set_option linter.unusedVariables false
set_option linter.unusedSimpArgs false

theorem rolW_64 (x : UInt64) (n : Nat) (h : n ≤ 64) : shr64 x n ||| shl64 x (64 - n) = rolW x (64 - n) := by
  rw [rolW, show 64 - (64 - n) = n by omega, UInt64.or_comm]
theorem W8.of_l {st : List UInt64} (h : st.length = 8) : (W8.of st).l = st := by
  match st, h with
  | [a, b, c, d, e, f, g, i], _ => rfl
theorem addUp_gets (st xs : List UInt64) : ∀ i j, i ≤ st.length → j < st.length → (addUp st xs i).getD j 0 = if j < i then st.getD j 0 + xs.getD j 0 else st.getD j 0
  | 0, j, _, hj => by rw [if_neg oM]; rfl
  | i + 1, j, hi, hj => by
    have hl := addUp_length st xs i
    rw [addUp, List.getD_eq_getElem?_getD, List.getElem?_set]
    split
    · rename_i e
      subst e
      rw [if_pos oM, if_pos oM, Option.getD_some, addUp_get st xs i i (Nat.le_refl _)]
    · rename_i e
      rw [← List.getD_eq_getElem?_getD, addUp_gets st xs i j oM hj]
      by_cases h : j < i
      · rw [if_pos h, if_pos oM]
      · rw [if_neg h, if_neg oM]
theorem addUp_comm {st xs : List UInt64} (h : st.length = 8) (hx : xs.length = 8) : addUp xs st 8 = addUp st xs 8 := by
  have h1 := addUp_length xs st 8
  have h2 := addUp_length st xs 8
  apply List.ext_getElem oM
  intro j ha hb
  have e1 := addUp_gets xs st 8 j oM oM
  have e2 := addUp_gets st xs 8 j oM oM
  rw [if_pos oM] at e1 e2
  rw [List.getD_eq_getElem?_getD, List.getElem?_eq_getElem ha, Option.getD_some] at e1
  rw [List.getD_eq_getElem?_getD, List.getElem?_eq_getElem hb, Option.getD_some] at e2
  rw [e1, e2, UInt64.add_comm]
/-- the words of a piece, one by one -/
def schT (p : List UInt8) (A : List UInt64) (t : Nat) : List UInt64 := if t ≤ 16 then schA p (8 * t) else schB A (t - 16)
theorem schT_lo {p : List UInt8} {A : List UInt64} {t : Nat} (h : t ≤ 16) : schT p A t = schA p (8 * t) := if_pos h
theorem schT_hi {p : List UInt8} {A : List UInt64} {t : Nat} (hA : schA p 128 = A) (h : 16 ≤ t) : schT p A t = schB A (t - 16) := by
  unfold schT
  split
  · obtain rfl : t = 16 := by omega
    exact hA
  · rfl
theorem schT_step {p : List UInt8} {A : List UInt64} {j : Nat} (hA : schA p 128 = A) : schT p A (16 + j + 1) = (schB A j).set (16 + j) ((schB A j).getD j 0 + sig0 ((schB A j).getD (j + 1) 0) + (schB A j).getD (j + 9) 0 + sig1 ((schB A j).getD (j + 14) 0)) := by
  rw [schT_hi hA oM, show 16 + j + 1 - 16 = j + 1 by omega]; rfl
theorem schA_step (p : List UInt8) (t i : Nat) (hi : i < 8) : schA p (8 * t + (i + 1)) = (schA p (8 * t + i)).set t (shl64 ((schA p (8 * t + i)).getD t 0) 8 ||| (p.getD (8 * t + i) 0).toUInt64) := by
  have e : (8 * t + i) / 8 = t := by omega
  show schA p ((8 * t + i) + 1) = _
  rw [schA, e]

theorem r2_K (k : List UInt64) (hk : Hid (kW = k)) : Meets Tryz.prog 239 [] [] (fun _ => True) (fun v out => v = agg (wordsV k) ∧ out = []) := by
 intro W hW
 rw [← hk.out]
 refine calls_of (hp0 := []) Tryz.func239 J 2 Tryz.ntmps239 J (HRep.nil _) (Sat.seq (Sat.region (Tr.alloc (cs := (wordsV (List.replicate 80 0))) J Zr209 J ?_)))
 intro n0 hn0 hf0
 refine Tr.nil (at_n (Sat.seq (Sat.region (Tr.build (cs := wordsV kW) J J J (fun w => by kernel_rfl) ?_))))
 refine Tr.storeAll J J J J zB Sz209 (by (simp [kW]; done)) Z0 sP zU ?_
 refine Tr.nil (at_n (Sat.ret (en_r ?_)))
 refine ⟨_, [], res_cell J J Y209 J Sz209 Z0 (by simp [kW]), sP, sP, ?_, rfl⟩
 rfl

theorem r2_Start (k : List UInt64) (hk : Hid (startW = k)) : Meets Tryz.prog 208 [] [] (fun _ => True) (fun v out => v = agg (wordsV k) ∧ out = []) := by
 intro W hW
 rw [← hk.out]
 refine calls_of (hp0 := []) Tryz.func208 J 2 Tryz.ntmps208 J (HRep.nil _) (Sat.seq (Sat.region (Tr.alloc (cs := (wordsV (List.replicate 8 0))) J Zr135 J ?_)))
 intro n0 hn0 hf0
 refine Tr.nil (at_n (Sat.seq (Sat.region (Tr.build (cs := wordsV startW) J J J (fun w => by kernel_rfl) ?_))))
 refine Tr.storeAll J J J J zB Sz135 (by (simp [startW]; done)) Z0 sP zU ?_
 refine Tr.nil (at_n (Sat.ret (en_r ?_)))
 refine ⟨_, [], res_cell J J Y135 J Sz135 Z0 (by simp [startW]), sP, sP, ?_, rfl⟩
 rfl

theorem r2_rot (x : UInt64) (n : Nat) (hn : n ≤ 63) : Meets Tryz.prog 240 [u64 x, i64 (n : Int)] [] (fun _ => True) (fun v out => v = u64 (rolW x (64 - n)) ∧ out = []) := by
 intro W hW
 refine calls_of (hp0 := []) Tryz.func240 J 15 Tryz.ntmps240 J (HRep.nil _) (Sat.seq (Sat.region (Tr.assign J J (show evIn _ _ = some (u64 0) from rfl) (Tr.nil (at_n (Sat.seq (Sat.region (Tr.move J J J (Tr.move J J J (Tr.conv J J J Y3 Y35 (cv_i64_u64 _) (Tr.shr_u64 J J J J n (by rw [wordOf_id _ oM]) oM ?_)))))))))))
 refine Tr.move J J J (Tr.move J J J (Tr.subN 64 n J J J J oM (Tr.conv J J J Y3 Y35 (cv_i64_u64 _) (Tr.shl_u64 J J J J (64 - n) (by rw [wordOf_id _ oM]) oM ?_))))
 refine Tr.or_u64 J J J J (Tr.assign J J J (Tr.nil (at_n (Sat.ret (en_r ?_)))))
 refine ⟨_, [], res_tmp J J, sP, sP, ?_, rfl⟩
 rw [rolW_64 x n oM]

theorem r2_piece (st : List UInt64) (hst : st.length = 8) (p : List UInt8) (hp : p.length = 128) (q o c : Nat) (A w k : List UInt64) (R : W8) (hA : Hid (schA p 128 = A)) (hwp : Hid (schB A 64 = w)) (hk : Hid (kW = k)) (hk80 : k.length = 80) (hR : Hid (rnds k w (W8.of st) 80 = R)) : Meets Tryz.prog 213 [agg (wordsV st), .slice (some ⟨q, o, none⟩) 128 c] [] (fun W => Sees W q o (bytesV p)) (fun v out => v = agg (wordsV (addUp st R.l 8)) ∧ out = []) := by
 intro W hW
 have hA80 : A.length = 80 := by rw [← hA.out]; exact schA_length p 128
 have hw80 : w.length = 80 := by rw [← hwp.out, schB_length]; exact hA80
 have hRl := W8.l_length R
 have hlw := hw80
 have hcm := addUp_comm hst hRl
 refine calls_of (hp0 := []) Tryz.func213 J 176 Tryz.ntmps213 J (HRep.nil _) (Sat.seq (Sat.region (Tr.boxA J J ?_)))
 intro n2 hn2 hf2
 refine Tr.alloc (cs := (wordsV (List.replicate 8 0))) J Zr135 J ?_
 intro n4 hn4 hf4
 refine Tr.nil (at_n (Sat.seq (Sat.region (Tr.callV J J J J Body239 (r2_K k hk) (fun _ _ => trivial) (Tr.alloc (cs := (wordsV (List.replicate 80 0))) J Zr209 J ?_)))))
 intro n5 hn5 hf5
 refine Tr.storeAll J J J J zB Sz209 (by (simp [hk80]; done)) Z0 sP zU ?_
 refine Tr.nil (at_n (Sat.seq (Sat.region (Tr.alloc (cs := (wordsV (List.replicate 80 0))) J Zr209 J ?_))))
 intro n6 hn6 hf6
 refine Tr.nil (at_n (Sat.seq (Sat.seq (Sat.region (Tr.assign J J J (Tr.nil (at_n (Sat.block (Sat.loop (ι := Nat) (fun t => ⟨[(1, .slice (some ⟨q, o, none⟩) 128 c), (2, ptr n2 0), (4, ptr n4 0), (5, ptr n5 0), (6, ptr n6 0), (7, i64 (t : Int))], [⟨n6, wordsV (schT p A t), 209, 80⟩, ⟨n5, wordsV k, 209, 80⟩, ⟨n4, wordsV (List.replicate 8 0), 135, 8⟩, ⟨n2, wordsV st, 135, (wordsV st).length⟩]⟩) (fun t => t ≤ 80) (fun t => 80 - t) (0) ?_ ?_ ?_)))))))))
 · omega
 · exact weak_of (wk1 rfl (wk1 rfl (wk1 rfl (wk1 rfl (wk1 rfl (wk1 rfl wk0)))))) (wh1 (by rw [schT_lo oM]; exact mem0) (wh1 Z1 (wh1 Z2 (wh1 Z3 wh0)))) nD
 ·
  rintro t ht
  refine Sat.seq (Sat.seq (Sat.region (Tr.move J J J (Tr.lss J J J J J (Tr.nil (at_n (Sat.condP J (fun hc0 => ?_) (fun hc0 => ?_))))))))
  ·
   refine Sat.skip (at_n (Sat.seq (Sat.block (Sat.seq (Sat.seq (Sat.region (Tr.move J J J (Tr.lss J J J J J (Tr.nil (at_n (Sat.condP J (fun hc1 => ?_) (fun hc1 => ?_))))))))))))
   ·
    refine Sat.seq (Sat.seq (Sat.region (Tr.assign J J J (Tr.nil (at_n (Sat.block (Sat.loop (ι := Nat) (fun i => ⟨[(1, .slice (some ⟨q, o, none⟩) 128 c), (2, ptr n2 0), (4, ptr n4 0), (5, ptr n5 0), (6, ptr n6 0), (7, i64 (t : Int)), (8, i64 (i : Int))], [⟨n6, wordsV (schA p (8 * t + i)), 209, 80⟩, ⟨n5, wordsV k, 209, 80⟩, ⟨n4, wordsV (List.replicate 8 0), 135, 8⟩, ⟨n2, wordsV st, 135, (wordsV st).length⟩]⟩) (fun i => i ≤ 8) (fun i => 8 - i) (0) ?_ ?_ ?_)))))))
    · omega
    · exact weak_of (wk1 rfl (wk1 rfl (wk1 rfl (wk1 rfl (wk1 rfl (wk1 rfl (wk1 rfl wk0))))))) (wh1 (by rw [Nat.add_zero, ← schT_lo (p := p) (A := A) (by omega : t ≤ 16)]; exact mem0) (wh1 Z1 (wh1 Z2 (wh1 Z3 wh0)))) nD
    ·
     rintro i hi
     have hlw := schA_length p (8 * t + i)
     refine Sat.seq (Sat.seq (Sat.region (Tr.move J J J (Tr.lss J J J J J (Tr.nil (at_n (Sat.condP J (fun hc2 => ?_) (fun hc2 => ?_))))))))
     ·
      refine Sat.skip (at_n (Sat.seq (Sat.block (Sat.draw [(0, 0), (0, 1), (0, 2), (1, 3), (0, 4), (0, 5), (0, 6), (0, 7), (0, 8), (0, 9), (0, 10), (1, 11), (0, 12), (0, 13), (0, 14), (4, 15)] Mixed zK (Tr.move J J J (Tr.move J J J (Tr.idxArr1 J J J J Y209 Sz22 _ J oM (Tr.load1 J J J Y22 J Z0 (by exact get_words oM) ?_))))))))
      refine Tr.shl_u64 J J J J 8 J dE (Tr.move J J J (Tr.move J J J (Tr.mulN 8 t J J J J oM (Tr.move J J J (Tr.addN (8 * t) i J J J J oM (Tr.idxSlO J J J J Y39 Sz5 (8 * t + i) oM oM (Tr.loadE J J J Y5 J sP (hW (8 * t + i) _ (get_bytes oM)) (Tr.conv J J J Y5 Y22 (cv_u8_u64 _) (Tr.or_u64 J J J J (Tr.idxArr1 J J J J Y209 Sz22 _ J oM (Tr.store1 J J J J J Sz22 Z0 (by (simp [hlw]; omega)) (by exact set_words _ _ _) zU ?_)))))))))))
      refine Tr.nil (bl_n (at_n (Sat.region (Tr.move J J J (Tr.add_i64 J J J J oM (Tr.assign J J J (Tr.nil (at_n ?_))))))))
      exact ⟨i + 1, by omega, by omega, weak_of (wk1 rfl (wk1 rfl (wk1 rfl (wk1 rfl (wk1 rfl (wk1 rfl (wk1 rfl wk0))))))) (wh1 (by rw [schA_step p t i oM]; exact mem0) (wh1 Z1 (wh1 Z2 (wh1 Z3 wh0)))) nD⟩
     ·
      refine Sat.exit (at_x (at_x (bl_h (at_n (Sat.exit (at_x (bl_h (at_n (Sat.region (Tr.move J J J (Tr.add_i64 J J J J oM (Tr.assign J J J (Tr.nil (at_n ?_))))))))))))))
      exact ⟨t + 1, by omega, by omega, weak_of (wk1 rfl (wk1 rfl (wk1 rfl (wk1 rfl (wk1 rfl (wk1 rfl wk0)))))) (wh1 (by (rw [schT_lo (by omega : t + 1 ≤ 16), show 8 * (t + 1) = 8 * t + i by omega]; exact mem0)) (wh1 Z1 (wh1 Z2 (wh1 Z3 wh0)))) nD⟩
   ·
    obtain ⟨j, rfl⟩ : ∃ j, t = 16 + j := ⟨t - 16, by omega⟩
    rw [schT_hi hA.out (show 16 ≤ 16 + j by omega), show 16 + j - 16 = j by omega]
    have hlw : (schB A j).length = 80 := by rw [schB_length]; exact hA80
    refine Sat.skip (at_n (Sat.seq (Sat.draw [(0, 0), (0, 1), (0, 2), (1, 3), (0, 4), (0, 5), (0, 6), (1, 7), (0, 8), (0, 9)] Mixed zK (Tr.move J J J (Tr.sub_i64 J J J J oM (Tr.idxArr1 J J J J Y209 Sz22 (j + 1) oM oM (Tr.load1 J J J Y22 J Z0 (by exact get_words oM) ?_)))))))
    refine Tr.move J J J (Tr.sub_i64 J J J J oM (Tr.idxArr1 J J J J Y209 Sz22 (j + 14) oM oM (Tr.load1 J J J Y22 J Z0 (by exact get_words oM) ?_)))
    refine Tr.assign J J J (Tr.assign J J J (Tr.nil (at_n (Sat.draw [(0, 0), (0, 1), (0, 2), (0, 3), (1, 4), (0, 5), (0, 7), (0, 10), (0, 11), (0, 14), (0, 15), (0, 16), (1, 17), (0, 19), (0, 21), (0, 24), (0, 25), (3, 6), (3, 8), (0, 9), (0, 12), (0, 13), (0, 18), (3, 20), (3, 22), (0, 23), (0, 26), (0, 27), (0, 28), (4, 29)] Mixed zK (Tr.move J J J (Tr.move J J J (Tr.sub_i64 J J J J oM (Tr.idxArr1 J J J J Y209 Sz22 j oM oM (Tr.load1 J J J Y22 J Z0 (by exact get_words oM) ?_)))))))))
    refine Tr.move J J J (Tr.move J J J (Tr.move J J J (Tr.shr_u64 J J J J 7 J dE (Tr.move J J J (Tr.sub_i64 J J J J oM (Tr.idxArr1 J J J J Y209 Sz22 (j + 9) oM oM (Tr.load1 J J J Y22 J Z0 (by exact get_words oM) ?_)))))))
    refine Tr.move J J J (Tr.move J J J (Tr.move J J J (Tr.shr_u64 J J J J 6 J dE (Tr.callV J J J J Body240 (r2_rot _ 1 dE) (fun _ _ => trivial) (Tr.callV J J J J Body240 (r2_rot _ 8 dE) (fun _ _ => trivial) (Tr.xor_u64 J J J J (Tr.xor_u64 J J J J (Tr.add_u64 J J J J (Tr.add_u64 J J J J (Tr.callV J J J J Body240 (r2_rot _ 19 dE) (fun _ _ => trivial) (Tr.callV J J J J Body240 (r2_rot _ 61 dE) (fun _ _ => trivial) (Tr.xor_u64 J J J J (Tr.xor_u64 J J J J (Tr.add_u64 J J J J (Tr.idxArr1 J J J J Y209 Sz22 (16 + j) oM oM (Tr.store1 J J J J J Sz22 Z0 (by (simp [hlw]; omega)) (by exact set_words _ _ _) zU ?_))))))))))))))))
    refine Tr.nil (bl_n (at_n (Sat.region (Tr.move J J J (Tr.add_i64 J J J J oM (Tr.assign J J J (Tr.nil (at_n ?_))))))))
    exact ⟨16 + j + 1, by omega, by omega, weak_of (wk1 rfl (wk1 rfl (wk1 rfl (wk1 rfl (wk1 rfl (wk1 rfl wk0)))))) (wh1 (by (rw [schT_step hA.out]; exact mem0)) (wh1 Z1 (wh1 Z2 (wh1 Z3 wh0)))) nD⟩
  ·
   obtain rfl : t = 80 := by omega
   rw [show schT p A 80 = w from by rw [schT_hi hA.out dE]; exact hwp.out]
   refine Sat.exit (at_x (at_x (bl_h (at_n (Sat.seq (Sat.region (Tr.loadAll J J J Y135 J Sz135 Z3 (by (simp [hst]; done)) ?_)))))))
   refine Tr.alloc (cs := (wordsV (List.replicate 8 0))) J Zr135 J ?_
   intro n11 hn11 hf11
   refine Tr.storeAll J J J J zB Sz135 (by (simp [hst]; done)) Z0 sP zU ?_
   refine Tr.nil (at_n (Sat.seq (Sat.seq (Sat.region (Tr.assign J J J (Tr.nil (at_n (Sat.block (Sat.loop (ι := Nat) (fun t => ⟨[(2, ptr n2 0), (4, ptr n4 0), (5, ptr n5 0), (6, ptr n6 0), (11, ptr n11 0), (12, i64 (t : Int))], [⟨n11, wordsV (rnds k w (W8.of st) t).l, 135, 8⟩, ⟨n6, wordsV w, 209, 80⟩, ⟨n5, wordsV k, 209, 80⟩, ⟨n4, wordsV (List.replicate 8 0), 135, 8⟩, ⟨n2, wordsV st, 135, (wordsV st).length⟩]⟩) (fun t => t ≤ 80) (fun t => 80 - t) (0) ?_ ?_ ?_)))))))))
   · omega
   · exact weak_of (wk1 rfl (wk1 rfl (wk1 rfl (wk1 rfl (wk1 rfl (wk1 rfl wk0)))))) (wh1 (by rw [show (rnds k w (W8.of st) 0).l = st from W8.of_l hst]; exact mem0) (wh1 Z1 (wh1 Z2 (wh1 Z3 (wh1 Z4 wh0))))) nD
   ·
    rintro t ht
    have hlr := W8.l_length (rnds k w (W8.of st) t)
    refine Sat.seq (Sat.seq (Sat.region (Tr.move J J J (Tr.lss J J J J J (Tr.nil (at_n (Sat.condP J (fun hc3 => ?_) (fun hc3 => ?_))))))))
    ·
     refine Sat.skip (at_n (Sat.seq (Sat.block (Sat.seq (Sat.draw [(0, 0), (1, 1), (0, 2), (1, 3), (0, 4), (0, 5)] Mixed zK (Tr.idxArr1 J J J J Y135 Sz22 0 J dE (Tr.load1 J J J Y22 J Z0 (by rfl) ?_)))))))
     refine Tr.idxArr1 J J J J Y135 Sz22 4 J dE (Tr.load1 J J J Y22 J Z0 (by rfl) ?_)
     refine Tr.assign J J J (Tr.assign J J J (Tr.nil (at_n (Sat.seq (Sat.draw [(0, 0), (1, 1), (0, 2), (0, 4), (0, 7), (0, 11), (0, 12), (1, 13), (0, 14), (0, 15), (0, 16), (0, 17), (1, 18), (0, 19), (0, 20), (0, 22), (0, 23), (1, 24), (0, 26), (0, 27), (1, 28), (3, 3), (3, 5), (0, 6), (3, 8), (0, 9), (0, 10), (0, 21), (0, 25), (0, 29), (0, 30)] Mixed zK (Tr.idxArr1 J J J J Y135 Sz22 7 J dE (Tr.load1 J J J Y22 J Z0 (by rfl) ?_)))))))
     refine Tr.move J J J (Tr.move J J J (Tr.move J J J (Tr.move J J J (Tr.idxArr1 J J J J Y135 Sz22 5 J dE (Tr.load1 J J J Y22 J Z0 (by rfl) ?_)))))
     refine Tr.and_u64 J J J J (Tr.move J J J (Tr.not_u64 J J J (Tr.idxArr1 J J J J Y135 Sz22 6 J dE (Tr.load1 J J J Y22 J Z0 (by rfl) ?_))))
     refine Tr.and_u64 J J J J (Tr.xor_u64 J J J J (Tr.move J J J (Tr.idxArr1 J J J J Y209 Sz22 _ J oM (Tr.load1 J J J Y22 J Z2 (by exact get_words oM) ?_))))
     refine Tr.move J J J (Tr.idxArr1 J J J J Y209 Sz22 _ J oM (Tr.load1 J J J Y22 J Z1 (by exact get_words oM) ?_))
     refine Tr.callV J J J J Body240 (r2_rot _ 14 dE) (fun _ _ => trivial) (Tr.callV J J J J Body240 (r2_rot _ 18 dE) (fun _ _ => trivial) (Tr.xor_u64 J J J J (Tr.callV J J J J Body240 (r2_rot _ 41 dE) (fun _ _ => trivial) (Tr.xor_u64 J J J J (Tr.add_u64 J J J J (Tr.add_u64 J J J J (Tr.add_u64 J J J J (Tr.add_u64 J J J J (Tr.assign J J J (Tr.nil (at_n (Sat.seq (Sat.draw [(0, 0), (0, 2), (0, 5), (0, 8), (0, 9), (1, 10), (0, 11), (0, 12), (0, 13), (1, 14), (0, 15), (0, 16), (0, 17), (1, 18), (0, 19), (1, 20), (0, 21), (0, 22), (3, 1), (3, 3), (0, 4), (3, 6), (0, 7), (0, 23), (0, 24)] Mixed zK (Tr.move J J J (Tr.move J J J (Tr.move J J J (Tr.move J J J (Tr.idxArr1 J J J J Y135 Sz22 1 J dE (Tr.load1 J J J Y22 J Z0 (by rfl) ?_)))))))))))))))))))
     refine Tr.and_u64 J J J J (Tr.move J J J (Tr.idxArr1 J J J J Y135 Sz22 2 J dE (Tr.load1 J J J Y22 J Z0 (by rfl) ?_)))
     refine Tr.and_u64 J J J J (Tr.xor_u64 J J J J (Tr.idxArr1 J J J J Y135 Sz22 1 J dE (Tr.load1 J J J Y22 J Z0 (by rfl) ?_)))
     refine Tr.idxArr1 J J J J Y135 Sz22 2 J dE (Tr.load1 J J J Y22 J Z0 (by rfl) ?_)
     refine Tr.and_u64 J J J J (Tr.xor_u64 J J J J (Tr.callV J J J J Body240 (r2_rot _ 28 dE) (fun _ _ => trivial) (Tr.callV J J J J Body240 (r2_rot _ 34 dE) (fun _ _ => trivial) (Tr.xor_u64 J J J J (Tr.callV J J J J Body240 (r2_rot _ 39 dE) (fun _ _ => trivial) (Tr.xor_u64 J J J J (Tr.add_u64 J J J J (Tr.assign J J J (Tr.nil (at_n (Sat.region (Tr.move J J J (Tr.move J J J (Tr.add_u64 J J J J (Tr.move J J J (Tr.idxArr1 J J J J Y135 Sz22 1 J dE (Tr.load1 J J J Y22 J Z0 (by rfl) ?_)))))))))))))))))
     refine Tr.idxArr1 J J J J Y135 Sz22 2 J dE (Tr.load1 J J J Y22 J Z0 (by rfl) ?_)
     refine Tr.idxArr1 J J J J Y135 Sz22 3 J dE (Tr.load1 J J J Y22 J Z0 (by rfl) ?_)
     refine Tr.move J J J (Tr.add_u64 J J J J (Tr.move J J J (Tr.idxArr1 J J J J Y135 Sz22 5 J dE (Tr.load1 J J J Y22 J Z0 (by rfl) ?_))))
     refine Tr.idxArr1 J J J J Y135 Sz22 6 J dE (Tr.load1 J J J Y22 J Z0 (by rfl) ?_)
     refine Tr.build (cs := wordsV (rnd1 (rnds k w (W8.of st) t) (k.getD t 0) (w.getD t 0)).l) J J J (fun w => by kernel_rfl) ?_
     refine Tr.storeAll J J J J zB Sz135 (by (simp [W8.l_length]; done)) Z0 (by (simp [W8.l_length]; done)) zU ?_
     refine Tr.nil (bl_n (at_n (Sat.region (Tr.move J J J (Tr.add_i64 J J J J oM (Tr.assign J J J (Tr.nil (at_n ?_))))))))
     exact ⟨t + 1, by omega, by omega, weak_of (wk1 rfl (wk1 rfl (wk1 rfl (wk1 rfl (wk1 rfl (wk1 rfl wk0)))))) (wh1 Z0 (wh1 Z1 (wh1 Z2 (wh1 Z3 (wh1 Z4 wh0))))) nD⟩
    ·
     obtain rfl : t = 80 := by omega
     rw [hR.out]
     refine Sat.exit (at_x (at_x (bl_h (at_n (Sat.seq (Sat.seq (Sat.region (Tr.assign J J J (Tr.nil (at_n (Sat.block (Sat.loop (ι := Nat) (fun i => ⟨[(2, ptr n2 0), (4, ptr n4 0), (11, ptr n11 0), (17, i64 (i : Int))], [⟨n11, wordsV (addUp R.l st i), 135, 8⟩, ⟨n4, wordsV (List.replicate 8 0), 135, 8⟩, ⟨n2, wordsV st, 135, (wordsV st).length⟩]⟩) (fun i => i ≤ 8) (fun i => 8 - i) (0) ?_ ?_ ?_))))))))))))
     · omega
     · exact weak_of (wk1 rfl (wk1 rfl (wk1 rfl (wk1 rfl wk0)))) (wh1 Z0 (wh1 Z3 (wh1 Z4 wh0))) nD
     ·
      rintro i hi
      have hlu := addUp_length R.l st i
      refine Sat.seq (Sat.seq (Sat.region (Tr.move J J J (Tr.lss J J J J J (Tr.nil (at_n (Sat.condP J (fun hc4 => ?_) (fun hc4 => ?_))))))))
      ·
       refine Sat.skip (at_n (Sat.seq (Sat.block (Sat.draw [(0, 0), (0, 1), (0, 2), (1, 3), (0, 4), (0, 5), (1, 6), (0, 7), (0, 8), (4, 9)] Mixed zK (Tr.move J J J (Tr.move J J J (Tr.idxArr1 J J J J Y135 Sz22 _ J oM (Tr.load1 J J J Y22 J Z0 (by exact get_words oM) ?_))))))))
       refine Tr.move J J J (Tr.idxArr1 J J J J Y135 Sz22 _ J oM (Tr.load1 J J J Y22 J Z2 (by exact get_words oM) ?_))
       refine Tr.add_u64 J J J J (Tr.idxArr1 J J J J Y135 Sz22 _ J oM (Tr.store1 J J J J J Sz22 Z0 (by (simp [hRl, addUp_length]; omega)) (by exact set_words _ _ _) zU ?_))
       refine Tr.nil (bl_n (at_n (Sat.region (Tr.move J J J (Tr.add_i64 J J J J oM (Tr.assign J J J (Tr.nil (at_n ?_))))))))
       exact ⟨i + 1, by omega, by omega, weak_of (wk1 rfl (wk1 rfl (wk1 rfl (wk1 rfl wk0)))) (wh1 Z0 (wh1 Z1 (wh1 Z2 wh0))) nD⟩
      ·
       obtain rfl : i = 8 := by omega
       rw [hcm]
       refine Sat.exit (at_x (at_x (bl_h (at_n (Sat.seq (Sat.region (Tr.loadAll J J J Y135 J Sz135 Z0 (by (simp [hst, addUp_length]; done)) ?_)))))))
       refine Tr.storeAll J J J J zB Sz135 (by (simp [hst, addUp_length]; done)) Z1 sP zV ?_
       refine Tr.nil (at_n (Sat.ret (en_r ?_)))
       refine ⟨_, [], res_cell J J Y135 J Sz135 Z1 (by simp [hst, addUp_length]), sP, sP, ?_, rfl⟩
       rfl

theorem r2_bytes (st : List UInt64) (hst : st.length = 8) (s : List UInt8) (hs : Hid (sumUp st 64 = s)) : Meets Tryz.prog 140 [agg (wordsV st)] [] (fun _ => True) (fun v out => v = agg (bytesV s) ∧ out = []) := by
 intro W hW
 have hs64 : s.length = 64 := by rw [← hs.out]; exact sumUp_length st 64
 refine calls_of (hp0 := []) Tryz.func140 J 23 Tryz.ntmps140 J (HRep.nil _) (Sat.seq (Sat.region (Tr.boxA J J ?_)))
 intro n1 hn1 hf1
 refine Tr.alloc (cs := (bytesV (List.replicate 64 0))) J Zr26 J ?_
 intro n2 hn2 hf2
 refine Tr.nil (at_n (Sat.seq (Sat.region (Tr.alloc (cs := (bytesV (List.replicate 64 0))) J Zr26 J ?_))))
 intro n3 hn3 hf3
 refine Tr.nil (at_n (Sat.seq (Sat.seq (Sat.region (Tr.assign J J J (Tr.nil (at_n (Sat.block (Sat.loop (ι := Nat) (fun k => ⟨[(1, ptr n1 0), (2, ptr n2 0), (3, ptr n3 0), (4, i64 (k : Int))], [⟨n3, bytesV (sumUp st k), 26, 64⟩, ⟨n2, bytesV (List.replicate 64 0), 26, 64⟩, ⟨n1, wordsV st, 135, (wordsV st).length⟩]⟩) (fun k => k ≤ 64) (fun k => 64 - k) (0) ?_ ?_ ?_)))))))))
 · omega
 · exact weak_of (wk1 rfl (wk1 rfl (wk1 rfl (wk1 rfl wk0)))) (wh1 Z0 (wh1 Z1 (wh1 Z2 wh0))) nD
 ·
  rintro k hi
  have hlk := sumUp_length st k
  refine Sat.seq (Sat.seq (Sat.region (Tr.move J J J (Tr.lss J J J J J (Tr.nil (at_n (Sat.condP J (fun hc0 => ?_) (fun hc0 => ?_))))))))
  ·
   refine Sat.skip (at_n (Sat.seq (Sat.block (Sat.region (Tr.move J J J (Tr.move J J J (Tr.quo_i64 J J J J oM (Tr.idxArr1 J J J J Y135 Sz22 (k / 8) oM oM (Tr.load1 J J J Y22 J Z2 (by exact get_words oM) ?_)))))))))
   refine Tr.move J J J (Tr.remN k 8 J J J J dE (Tr.mulN 8 (k % 8) J J J J oM (Tr.subN 56 (8 * (k % 8)) J J J J oM (Tr.conv J J J Y3 Y35 (cv_i64_u64 _) (Tr.shr_u64 J J J J (56 - 8 * (k % 8)) (by rw [wordOf_id _ oM]) oM ?_)))))
   refine Tr.conv J J J Y22 Y5 (cv_u64_u8 _) (Tr.idxArr1 J J J J Y26 Sz5 _ J oM (Tr.store1 J J J J J Sz5 Z0 (by (simp [sumUp_length]; omega)) (by exact set_bytes _ _ _) zU ?_))
   refine Tr.nil (bl_n (at_n (Sat.region (Tr.move J J J (Tr.add_i64 J J J J oM (Tr.assign J J J (Tr.nil (at_n ?_))))))))
   exact ⟨k + 1, by omega, by omega, weak_of (wk1 rfl (wk1 rfl (wk1 rfl (wk1 rfl wk0)))) (wh1 Z0 (wh1 Z1 (wh1 Z2 wh0))) nD⟩
  ·
   obtain rfl : k = 64 := by omega
   rw [hs.out]
   clear hlk
   refine Sat.exit (at_x (at_x (bl_h (at_n (Sat.seq (Sat.region (Tr.loadAll J J J Y26 J Sz26 Z0 (by (simp [hs64]; done)) ?_)))))))
   refine Tr.storeAll J J J J zE Sz26 (by (simp [hs64]; done)) Z1 sP zV ?_
   refine Tr.nil (at_n (Sat.ret (en_r ?_)))
   refine ⟨_, [], res_cell J J Y26 J Sz26 Z1 (by simp [hs64]), sP, sP, ?_, rfl⟩
   rfl

theorem r2_join (p : Option Addr) (n c : Nat) (ss : List Sl) (ls : List (List UInt8)) (hss : ss.length = n) (hls : ls.length = n) (hsl : ∀ j, j < n → (ss.getD j Sl.nil).n = (ls.getD j []).length ∧ ((ss.getD j Sl.nil).p = none → (ss.getD j Sl.nil).n = 0)) (F : List UInt8) (hF : ls.flatten = F) (htot : F.length ≤ 90000) (hn : n ≤ 1000000)  : Meets Tryz.prog 143 [.slice p n c] [] (fun W => SeesP W p (ss.map Sl.v) ∧ ∀ j, j < n → SeesP W (ss.getD j Sl.nil).p (bytesV (ls.getD j []))) (fun v out => ∃ s, v = s.v ∧ Acc s out (bytesV F) 5 F.length 1) := by
 intro W hW
 have hle := take_flat_le ls
 rw [hF] at hle
 refine calls_of (hp0 := []) Tryz.func143 J 18 Tryz.ntmps143 J (HRep.nil _) (Sat.seq (Sat.region (Tr.assign J J J (Tr.nil (at_n (Sat.seq (Sat.region (Tr.assign J J J (Tr.nil (at_n (Sat.seq (Sat.seq (Sat.region (Tr.assign J J J (Tr.nil (at_n (Sat.block (Sat.loop (ι := Nat × Sl × List Blk) (fun x => ⟨[(0, .slice p n c), (3, x.2.1.v), (4, i64 (x.1 : Int))], (x.2.2 ++ [])⟩) (fun x => x.1 ≤ n ∧ Acc x.2.1 x.2.2 (bytesV (ls.take x.1).flatten) 5 (ls.take x.1).flatten.length 1) (fun x => n - x.1) ((0, Sl.nil, [])) ?_ ?_ ?_))))))))))))))))))
 · exact ⟨Nat.zero_le _, Acc.none⟩
 · exact weak_perm (wk1 rfl (wk1 rfl (wk1 rfl wk0))) (pm_none pm_nil)
 ·
  rintro x ⟨hx, hax⟩
  refine Sat.seq (Sat.seq (Sat.region (Tr.move J J J (Tr.move J J J (Tr.lenSl J J J Y133 (Tr.lss J J J J J (Tr.nil (at_n (Sat.condP J (fun hc0 => ?_) (fun hc0 => ?_))))))))))
  ·
   have hx3 : x.1 < n := by omega
   obtain ⟨b, o, hbp, hbs⟩ := hW.1.at (by rw [List.length_map]; omega)
   have hv : W.cell? ⟨b, o + x.1 * 1, none⟩ = some (ss.getD x.1 Sl.nil).v := by rw [Nat.mul_one]; exact hbs x.1 _ (sl_get oM)
   have hstep := hle (x.1 + 1)
   rw [take_flat oM, List.length_append, ← (hsl x.1 oM).1] at hstep
   refine Sat.skip (at_n (Sat.seq (Sat.block (Sat.region (Tr.move J J J (Tr.move J J J (Tr.move J J J (Tr.idxSlP 1 J J J hbp J Y133 Sz39 x.1 J oM (Tr.loadE J J J Y39 J sP (hv) (Tr.appendAcc (z := u8 0) (by' := 1) (bytesV (ls.getD x.1 [])) J J J J J Y39 Y39 Sz5 Zr5 (by unfold By; kernel_rfl) J hax sG (fun w h => seesP_ext h J (hW.2 x.1 oM)) (hsl x.1 oM).2 (bytesV_cell _) oM oM (by rw [bytesV, List.length_map, Nat.mul_one]; exact (hsl x.1 oM).1.symm) ?_))))))))))
   intro s16 bl16 hac16
   refine Tr.assign J J J (Tr.nil (bl_n (at_n (Sat.region (Tr.move J J J (Tr.add_i64 J J J J oM (Tr.assign J J J (Tr.nil (at_n ?_)))))))))
   refine ⟨(x.1 + 1, s16, bl16), ⟨by simp only []; omega, ?_⟩, by simp only []; omega, weak_perm (wk1 J (wk1 J (wk1 J wk0))) (pm_seg sG pm_nil)⟩
   rw [take_flat oM, List.length_append, ← (hsl x.1 oM).1]
   simpa [bytesV] using hac16
  ·
   have hx3 : x.1 = n := by omega
   rw [hx3, List.take_of_length_le oM, hF] at hax
   refine Sat.exit (at_x (at_x (bl_h (at_n (Sat.seq (Sat.region (Tr.move J J J (Tr.assign J J J (Tr.nil (at_n (Sat.ret (en_r (end_perm (out := (x.2.2 ++ [])) (res_tmp J J) (pm_seg sG pm_nil) ?_)))))))))))))
   exact ⟨x.2.1, rfl, by rw [List.append_nil]; exact hax⟩

theorem pad_acc (F : List UInt8) {q c : Nat} (x : UInt64) (h : F.length + 1 + padZ F.length + 8 ≤ c) : Acc ⟨some ⟨q, 0, none⟩, F.length + 1 + padZ F.length + 8, c⟩ [⟨q, bytesV (F ++ [128] ++ List.replicate (padZ F.length) 0) ++ List.replicate 8 (u8 0), 5, c⟩] (bytesV (F ++ [128] ++ List.replicate (padZ F.length) 0 ++ beUp 0 8 ++ beUp x 0)) 5 (F.length + 1 + padZ F.length + 8 + 0) 1 := by
  have e : bytesV (F ++ [128] ++ List.replicate (padZ F.length) 0) ++ List.replicate 8 (u8 0) = bytesV (F ++ [128] ++ List.replicate (padZ F.length) 0 ++ beUp 0 8 ++ beUp x 0) := by
    rw [show beUp x 0 = [] from rfl, List.append_nil, bytesV_app (b := beUp 0 8)]
    rfl
  have h2 : (bytesV (F ++ [128] ++ List.replicate (padZ F.length) 0 ++ beUp 0 8 ++ beUp x 0)).length = (F.length + 1 + padZ F.length + 8) * 1 := by
    simp [bytesV, beUp_length]; omega
  have h3 := Acc.some (q := q) (E := 5) (size := 1) h h2
  rw [Nat.mul_one] at h3
  rw [e]
  exact h3

theorem r2_Pad (s : Sl) (F : List UInt8) (hsl : s.n = F.length) (hsn : s.p = none → s.n = 0) (htot : F.length ≤ 90000) : Meets Tryz.prog 212 [s.v] [] (fun W => SeesP W s.p (bytesV F)) (fun v out => ∃ s, v = s.v ∧ Acc s out (bytesV (padB F)) 5 (padB F).length 1) := by
 intro W hW
 have hz := padZ_lt F.length
 refine calls_of (hp0 := []) Tryz.func212 J 38 Tryz.ntmps212 J (HRep.nil _) (Sat.seq (Sat.region (Tr.assign J J J (Tr.nil (at_n (Sat.seq (Sat.region (Tr.mkRow (z := u8 0) [] ([]) J J J Y39 Sz5 Zr5 J J (by intro v hv; cases hv) dE J ?_))))))))
 intro q6
 refine Tr.move J J J (Tr.appendSl (z := u8 0) (by' := 1) (bytesV F) J J J J J Y39 Y39 Sz5 Zr5 (by unfold By; kernel_rfl) J (fun w h => seesP_ext h J hW) hsn (bytesV_cell _) rM J J oM oM oM (by rw [bytesV, List.length_map]; omega) ?_)
 intro q8 c8 hq8
 refine Tr.mkRow (z := u8 0) [u8 (128)] (bytesV [128]) J J J Y39 Sz5 Zr5 J J (by intro v hv; rw [List.mem_singleton.1 hv]; rfl) dE J ?_
 intro q9
 refine Tr.appendSl (z := u8 0) (by' := 1) (bytesV [128]) J J J J J Y39 Y39 Sz5 Zr5 (by unfold By; kernel_rfl) J (fun w h => SeesP.of (sees_own h Z0)) (fun e => by cases e) (bytesV_cell _) rM J (by rw [List.nil_append, bytesV, List.length_map]; omega) oM oM oM (by rfl) ?_
 intro q10 c10 hq10
 refine Tr.assign J J J (Tr.nil (at_n (Sat.seq (Sat.block (Sat.loop (ι := Nat × Sl × List Blk) (fun z => ⟨[(0, s.v), (3, z.2.1.v)], (z.2.2 ++ [])⟩) (fun z => z.1 ≤ padZ F.length ∧ Acc z.2.1 z.2.2 (bytesV (F ++ [128] ++ List.replicate z.1 0)) 5 (F.length + 1 + z.1) 1) (fun z => padZ F.length - z.1) ((0, ⟨some ⟨q10, 0, none⟩, 0 + s.n + 1, c10⟩, [⟨q10, [] ++ bytesV F ++ bytesV [128], 5, c10 * 1⟩])) ?_ ?_ ?_)))))
 · exact ⟨Nat.zero_le _, by rw [show [] ++ bytesV F ++ bytesV [128] = bytesV (F ++ [128] ++ List.replicate 0 0) from by simp [bytesV], show 0 + s.n + 1 = F.length + 1 + 0 by omega]; exact Acc.some oM (by simp [bytesV])⟩
 · exact weak_perm (wk1 rfl (wk1 rfl wk0)) (pm_consE rM rfl rfl pm_nil)
 ·
  rintro ⟨j, sz, blz⟩ ⟨hz1, haz⟩
  simp only [] at hz1 haz
  have hzn := haz.num
  have hpz := padZ_at F.length j hz1
  refine Sat.seq (Sat.seq (Sat.region (Tr.move J J J (Tr.lenSl J J J Y39 (Tr.rem_i64 J J J J oM (Tr.nei J J J J J (Tr.nil (at_n (Sat.condNP J (fun hc0 => ?_) (fun hc0 => ?_))))))))))
  ·
   simp only [] at hc0
   have hz3 : j < padZ F.length := by omega
   refine Sat.skip (at_n (Sat.block (Sat.region (Tr.move J J J (Tr.mkRow (z := u8 0) [u8 (0)] (bytesV [0]) J J J Y39 Sz5 Zr5 J J (by intro v hv; rw [List.mem_singleton.1 hv]; rfl) dE J ?_)))))
   intro q16
   refine Tr.appendAcc (z := u8 0) (by' := 1) (bytesV [0]) J J J J J Y39 Y39 Sz5 Zr5 (by unfold By; kernel_rfl) J haz (by repeat (first | exact sg_here | apply sg_there)) (fun w h => SeesP.of (sees_own h Z0)) (fun e => by cases e) (bytesV_cell _) oM oM (by rfl) ?_
   intro s17 bl17 hac17
   refine Tr.assign J J J (Tr.nil (bl_n (at_n ?_)))
   refine ⟨(j + 1, s17, bl17), ⟨by simp only []; omega, ?_⟩, by simp only []; omega, weak_perm (wk1 J (wk1 J wk0)) (pm_seg sG pm_nil)⟩
   rw [List.replicate_succ', ← List.append_assoc]
   simpa [bytesV, Nat.add_assoc] using hac17
  ·
   simp only [] at hc0
   have hz3 : j = padZ F.length := by omega
   rw [hz3] at haz
   obtain ⟨qz, cz, rfl, hcz, rfl⟩ := acc_pos haz oM
   refine Sat.exit (at_x (at_x (bl_h (at_n (Sat.seq (Sat.region (Tr.move J J J (Tr.appendMade (n := F.length + 1 + padZ F.length) (m := 8) (z := u8 0) (by' := 1) J J J J J J Y39 Y3 Sz5 Zr5 (by unfold By; kernel_rfl) J J rM (Nat.mul_one _) (by rw [bytesV, List.length_map]; simp; omega) hcz oM dE ?_))))))))
   intro q19 c19 hq19
   refine Tr.assign J J J (Tr.nil (at_n (Sat.seq (Sat.region (Tr.move J J J (Tr.lenSl J J J Y39 (Tr.conv J J J Y3 Y22 (cv_i64_u64 _) ?_)))))))
   rw [word_nat (n := s.n) oM]
   refine Tr.mul_u64 J J J (show evIn _ _ = some (u64 8) from rfl) ?_
   rw [hsl]
   refine Tr.assign J J J (Tr.nil (at_n (Sat.seq (Sat.seq (Sat.region (Tr.assign J J J (Tr.nil (at_n (Sat.block (Sat.loop (ι := Nat × Sl × List Blk) (fun y => ⟨[(3, y.2.1.v), (4, u64 (UInt64.ofNat F.length * 8)), (5, i64 (7 - (y.1 : Int)))], (y.2.2 ++ [])⟩) (fun y => y.1 ≤ 8 ∧ Acc y.2.1 y.2.2 (bytesV (F ++ [128] ++ List.replicate (padZ F.length) 0 ++ beUp 0 8 ++ beUp (UInt64.ofNat F.length * 8) y.1)) 5 (F.length + 1 + padZ F.length + 8 + y.1) 1) (fun y => 8 - y.1) ((0, ⟨some ⟨q19, 0, none⟩, F.length + 1 + padZ F.length + 8, c19⟩, [⟨q19, bytesV (F ++ [128] ++ List.replicate (padZ F.length) 0) ++ List.replicate 8 (u8 0), 5, c19⟩])) ?_ ?_ ?_))))))))))
   · exact ⟨Nat.zero_le _, pad_acc F _ hq19⟩
   · exact weak_perm (wk1 rfl (wk1 rfl (wk1 rfl wk0))) (pm_consE rM rfl rfl pm_nil)
   ·
    rintro y ⟨hy, hay⟩
    refine Sat.seq (Sat.seq (Sat.region (Tr.move J J J (Tr.geq J J J J J (Tr.nil (at_n (Sat.condP J (fun hc1 => ?_) (fun hc1 => ?_))))))))
    ·
     have hy3 : y.1 ≤ 7 := by omega
     refine Sat.skip (at_n (Sat.seq (Sat.block (Sat.region (Tr.move J J J (Tr.move J J J (Tr.move J J J (Tr.mul_i64 J J J J oM (Tr.conv J J J Y3 Y35 (cv_i64_u64 _) (Tr.shr_u64 J J J J (56 - 8 * y.1) (by rw [wordOf_id _ oM]; omega) oM ?_))))))))))
     refine Tr.conv J J J Y22 Y5 (cv_u64_u8 _) (Tr.mkRow (z := u8 0) [u8 ((shr64 (UInt64.ofNat F.length * 8) (56 - 8 * y.1)).toUInt8)] (bytesV [(shr64 (UInt64.ofNat F.length * 8) (56 - 8 * y.1)).toUInt8]) J J J Y39 Sz5 Zr5 J J (by intro v hv; rw [List.mem_singleton.1 hv]; rfl) dE J ?_)
     intro q35
     refine Tr.appendAcc (z := u8 0) (by' := 1) (bytesV [(shr64 (UInt64.ofNat F.length * 8) (56 - 8 * y.1)).toUInt8]) J J J J J Y39 Y39 Sz5 Zr5 (by unfold By; kernel_rfl) J hay (by repeat (first | exact sg_here | apply sg_there)) (fun w h => SeesP.of (sees_own h Z0)) (fun e => by cases e) (bytesV_cell _) oM oM (by rfl) ?_
     intro s36 bl36 hac36
     refine Tr.assign J J J (Tr.nil (bl_n (at_n (Sat.region (Tr.move J J J (Tr.sub_i64 J J J J oM (Tr.assign J J J (Tr.nil (at_n ?_)))))))))
     refine ⟨(y.1 + 1, s36, bl36), ⟨by simp only []; omega, ?_⟩, by simp only []; omega, weak_perm (wk1 J (wk1 J (wk1 (congrArg (fun z => some (i64 z)) oM) wk0))) (pm_seg sG pm_nil)⟩
     rw [show beUp (UInt64.ofNat F.length * 8) (y.1 + 1) = beUp (UInt64.ofNat F.length * 8) y.1 ++ [(shr64 (UInt64.ofNat F.length * 8) (56 - 8 * y.1)).toUInt8] from rfl, ← List.append_assoc, bytesV_app]
     exact hac36
    ·
     have hy3 : y.1 = 8 := by omega
     rw [hy3] at hay
     refine Sat.exit (at_x (at_x (bl_h (at_n (Sat.seq (Sat.region (Tr.move J J J (Tr.assign J J J (Tr.nil (at_n (Sat.ret (en_r (end_perm (out := (y.2.2 ++ [])) (res_tmp J J) (pm_seg sG pm_nil) ?_)))))))))))))
     refine ⟨y.2.1, rfl, ?_⟩
     have e8 : UInt64.ofNat F.length * 8 = UInt64.ofNat (8 * F.length) := by
      apply UInt64.toNat_inj.1
      rw [mul8_nat (by rw [ofNat_nat oM]; omega), ofNat_nat oM, ofNat_nat oM]; omega
     rw [e8] at hay
     rw [padB_length, padB]
     simpa [Nat.add_assoc, Nat.add_comm, Nat.add_left_comm] using hay

theorem take_len2 {xs : List UInt8} {i K : Nat} (h : xs.length = 128 * K) (hi : i < K) : ((xs.drop (128 * i)).take 128).length = 128 := by simp; omega
theorem sees_chunk {w : World} {q i : Nat} {l : List UInt8} (h : Sees w q 0 (bytesV l)) : Sees w q (128 * i) (bytesV ((l.drop (128 * i)).take 128)) := fun j v hj => by
  have e : (bytesV l)[128 * i + j]? = some v := by
    rw [bytesV, List.map_take, List.map_drop, List.getElem?_take] at hj
    split at hj
    · rwa [List.getElem?_drop] at hj
    · cases hj
  have h1 := h _ v e
  rwa [Nat.zero_add] at h1
theorem cut_chunk (q c i : Nat) (h : 128 * i < c) : (.slice (some ⟨q, if c = 128 * i then 0 else 0 + 128 * i * 1, none⟩) (128 * i + 128 - 128 * i) (c - 128 * i) : Value) = .slice (some ⟨q, 128 * i, none⟩) 128 (c - 128 * i) := by
  rw [if_neg oM, show 128 * i + 128 - 128 * i = 128 by omega, show 0 + 128 * i * 1 = 128 * i by omega]

theorem r2_run (st : List UInt64) (hst : st.length = 8) (k : List UInt64) (hk : Hid (kW = k)) (hk80 : k.length = 80) (s : Sl) (F : List UInt8) (hsl : s.n = F.length) (hsn : s.p = none → s.n = 0) (htot : F.length ≤ 90000) : Meets Tryz.prog 141 [agg (wordsV st), s.v] [] (fun W => SeesP W s.p (bytesV F)) (fun v out => v = agg (wordsV (allW k st F)) ∧ out = []) := by
 intro W hW
 have hpl := padB_length F
 have hpz := padZ_lt F.length
 have hpm := padB_mod F
 obtain ⟨K, hK⟩ : ∃ K, (padB F).length / 128 = K := ⟨_, rfl⟩
 rw [hK] at hpm
 obtain ⟨U, hU⟩ : ∃ U, Hid (allW k st F = U) := ⟨_, ⟨rfl⟩⟩
 have hst2 : U.length = 8 := by rw [← hU.out, allW_length]; exact hst
 rw [hU.out]
 have hrl := hst2
 refine calls_of (hp0 := []) Tryz.func141 J 23 Tryz.ntmps141 J (HRep.nil _) (Sat.seq (Sat.region (Tr.boxA J J ?_)))
 intro n2 hn2 hf2
 refine Tr.alloc (cs := (wordsV (List.replicate 8 0))) J Zr135 J ?_
 intro n4 hn4 hf4
 refine Tr.nil (at_n (Sat.seq (Sat.region (Tr.move J J J (Tr.call4 J J J J J Body212 (r2_Pad s F hsl hsn htot) (fun w h => seesP_ext h J hW) ?_)))))
 rintro v8 out8 ⟨s7, rfl, hac7⟩
 obtain ⟨q7, c7, rfl, hc7, rfl⟩ := acc_pos hac7 oM
 refine Tr.assign J J J (Tr.nil (at_n (Sat.seq (Sat.seq (Sat.region (Tr.assign J J J (Tr.nil (at_n (Sat.block (Sat.loop (ι := Nat) (fun i => ⟨[(2, ptr n2 0), (4, ptr n4 0), (5, .slice (some ⟨q7, 0, none⟩) (padB F).length c7), (6, i64 ((128 * i : Nat) : Int))], [⟨q7, bytesV (padB F), 5, c7 * 1⟩, ⟨n4, wordsV (List.replicate 8 0), 135, 8⟩, ⟨n2, wordsV (runW k st (padB F) i), 135, (wordsV st).length⟩]⟩) (fun i => i ≤ K) (fun i => K - i) (0) ?_ ?_ ?_))))))))))
 · exact Nat.zero_le _
 · exact weak_perm (wk1 rfl (wk1 rfl (wk1 rfl (wk1 rfl wk0)))) (pm_cons rM (pm_cons rM (pm_cons rM pm_nil)))
 ·
  rintro i hi
  have hrl : (runW k st (padB F) i).length = 8 := by rw [runW_length]; exact hst
  refine Sat.seq (Sat.seq (Sat.region (Tr.move J J J (Tr.move J J J (Tr.lenSl J J J Y39 (Tr.lss J J J J J (Tr.nil (at_n (Sat.condP J (fun hc0 => ?_) (fun hc0 => ?_))))))))))
  ·
   have hi3 : i < K := by omega
   obtain ⟨A, hA⟩ : ∃ A, Hid (schA ((padB F).drop (128 * i) |>.take 128) 128 = A) := ⟨_, ⟨rfl⟩⟩
   obtain ⟨w, hwp⟩ : ∃ w, Hid (schB A 64 = w) := ⟨_, ⟨rfl⟩⟩
   obtain ⟨R, hR⟩ : ∃ R, Hid (rnds k w (W8.of (runW k st (padB F) i)) 80 = R) := ⟨_, ⟨rfl⟩⟩
   have e1 : addUp (runW k st (padB F) i) R.l 8 = runW k st (padB F) (i + 1) := by rw [runW, pieceW, schW, hA.out, hwp.out, hR.out]
   have hrl2 : (runW k st (padB F) (i + 1)).length = 8 := by rw [runW_length]; exact hst
   refine Sat.skip (at_n (Sat.seq (Sat.block (Sat.draw [(1, 0), (0, 1), (0, 2), (0, 3), (0, 4), (0, 5), (3, 6), (4, 7)] Mixed zK (Tr.loadAll J J J Y135 J Sz135 Z2 (by (simp [hrl]; done)) ?_)))))
   refine Tr.move J J J (Tr.move J J J (Tr.move J J J (Tr.add_i64 J J J J oM (Tr.sliceLoHiN (128*i) (128*i+128) J J J J J oM oM oM oM Y39 Sz5 ?_))))
   rw [cut_chunk q7 c7 i oM]
   refine Tr.callV J J J J Body213 (r2_piece (runW k st (padB F) i) hrl ((padB F).drop (128 * i) |>.take 128) (take_len2 hpm hi3) q7 (128 * i) (c7 - 128 * i) A w k R hA hwp hk hk80 hR) (fun w h => sees_chunk (sees_own h Z0)) ?_
   rw [e1]
   refine Tr.storeAll J J J J zB Sz135 (by (simp [hst, runW_length]; done)) Z2 (by (simp [hrl]; done)) (by exact upd2) ?_
   refine Tr.nil (bl_n (at_n (Sat.region (Tr.move J J J (Tr.add_i64 J J J J oM (Tr.assign J J J (Tr.nil (at_n ?_))))))))
   exact ⟨i + 1, by omega, by omega, weak_perm (wk1 rfl (wk1 rfl (wk1 rfl (wk1 (congrArg (fun z => some (i64 z)) oM) wk0)))) (pm_cons rM (pm_cons rM (pm_cons rM pm_nil)))⟩
  ·
   rw [show (runW k st (padB F) i) = U from by rw [show i = K by omega, ← hU.out, allW, hK]]
   refine Sat.exit (at_x (at_x (bl_h (at_n (Sat.seq (Sat.region (Tr.loadAll J J J Y135 J Sz135 Z2 (by (simp [hst2]; done)) ?_)))))))
   refine Tr.storeAll J J J J zB Sz135 (by (simp [hst2]; done)) Z1 sP zV ?_
   refine Tr.nil (at_n (Sat.ret (en_r ?_)))
   refine ⟨_, [], res_cell J J Y135 J Sz135 Z1 (by simp [hst2]), sP, sP, ?_, rfl⟩
   rfl

theorem r2_Sum512 (p : Option Addr) (n c : Nat) (ss : List Sl) (ls : List (List UInt8)) (hss : ss.length = n) (hls : ls.length = n) (hsl : ∀ j, j < n → (ss.getD j Sl.nil).n = (ls.getD j []).length ∧ ((ss.getD j Sl.nil).p = none → (ss.getD j Sl.nil).n = 0)) (F : List UInt8) (hF : ls.flatten = F) (htot : F.length ≤ 90000) (hn : n ≤ 1000000) (s : List UInt8) (hs : Hid (sha512 F = s))  : Meets Tryz.prog 136 [.slice p n c] [] (fun W => SeesP W p (ss.map Sl.v) ∧ ∀ j, j < n → SeesP W (ss.getD j Sl.nil).p (bytesV (ls.getD j []))) (fun v out => v = agg (bytesV s) ∧ out = []) := by
 intro W hW
 have hs64 : s.length = 64 := by rw [← hs.out]; exact sha512_length F
 obtain ⟨k, hk⟩ : ∃ k, Hid (kW = k) := ⟨_, ⟨rfl⟩⟩
 obtain ⟨st, hst⟩ : ∃ k, Hid (startW = k) := ⟨_, ⟨rfl⟩⟩
 obtain ⟨r, hr⟩ : ∃ r, Hid (allW k st F = r) := ⟨_, ⟨rfl⟩⟩
 have hk80 : k.length = 80 := by rw [← hk.out]; rfl
 have hst8 : st.length = 8 := by rw [← hst.out]; rfl
 have hr8 : r.length = 8 := by rw [← hr.out, allW_length]; exact hst8
 have hsum : Hid (sumUp r 64 = s) := ⟨by rw [← hr.out, ← hk.out, ← hst.out]; exact hs.out⟩
 have hrun := fun (x : Sl) (h1 : x.n = F.length) (h2 : x.p = none → x.n = 0) => r2_run st hst8 k hk hk80 x F h1 h2 htot
 rw [hr.out] at hrun
 refine calls_of (hp0 := []) Tryz.func136 J 8 Tryz.ntmps136 J (HRep.nil _) (Sat.seq (Sat.region (Tr.alloc (cs := (bytesV (List.replicate 64 0))) J Zr26 J ?_)))
 intro n2 hn2 hf2
 refine Tr.nil (at_n (Sat.seq (Sat.region (Tr.callV J J J J Body208 (r2_Start st hst) (fun _ _ => trivial) (Tr.move J J J (Tr.call4 J J J J J Body143 (r2_join p n c ss ls hss hls hsl F hF htot hn) (fun w h => ⟨seesP_ext h J hW.1, fun j hj => seesP_ext h J (hW.2 j hj)⟩) ?_))))))
 rintro v5 out5 ⟨s5, rfl, hac5⟩
 refine Tr.callV J J J J Body141 (hrun s5 hac5.num hac5.nil) (fun w h => hac5.see (Lies.of h (by repeat (exact in_here)))) ?_
 refine Tr.callV J J J J Body140 (r2_bytes r hr8 s hsum) (fun _ _ => trivial) (Tr.storeAll J J J J zE Sz26 (by (simp [hs64]; done)) (by (repeat (first | exact List.mem_cons_self | refine mem_seg ?_))) sP (by (repeat (first | exact upd0 | apply Upd.seg))) ?_)
 refine Tr.nil (at_n (Sat.ret (en_r ?_)))
 refine ⟨_, [], res_cell J J Y26 J Sz26 (by (repeat (first | exact List.mem_cons_self | refine mem_seg ?_))) (by simp [hs64]), sP, sP, ?_, rfl⟩
 rfl

end Go.Proofs.YtpacobmjjjillaaGreat
end

section
namespace Ed
open Hw Go
set_option linter.unusedVariables false

def mr : List Nat → List Nat → Nat
  | w :: ws, b :: bs => w + 2 ^ b * mr ws bs
  | _, _ => 0
def dg (n : Nat) : List Nat → List Nat
  | b :: bs => n % 2 ^ b :: dg (n / 2 ^ b) bs
  | [] => []
def carL (c : Nat) : List Nat → List Nat → List Nat
  | w :: ws, b :: bs => (w + c) % 2 ^ b :: carL ((w + c) / 2 ^ b) ws bs
  | _, _ => []
theorem dg_length : ∀ (bs : List Nat) (n : Nat), (dg n bs).length = bs.length
  | [], _ => rfl
  | b :: bs, n => by simp [dg, dg_length bs]
theorem carL_dg : ∀ (bs ws : List Nat) (c : Nat), ws.length = bs.length → carL c ws bs = dg (mr ws bs + c) bs
  | [], ws, c, h => by cases ws <;> simp_all [carL, dg]
  | b :: bs, [], c, h => by simp at h
  | b :: bs, w :: ws, c, h => by
    have hp : 0 < 2 ^ b := Nat.pow_pos dE
    have h1 : mr (w :: ws) (b :: bs) + c = (w + c) + 2 ^ b * mr ws bs := by rw [mr]; omega
    rw [carL, dg, h1, Nat.add_mul_mod_self_left, Nat.add_mul_div_left _ _ hp, carL_dg bs ws _ (by simpa using h), Nat.add_comm (mr ws bs)]
theorem mr_dg : ∀ (bs : List Nat) (n : Nat), mr (dg n bs) bs = n % 2 ^ bs.sum
  | [], n => by simp [mr, dg, Nat.mod_one]
  | b :: bs, n => by
    rw [dg, mr, mr_dg bs, List.sum_cons, Nat.pow_add, Nat.mod_mul]
def b10 : List Nat := [26, 25, 26, 25, 26, 25, 26, 25, 26, 25]
theorem b10_sum : b10.sum = 255 := rfl
def bitsAt (i : Nat) : Nat := if i % 2 = 0 then 26 else 25
def v10 (w : List Nat) : Nat := mr w b10
/-- one step of a carry -/
def stepC (w : List Nat) (i : Nat) : List Nat :=
  if i = 9 then (w.set i (w.getD i 0 % 2 ^ bitsAt i)).set 0 ((w.set i (w.getD i 0 % 2 ^ bitsAt i)).getD 0 0 + 19 * (w.getD i 0 / 2 ^ bitsAt i))
  else (w.set i (w.getD i 0 % 2 ^ bitsAt i)).set (i + 1) ((w.set i (w.getD i 0 % 2 ^ bitsAt i)).getD (i + 1) 0 + w.getD i 0 / 2 ^ bitsAt i)
def carAt (w : List Nat) : Nat → List Nat
  | 0 => w
  | i + 1 => stepC (carAt w i) i
def car10 (w : List Nat) : List Nat := (dg (v10 w) b10).set 0 (v10 w % 2 ^ 26 + 19 * (v10 w / 2 ^ 255))
theorem len10 {w : List Nat} (h : w.length = 10) : ∃ a b c d e f g i j k, w = [a, b, c, d, e, f, g, i, j, k] := by
  match w, h with
  | [a, b, c, d, e, f, g, i, j, k], _ => exact ⟨a, b, c, d, e, f, g, i, j, k, rfl⟩
def cout (c : Nat) : List Nat → List Nat → Nat
  | w :: ws, b :: bs => cout ((w + c) / 2 ^ b) ws bs
  | _, _ => c
theorem cout_eq : ∀ (bs ws : List Nat) (c : Nat), ws.length = bs.length → cout c ws bs = (mr ws bs + c) / 2 ^ bs.sum
  | [], ws, c, h => by cases ws <;> simp_all [cout, mr]
  | b :: bs, [], c, h => by simp at h
  | b :: bs, w :: ws, c, h => by
    have hp : 0 < 2 ^ b := Nat.pow_pos dE
    have h1 : mr (w :: ws) (b :: bs) + c = (w + c) + 2 ^ b * mr ws bs := by rw [mr]; omega
    rw [cout, h1, List.sum_cons, Nat.pow_add, ← Nat.div_div_eq_div_mul, Nat.add_mul_div_left _ _ hp, cout_eq bs ws _ (by simpa using h), Nat.add_comm (mr ws bs)]
theorem stepC_0 (a b c d e f g i j k : Nat) : stepC [a, b, c, d, e, f, g, i, j, k] 0 = [a % 2 ^ 26, b + a / 2 ^ 26, c, d, e, f, g, i, j, k] := rfl
theorem stepC_1 (a b c d e f g i j k : Nat) : stepC [a, b, c, d, e, f, g, i, j, k] 1 = [a, b % 2 ^ 25, c + b / 2 ^ 25, d, e, f, g, i, j, k] := rfl
theorem stepC_2 (a b c d e f g i j k : Nat) : stepC [a, b, c, d, e, f, g, i, j, k] 2 = [a, b, c % 2 ^ 26, d + c / 2 ^ 26, e, f, g, i, j, k] := rfl
theorem stepC_3 (a b c d e f g i j k : Nat) : stepC [a, b, c, d, e, f, g, i, j, k] 3 = [a, b, c, d % 2 ^ 25, e + d / 2 ^ 25, f, g, i, j, k] := rfl
theorem stepC_4 (a b c d e f g i j k : Nat) : stepC [a, b, c, d, e, f, g, i, j, k] 4 = [a, b, c, d, e % 2 ^ 26, f + e / 2 ^ 26, g, i, j, k] := rfl
theorem stepC_5 (a b c d e f g i j k : Nat) : stepC [a, b, c, d, e, f, g, i, j, k] 5 = [a, b, c, d, e, f % 2 ^ 25, g + f / 2 ^ 25, i, j, k] := rfl
theorem stepC_6 (a b c d e f g i j k : Nat) : stepC [a, b, c, d, e, f, g, i, j, k] 6 = [a, b, c, d, e, f, g % 2 ^ 26, i + g / 2 ^ 26, j, k] := rfl
theorem stepC_7 (a b c d e f g i j k : Nat) : stepC [a, b, c, d, e, f, g, i, j, k] 7 = [a, b, c, d, e, f, g, i % 2 ^ 25, j + i / 2 ^ 25, k] := rfl
theorem stepC_8 (a b c d e f g i j k : Nat) : stepC [a, b, c, d, e, f, g, i, j, k] 8 = [a, b, c, d, e, f, g, i, j % 2 ^ 26, k + j / 2 ^ 26] := rfl
theorem stepC_9 (a b c d e f g i j k : Nat) : stepC [a, b, c, d, e, f, g, i, j, k] 9 = [a + 19 * (k / 2 ^ 25), b, c, d, e, f, g, i, j, k % 2 ^ 25] := rfl
theorem carAt_car {w : List Nat} (h : w.length = 10) : carAt w 10 = (carL 0 w b10).set 0 ((carL 0 w b10).getD 0 0 + 19 * cout 0 w b10) := by
  obtain ⟨a, b, c, d, e, f, g, i, j, k, rfl⟩ := len10 h
  simp only [carAt, stepC_0, stepC_1, stepC_2, stepC_3, stepC_4, stepC_5, stepC_6, stepC_7, stepC_8, stepC_9, b10, carL, cout, Nat.add_zero, List.set_cons_zero, List.getD_cons_zero]
theorem carAt_eq {w : List Nat} (h : w.length = 10) : carAt w 10 = car10 w := by
  rw [carAt_car h, carL_dg b10 w 0 h, cout_eq b10 w 0 h, b10_sum]
  rfl
theorem car10_length (w : List Nat) : (car10 w).length = 10 := by simp [car10, dg_length, b10]
/-- words within their bits; the lowest may have a little more -/
structure Fit10 (w : List Nat) : Prop where
  len : w.length = 10
  lo : w.getD 0 0 < 2 ^ 26 + 128
  hi : ∀ i, 0 < i → i < 10 → w.getD i 0 < 2 ^ bitsAt i
theorem dg_lt : ∀ (bs : List Nat) (n i : Nat), i < bs.length → (dg n bs).getD i 0 < 2 ^ bs.getD i 0
  | b :: bs, n, 0, _ => Nat.mod_lt _ (Nat.pow_pos dE)
  | b :: bs, n, i + 1, h => dg_lt bs (n / 2 ^ b) i (by simpa using h)
theorem b10_at : ∀ i : _root_.Fin 10, b10.getD i.val 0 = bitsAt i.val := by decide
theorem car10_fit {w : List Nat} (h : v10 w < 6 * 2 ^ 255) : Fit10 (car10 w) := by
  refine ⟨car10_length w, ?_, fun i h1 h2 => ?_⟩
  · show v10 w % 2 ^ 26 + 19 * (v10 w / 2 ^ 255) < _
    have : v10 w / 2 ^ 255 < 6 := Nat.div_lt_of_lt_mul oM
    have := Nat.mod_lt (v10 w) (show 0 < 2 ^ 26 by decide)
    omega
  · have h3 := dg_lt b10 (v10 w) i h2
    rw [b10_at ⟨i, h2⟩] at h3
    rwa [car10, List.getD_eq_getElem?_getD, List.getElem?_set_ne oM, ← List.getD_eq_getElem?_getD]
theorem car10_val (w : List Nat) : v10 (car10 w) = v10 w % 2 ^ 255 + 19 * (v10 w / 2 ^ 255) := by
  have h1 : dg (v10 w) b10 = v10 w % 2 ^ 26 :: dg (v10 w / 2 ^ 26) [25, 26, 25, 26, 25, 26, 25, 26, 25] := rfl
  have h2 : mr (dg (v10 w) b10) b10 = v10 w % 2 ^ 255 := mr_dg b10 (v10 w)
  rw [← h2, v10, car10, h1]
  show (v10 w % 2 ^ 26 + 19 * (v10 w / 2 ^ 255)) + 2 ^ 26 * _ = (v10 w % 2 ^ 26 + 2 ^ 26 * _) + _
  generalize mr _ _ = x
  omega
theorem car10_v (w : List Nat) : fe (v10 (car10 w)) = fe (v10 w) := by
  rw [car10_val]
  have h4 : v10 w = v10 w % 2 ^ 255 + 2 ^ 255 * (v10 w / 2 ^ 255) := (Nat.mod_add_div _ _).symm
  generalize v10 w / 2 ^ 255 = q at *
  generalize v10 w % 2 ^ 255 = r at *
  rw [h4, fe_eq]
  have e : r + 2 ^ 255 * q = (r + 19 * q) + PF * q := by
    have : (2 : Nat) ^ 255 = 19 + PF := by decide
    rw [this, Nat.add_mul]; omega
  rw [e, Nat.add_mul_mod_self_left]
def atOf (i : Nat) : Nat := (51 * i + 1) / 2
def coef (i k : Nat) : Nat := (if i + k > 9 then 19 else 1) * (if i % 2 = 1 ∧ k % 2 = 1 then 2 else 1)
theorem coef_le (i k : Nat) : coef i k ≤ 38 := by
  unfold coef
  split <;> split <;> omega
def coefOk (i k : Nat) : Bool := Nat.beq (2 ^ atOf ((i + k) % 10) * coef i k % PF) (2 ^ atOf i * 2 ^ atOf k % PF)
def coefAll : Bool := (List.range 10).all fun i => (List.range 10).all fun k => coefOk i k
theorem coef_all : coefAll = true := by kernel_rfl
theorem coef_fe {i k : Nat} (hi : i < 10) (hk : k < 10) : fe (2 ^ atOf ((i + k) % 10) * coef i k) = fe (2 ^ atOf i) * fe (2 ^ atOf k) := by
  have h := coef_all
  unfold coefAll at h
  rw [List.all_eq_true] at h
  have h1 := h i (List.mem_range.2 hi)
  rw [List.all_eq_true] at h1
  have h2 := h1 k (List.mem_range.2 hk)
  rw [← fe_mul]
  exact fe_eq.2 (Nat.eq_of_beq_eq_true h2)
theorem mr_set (p : Nat) : ∀ (bs w : List Nat) (m : Nat), w.length = bs.length → m < w.length → mr (w.set m (w.getD m 0 + p)) bs = mr w bs + 2 ^ (bs.take m).sum * p
  | [], [], m, _, h => by simp at h
  | b :: bs, x :: w, 0, _, _ => by
    show (x + p) + 2 ^ b * mr w bs = (x + 2 ^ b * mr w bs) + 2 ^ 0 * p
    omega
  | b :: bs, x :: w, m + 1, h1, h2 => by
    have ih := mr_set p bs w m (by simpa using h1) (by simpa using h2)
    show x + 2 ^ b * mr (w.set m (w.getD m 0 + p)) bs = (x + 2 ^ b * mr w bs) + 2 ^ (b + (bs.take m).sum) * p
    rw [ih, Nat.mul_add, Nat.pow_add, Nat.mul_assoc, Nat.add_assoc]
theorem at_sum : ∀ m : _root_.Fin 10, (b10.take m.val).sum = atOf m.val := by decide
theorem v10_set {w : List Nat} (h : w.length = 10) (p : Nat) {m : Nat} (hm : m < 10) : v10 (w.set m (w.getD m 0 + p)) = v10 w + 2 ^ atOf m * p := by
  rw [v10, mr_set p b10 w m h oM, at_sum ⟨m, hm⟩]; rfl
def tCell (x y : List Nat) (i k : Nat) (o : List Nat) : List Nat := o.set ((i + k) % 10) (o.getD ((i + k) % 10) 0 + coef i k * (x.getD i 0 * y.getD k 0))
def tRow (x y : List Nat) (i : Nat) (o : List Nat) : Nat → List Nat
  | 0 => o
  | k + 1 => tCell x y i k (tRow x y i o k)
def tAll (x y : List Nat) : Nat → List Nat
  | 0 => List.replicate 10 0
  | i + 1 => tRow x y i (tAll x y i) 10
theorem tRow_length (x y : List Nat) (i : Nat) {o : List Nat} (h : o.length = 10) : ∀ k, (tRow x y i o k).length = 10
  | 0 => h
  | k + 1 => by rw [tRow, tCell, List.length_set, tRow_length x y i h k]
theorem tAll_length (x y : List Nat) : ∀ i, (tAll x y i).length = 10
  | 0 => rfl
  | i + 1 => tRow_length x y i (tAll_length x y i) 10
/-- the value of the first words -/
def pv (w : List Nat) : Nat → Fp
  | 0 => 0
  | k + 1 => pv w k + fe (2 ^ atOf k) * fe (w.getD k 0)
theorem pv_all {w : List Nat} (h : w.length = 10) : pv w 10 = fe (v10 w) := by
  obtain ⟨a, b, c, d, e, f, g, i, j, k, rfl⟩ := len10 h
  have e1 : v10 [a, b, c, d, e, f, g, i, j, k] = 2 ^ atOf 0 * a + 2 ^ atOf 1 * b + 2 ^ atOf 2 * c + 2 ^ atOf 3 * d + 2 ^ atOf 4 * e + 2 ^ atOf 5 * f + 2 ^ atOf 6 * g + 2 ^ atOf 7 * i + 2 ^ atOf 8 * j + 2 ^ atOf 9 * k := by
    simp only [v10, mr, b10, atOf, Nat.mul_add, ← Nat.mul_assoc, ← Nat.pow_add, Nat.mul_zero, Nat.add_zero, ← Nat.add_assoc]
    simp
  rw [e1]
  simp only [fe_add, fe_mul, pv, List.getD_cons_zero, List.getD_cons_succ]
  grind
theorem tRow_v (x y : List Nat) (i : Nat) (hi : i < 10) {o : List Nat} (h : o.length = 10) : ∀ k, k ≤ 10 → fe (v10 (tRow x y i o k)) = fe (v10 o) + fe (2 ^ atOf i) * fe (x.getD i 0) * pv y k
  | 0, _ => by simp only [tRow, pv]; grind
  | k + 1, hk => by
    have ih := tRow_v x y i hi h k oM
    have hc := coef_fe hi (show k < 10 by omega)
    rw [tRow, tCell, v10_set (tRow_length x y i h k) _ (Nat.mod_lt _ dE), fe_add, ih, ← Nat.mul_assoc, fe_mul, hc, fe_mul, pv]
    generalize fe (2 ^ atOf i) = A
    generalize fe (2 ^ atOf k) = B
    grind
theorem tAll_v {x y : List Nat} (hy : y.length = 10) : ∀ i, i ≤ 10 → fe (v10 (tAll x y i)) = pv x i * fe (v10 y)
  | 0, _ => by
    have e : fe (v10 (List.replicate 10 0)) = 0 := by kernel_rfl
    rw [tAll, e, pv]; grind
  | i + 1, hi => by
    rw [tAll, tRow_v x y i oM (tAll_length x y i) 10 (Nat.le_refl _), tAll_v hy i oM, pv_all hy, pv]
    grind
def ones : List Nat → Nat
  | b :: bs => 1 + 2 ^ b * ones bs
  | [] => 0
theorem mr_le (B : Nat) : ∀ bs w : List Nat, w.length = bs.length → (∀ m, m < w.length → w.getD m 0 ≤ B) → mr w bs ≤ B * ones bs
  | [], [], _, _ => Nat.zero_le _
  | b :: bs, x :: w, h1, h2 => by
    have ih := mr_le B bs w (by simpa using h1) (fun m hm => h2 (m + 1) (by simpa using hm))
    have hx : x ≤ B := h2 0 sP
    have h3 : 2 ^ b * mr w bs ≤ 2 ^ b * (B * ones bs) := Nat.mul_le_mul_left _ ih
    show x + 2 ^ b * mr w bs ≤ B * (1 + 2 ^ b * ones bs)
    rw [Nat.mul_add, Nat.mul_one, Nat.mul_left_comm B]
    omega
theorem ones_lt : Nat.ble (ones b10 + 1) (2 ^ 231) = true := by kernel_rfl
theorem v10_le {w : List Nat} (h : w.length = 10) (B : Nat) (h2 : ∀ m, m < 10 → w.getD m 0 ≤ B) : v10 w ≤ B * 2 ^ 231 :=
  Nat.le_trans (mr_le B b10 w h (by rw [h]; exact h2)) (Nat.mul_le_mul_left _ (Nat.le_of_succ_le (Nat.le_of_ble_eq_true ones_lt)))
theorem getD_set' {l : List Nat} {i j v : Nat} (hi : i < l.length) : (l.set i v).getD j 0 = if j = i then v else l.getD j 0 := by
  rw [List.getD_eq_getElem?_getD, List.getElem?_set]
  split
  · rename_i e; subst e; rw [if_pos rfl]; simp
  · rename_i e; rw [if_neg (fun h => e h.symm), List.getD_eq_getElem?_getD]
theorem tRow_le {x y : List Nat} {B i : Nat} (hi : i < 10) (hb : ∀ k, k < 10 → coef i k * (x.getD i 0 * y.getD k 0) ≤ B) {o : List Nat} (h : o.length = 10) : ∀ k, k ≤ 10 → ∀ m, m < 10 → (tRow x y i o k).getD m 0 ≤ o.getD m 0 + (if (m + 10 - i) % 10 < k then B else 0)
  | 0, _, m, hm => by rw [if_neg oM]; exact Nat.le_refl _
  | k + 1, hk, m, hm => by
    have ih := tRow_le hi hb h k oM
    have hl := tRow_length x y i h k
    rw [tRow, tCell, getD_set' (by rw [hl]; exact Nat.mod_lt _ dE)]
    split
    · rename_i e
      have h1 := ih m hm
      have h2 := hb k oM
      rw [if_neg oM] at h1
      rw [if_pos oM, ← e]
      omega
    · rename_i e
      have h1 := ih m hm
      refine Nat.le_trans h1 (Nat.add_le_add_left ?_ _)
      split
      · rw [if_pos oM]; exact Nat.le_refl _
      · exact Nat.zero_le _
theorem tAll_le {x y : List Nat} {B : Nat} (hb : ∀ i k, i < 10 → k < 10 → coef i k * (x.getD i 0 * y.getD k 0) ≤ B) : ∀ i, i ≤ 10 → ∀ m, m < 10 → (tAll x y i).getD m 0 ≤ i * B
  | 0, _, m, hm => by
    show (List.replicate 10 0).getD m 0 ≤ _
    rw [List.getD_eq_getElem?_getD, List.getElem?_replicate_of_lt hm, Nat.zero_mul]; exact Nat.le_refl _
  | i + 1, hi, m, hm => by
    have h1 := tRow_le oM (fun k hk => hb i k oM hk) (tAll_length x y i) 10 (Nat.le_refl _) m hm
    have h2 := tAll_le hb i oM m hm
    rw [if_pos (Nat.mod_lt _ dE)] at h1
    rw [tAll, Nat.succ_mul]
    omega
theorem Fit10.all {w : List Nat} (h : Fit10 w) {m : Nat} (hm : m < 10) : w.getD m 0 < 2 ^ 27 := by
  by_cases h0 : m = 0
  · subst h0; have := h.lo; omega
  · have h1 := h.hi m oM hm
    refine Nat.lt_of_lt_of_le h1 ?_
    unfold bitsAt; split <;> decide
theorem term_le {x y : List Nat} (hx : Fit10 x) (hy : Fit10 y) (i k : Nat) (hi : i < 10) (hk : k < 10) : coef i k * (x.getD i 0 * y.getD k 0) ≤ 38 * (2 ^ 27 * 2 ^ 27) :=
  Nat.mul_le_mul (coef_le i k) (Nat.mul_le_mul (Nat.le_of_lt (hx.all hi)) (Nat.le_of_lt (hy.all hk)))
def mulT (x y : List Nat) : List Nat := car10 (car10 (tAll x y 10))
theorem mulT_v {x y : List Nat} (hx : x.length = 10) (hy : y.length = 10) : fe (v10 (mulT x y)) = fe (v10 x) * fe (v10 y) := by
  rw [mulT, car10_v, car10_v, tAll_v hy 10 (Nat.le_refl _), pv_all hx]
theorem mr_lt : ∀ bs w : List Nat, w.length = bs.length → (∀ m, m < w.length → w.getD m 0 < 2 ^ bs.getD m 0) → mr w bs + 1 ≤ 2 ^ bs.sum
  | [], [], _, _ => Nat.le_refl _
  | b :: bs, x :: w, h1, h2 => by
    have ih := mr_lt bs w (by simpa using h1) (fun m hm => h2 (m + 1) (by simpa using hm))
    have hx : x < 2 ^ b := h2 0 sP
    have h3 : 2 ^ b * (mr w bs + 1) ≤ 2 ^ b * 2 ^ bs.sum := Nat.mul_le_mul_left _ ih
    rw [mr, List.sum_cons, Nat.pow_add]
    rw [Nat.mul_add, Nat.mul_one] at h3
    omega
theorem Fit10.v {w : List Nat} (h : Fit10 w) : v10 w < 2 ^ 255 + 128 := by
  have hl := h.len
  have h0 := h.lo
  have h1 := h.hi
  cases w with
  | nil => simp at hl
  | cons a t =>
    have h2 := mr_lt [25, 26, 25, 26, 25, 26, 25, 26, 25] t (by simpa using hl) (fun m hm => by
      have h3 := h1 (m + 1) oM (by simp at hl; omega)
      have h4 := b10_at ⟨m + 1, by simp at hl; omega⟩
      rw [← h4] at h3
      exact h3)
    have h5 : [25, 26, 25, 26, 25, 26, 25, 26, 25].sum = 229 := rfl
    rw [h5] at h2
    have h6 : a < 2 ^ 26 + 128 := h0
    show a + 2 ^ 26 * mr t _ < _
    omega
theorem mulT_fit {x y : List Nat} (hx : Fit10 x) (hy : Fit10 y) : Fit10 (mulT x y) := by
  have h1 := tAll_le (term_le hx hy) 10 (Nat.le_refl _)
  have h2 := v10_le (tAll_length x y 10) _ h1
  refine car10_fit ?_
  have h4 : v10 (tAll x y 10) / 2 ^ 255 < 2 ^ 40 := Nat.div_lt_of_lt_mul oM
  have h5 := Nat.mod_lt (v10 (tAll x y 10)) (show 0 < 2 ^ 255 by decide)
  rw [car10_val]
  omega
theorem mulT_length (x y : List Nat) : (mulT x y).length = 10 := car10_length _
def addAt (x y : List Nat) : Nat → List Nat
  | 0 => x
  | i + 1 => (addAt x y i).set i ((addAt x y i).getD i 0 + y.getD i 0)
theorem addAt_length {x : List Nat} (y : List Nat) (h : x.length = 10) : ∀ i, (addAt x y i).length = 10
  | 0 => h
  | i + 1 => by rw [addAt, List.length_set, addAt_length y h i]
def npv (w : List Nat) : Nat → Nat
  | 0 => 0
  | k + 1 => npv w k + 2 ^ atOf k * w.getD k 0
theorem addAt_v {x y : List Nat} (h : x.length = 10) : ∀ i, i ≤ 10 → v10 (addAt x y i) = v10 x + npv y i
  | 0, _ => rfl
  | i + 1, hi => by rw [addAt, v10_set (addAt_length y h i) _ oM, addAt_v h i oM, npv, Nat.add_assoc]
theorem npv_all {w : List Nat} (h : w.length = 10) : npv w 10 = v10 w := by
  obtain ⟨a, b, c, d, e, f, g, i, j, k, rfl⟩ := len10 h
  simp only [v10, mr, b10, atOf, Nat.mul_add, ← Nat.mul_assoc, ← Nat.pow_add, Nat.mul_zero, Nat.add_zero, ← Nat.add_assoc, npv, List.getD_cons_zero, List.getD_cons_succ]
  simp
def plusT (x y : List Nat) : List Nat := car10 (addAt x y 10)
theorem plusT_v {x y : List Nat} (hx : x.length = 10) (hy : y.length = 10) : fe (v10 (plusT x y)) = fe (v10 x) + fe (v10 y) := by
  rw [plusT, car10_v, addAt_v hx 10 (Nat.le_refl _), npv_all hy, fe_add]
theorem plusT_fit {x y : List Nat} (hx : Fit10 x) (hy : Fit10 y) : Fit10 (plusT x y) := by
  refine car10_fit ?_
  rw [addAt_v hx.len 10 (Nat.le_refl _), npv_all hy.len]
  have := hx.v
  have := hy.v
  omega
/-- four times the prime, in words -/
def p4 (i : Nat) : Nat := 4 * (2 ^ bitsAt i - 1 - (if i = 0 then 18 else 0))
def subAt (x y : List Nat) : Nat → List Nat
  | 0 => x
  | i + 1 => (subAt x y i).set i ((subAt x y i).getD i 0 + (p4 i - y.getD i 0))
theorem subAt_length {x : List Nat} (y : List Nat) (h : x.length = 10) : ∀ i, (subAt x y i).length = 10
  | 0 => h
  | i + 1 => by rw [subAt, List.length_set, subAt_length y h i]
def p4v : Nat → Nat
  | 0 => 0
  | k + 1 => p4v k + 2 ^ atOf k * p4 k
theorem p4v_all : p4v 10 = 4 * PF := by kernel_rfl
theorem p4_ge {y : List Nat} (hy : Fit10 y) {i : Nat} (hi : i < 10) : y.getD i 0 ≤ p4 i := by
  unfold p4
  by_cases h0 : i = 0
  · subst h0
    have := hy.lo
    rw [if_pos rfl]
    show _ ≤ 4 * (2 ^ 26 - 1 - 18)
    omega
  · have h1 := hy.hi i oM hi
    rw [if_neg h0]
    have : 1 ≤ 2 ^ bitsAt i := Nat.pow_pos dE
    omega
theorem subAt_v {x y : List Nat} (h : x.length = 10) (hy : Fit10 y) : ∀ i, i ≤ 10 → v10 (subAt x y i) + npv y i = v10 x + p4v i
  | 0, _ => rfl
  | i + 1, hi => by
    have ih := subAt_v h hy i oM
    have h1 := p4_ge hy (show i < 10 by omega)
    have h2 : 2 ^ atOf i * (p4 i - y.getD i 0) + 2 ^ atOf i * y.getD i 0 = 2 ^ atOf i * p4 i := by
      rw [← Nat.mul_add, Nat.sub_add_cancel h1]
    rw [subAt, v10_set (subAt_length y h i) _ oM, npv, p4v]
    omega
def minusT (x y : List Nat) : List Nat := car10 (subAt x y 10)
theorem minusT_v {x y : List Nat} (hx : x.length = 10) (hy : Fit10 y) : fe (v10 (minusT x y)) = fe (v10 x) - fe (v10 y) := by
  have h := congrArg fe (subAt_v hx hy 10 (Nat.le_refl _))
  rw [npv_all hy.len, p4v_all, fe_add, fe_add, fe_four] at h
  rw [minusT, car10_v]
  generalize fe (v10 (subAt x y 10)) = u at *
  generalize fe (v10 x) = a at *
  generalize fe (v10 y) = b at *
  grind
theorem minusT_fit {x y : List Nat} (hx : Fit10 x) (hy : Fit10 y) : Fit10 (minusT x y) := by
  refine car10_fit ?_
  have h := subAt_v hx.len hy 10 (Nat.le_refl _)
  rw [p4v_all] at h
  have h1 := hx.v
  have h2 : PF < 2 ^ 255 := by decide
  omega
theorem car10_low {w : List Nat} (h : v10 w < 2 ^ 255) : car10 w = dg (v10 w) b10 := by
  rw [car10, Nat.div_eq_of_lt h, Nat.mul_zero, Nat.add_zero]; rfl
theorem v10_dg {n : Nat} (h : n < 2 ^ 255) : v10 (dg n b10) = n := by rw [v10, mr_dg, b10_sum, Nat.mod_eq_of_lt h]
/-- the number below 2^255 that four carries leave -/
def low10 (w : List Nat) : Nat := v10 w % 2 ^ 255 + 19 * (v10 w / 2 ^ 255)
theorem low10_fe (w : List Nat) : fe (low10 w) = fe (v10 w) := by rw [low10, ← car10_val, car10_v]
theorem low10_lt {w : List Nat} (h : Fit10 w) : low10 w < 2 ^ 255 := by
  have h1 := h.v
  rw [low10]
  omega
theorem car10_four {w : List Nat} (h : Fit10 w) : car10 (car10 (car10 (car10 w))) = dg (low10 w) b10 := by
  have h1 := low10_lt h
  have h2 : v10 (car10 w) = low10 w := car10_val w
  have h3 : car10 (car10 w) = dg (low10 w) b10 := by rw [car10_low (by rw [h2]; exact h1), h2]
  have h4 : car10 (dg (low10 w) b10) = dg (low10 w) b10 := by rw [car10_low (by rw [v10_dg h1]; exact h1), v10_dg h1]
  rw [h3, h4, h4]
end Ed
end

section
namespace Ed
open Hw Go
set_option linter.unusedVariables false

structure Mid10 (w : List Nat) : Prop where
  len : w.length = 10
  le : ∀ m, m < 10 → w.getD m 0 ≤ 7205759403792793600
theorem bits_ge (i : Nat) : 33554432 ≤ 2 ^ bitsAt i := by unfold bitsAt; split <;> decide
theorem bits_le (i : Nat) : 2 ^ bitsAt i ≤ 67108864 := by unfold bitsAt; split <;> decide
theorem bits_26 (i : Nat) : bitsAt i ≤ 26 := by unfold bitsAt; split <;> decide
theorem carAt_length {w : List Nat} (h : w.length = 10) : ∀ i, (carAt w i).length = 10
  | 0 => h
  | i + 1 => by rw [carAt, stepC]; split <;> simp [carAt_length h i]
theorem div_bits (x i : Nat) (h : x ≤ 7205759403792793600 + 274877906944) : x / 2 ^ bitsAt i ≤ 274877906944 := by
  have h1 : x / 2 ^ bitsAt i ≤ x / 33554432 := Nat.div_le_div_left (bits_ge i) dE
  omega
theorem carAt_le {w : List Nat} (h : Mid10 w) : ∀ i, i < 10 → ∀ m, m < 10 → (carAt w i).getD m 0 ≤ (if m = i then 7205759403792793600 + 274877906944 else 7205759403792793600)
  | 0, _, m, hm => by
    have := h.le m hm
    rw [carAt]
    split <;> omega
  | i + 1, hi, m, hm => by
    have ih := carAt_le h i oM
    have hl := carAt_length h.len i
    have h2 := ih i oM
    rw [if_pos rfl] at h2
    rw [carAt, stepC, if_neg oM, getD_set' (by rw [List.length_set, hl]; omega)]
    split
    · rename_i e
      rw [getD_set' (by rw [hl]; omega), if_neg oM]
      have h1 := ih (i + 1) oM
      rw [if_neg oM] at h1
      have h3 := div_bits _ i h2
      omega
    · rename_i e
      rw [getD_set' (by rw [hl]; omega)]
      split
      · have h3 : (carAt w i).getD i 0 % 2 ^ bitsAt i < 2 ^ bitsAt i := Nat.mod_lt _ (Nat.pow_pos dE)
        have h4 := bits_le i
        omega
      · rename_i e2
        have h1 := ih m hm
        rw [if_neg e2] at h1
        exact h1
/-- what one round of a carry needs -/
structure CarK (w : List Nat) (k : Nat) : Prop where
  len : (carAt w k).length = 10
  x : (carAt w k).getD k 0 ≤ 7480637310737687 * 1000
  q : (carAt w k).getD k 0 / 2 ^ bitsAt k ≤ 274877906944
  nx : k < 9 → ((carAt w k).set k ((carAt w k).getD k 0 % 2 ^ bitsAt k)).getD (k + 1) 0 ≤ 7205759403792793600
  fs : k = 9 → ((carAt w k).set k ((carAt w k).getD k 0 % 2 ^ bitsAt k)).getD 0 0 ≤ 7205759403792793600
theorem carK {w : List Nat} (h : Mid10 w) {k : Nat} (hk : k < 10) : CarK w k := by
  have hl := carAt_length h.len k
  have h0 := carAt_le h k hk
  have h1 := h0 k hk
  rw [if_pos rfl] at h1
  refine ⟨hl, by omega, div_bits _ k h1, fun h9 => ?_, fun h9 => ?_⟩
  · rw [getD_set' (by rw [hl]; omega), if_neg oM]
    have := h0 (k + 1) oM
    rwa [if_neg oM] at this
  · rw [getD_set' (by rw [hl]; omega), if_neg oM]
    have := h0 0 oM
    rwa [if_neg oM] at this
theorem car_cut (x n : Nat) : x / 2 ^ n * 2 ^ n ≤ x ∧ x - x / 2 ^ n * 2 ^ n = x % 2 ^ n := by
  have := Nat.mod_add_div x (2 ^ n)
  rw [Nat.mul_comm] at this
  omega
theorem stepC_nine {w : List Nat} {k : Nat} (h : k = 9) : stepC w k = (w.set k (w.getD k 0 % 2 ^ bitsAt k)).set 0 ((w.set k (w.getD k 0 % 2 ^ bitsAt k)).getD 0 0 + 19 * (w.getD k 0 / 2 ^ bitsAt k)) := if_pos h
theorem stepC_low {w : List Nat} {k : Nat} (h : ¬ k = 9) : stepC w k = (w.set k (w.getD k 0 % 2 ^ bitsAt k)).set (k + 1) ((w.set k (w.getD k 0 % 2 ^ bitsAt k)).getD (k + 1) 0 + w.getD k 0 / 2 ^ bitsAt k) := if_neg h
theorem Fit10.mid {w : List Nat} (h : Fit10 w) : Mid10 w := ⟨h.len, fun m hm => by have := h.all hm; omega⟩
theorem car10_mid {w : List Nat} (h : v10 w < 2 ^ 300) : Mid10 (car10 w) := by
  refine ⟨car10_length w, fun m hm => ?_⟩
  have hl : (dg (v10 w) b10).length = 10 := by rw [dg_length]; rfl
  rw [car10, getD_set' (by rw [hl]; decide)]
  split
  · have h1 : v10 w / 2 ^ 255 < 2 ^ 45 := Nat.div_lt_of_lt_mul oM
    have h2 := Nat.mod_lt (v10 w) (show 0 < 2 ^ 26 by decide)
    omega
  · have h3 := dg_lt b10 (v10 w) m hm
    rw [b10_at ⟨m, hm⟩] at h3
    have := bits_le m
    simp only at h3
    omega
theorem tAll_mid {x y : List Nat} (hx : Fit10 x) (hy : Fit10 y) : Mid10 (tAll x y 10) :=
  ⟨tAll_length x y 10, fun m hm => by have := tAll_le (term_le hx hy) 10 (Nat.le_refl _) m hm; omega⟩
theorem tAll_v10 {x y : List Nat} (hx : Fit10 x) (hy : Fit10 y) : v10 (tAll x y 10) < 2 ^ 300 := by
  have h1 := tAll_le (term_le hx hy) 10 (Nat.le_refl _)
  have h2 := v10_le (tAll_length x y 10) _ h1
  omega
theorem addAt_get {x y : List Nat} (h : x.length = 10) : ∀ i, i ≤ 10 → ∀ m, m < 10 → (addAt x y i).getD m 0 = x.getD m 0 + (if m < i then y.getD m 0 else 0)
  | 0, _, m, hm => by rw [addAt, if_neg oM]; rfl
  | i + 1, hi, m, hm => by
    have ih := addAt_get (y := y) h i oM
    have hl := addAt_length y h i
    rw [addAt, getD_set' (by rw [hl]; omega)]
    split
    · rename_i e
      subst e
      rw [ih m hm, if_neg oM, if_pos oM]; rfl
    · rename_i e
      rw [ih m hm]
      by_cases h1 : m < i
      · rw [if_pos h1, if_pos oM]
      · rw [if_neg h1, if_neg oM]
theorem addAt_mid {x y : List Nat} (hx : Fit10 x) (hy : Fit10 y) : Mid10 (addAt x y 10) :=
  ⟨addAt_length y hx.len 10, fun m hm => by
    rw [addAt_get hx.len 10 (Nat.le_refl _) m hm, if_pos hm]
    have := hx.all hm
    have := hy.all hm
    omega⟩
theorem subAt_get {x y : List Nat} (h : x.length = 10) : ∀ i, i ≤ 10 → ∀ m, m < 10 → (subAt x y i).getD m 0 = x.getD m 0 + (if m < i then p4 m - y.getD m 0 else 0)
  | 0, _, m, hm => by rw [subAt, if_neg oM]; rfl
  | i + 1, hi, m, hm => by
    have ih := subAt_get (y := y) h i oM
    have hl := subAt_length y h i
    rw [subAt, getD_set' (by rw [hl]; omega)]
    split
    · rename_i e
      subst e
      rw [ih m hm, if_neg oM, if_pos oM]; rfl
    · rename_i e
      rw [ih m hm]
      by_cases h1 : m < i
      · rw [if_pos h1, if_pos oM]
      · rw [if_neg h1, if_neg oM]
theorem p4_le (m : Nat) : p4 m ≤ 268435456 := by
  have := bits_le m
  unfold p4
  omega
theorem subAt_mid {x y : List Nat} (hx : Fit10 x) : Mid10 (subAt x y 10) :=
  ⟨subAt_length y hx.len 10, fun m hm => by
    rw [subAt_get hx.len 10 (Nat.le_refl _) m hm, if_pos hm]
    have := hx.all hm
    have := p4_le m
    omega⟩
def o10 : List Nat := [26, 25, 26, 25, 26, 25, 26, 25, 26, 26]
def opB (i : Nat) : Nat := if i = 9 then 26 else bitsAt i
def opD (N : Nat) : List Nat := dg N o10
def opAt (N i : Nat) : List Nat := (opD N).take i ++ List.replicate (10 - i) 0
theorem opD_length (N : Nat) : (opD N).length = 10 := by rw [opD, dg_length]; rfl
theorem opAt_length (N i : Nat) (h : i ≤ 10) : (opAt N i).length = 10 := by
  rw [opAt, List.length_append, List.length_take, opD_length, List.length_replicate]; omega
theorem dg_get : ∀ (bs : List Nat) (n i : Nat), i < bs.length → (dg n bs).getD i 0 = n / 2 ^ (bs.take i).sum % 2 ^ bs.getD i 0
  | b :: bs, n, 0, _ => by
    show n % 2 ^ b = n / 2 ^ 0 % 2 ^ b
    rw [Nat.pow_zero, Nat.div_one]
  | b :: bs, n, i + 1, h => by
    have ih := dg_get bs (n / 2 ^ b) i (by simpa using h)
    show (dg (n / 2 ^ b) bs).getD i 0 = n / 2 ^ (b + (bs.take i).sum) % 2 ^ bs.getD i 0
    rw [ih, Nat.div_div_eq_div_mul, ← Nat.pow_add]
theorem o10_at : ∀ i : _root_.Fin 10, o10.getD i.val 0 = opB i.val ∧ (o10.take i.val).sum = atOf i.val := by decide
theorem opD_get (N : Nat) {i : Nat} (h : i < 10) : (opD N).getD i 0 = N / 2 ^ atOf i % 2 ^ opB i := by
  have h1 := o10_at ⟨i, h⟩
  rw [opD, dg_get o10 N i h, h1.1, h1.2]
theorem opAt_set (N : Nat) {i : Nat} (h : i < 10) : (opAt N i).set i (N / 2 ^ atOf i % 2 ^ opB i) = opAt N (i + 1) := by
  rw [← opD_get N h]
  have hl := opD_length N
  have e : (opD N).take (i + 1) = (opD N).take i ++ [(opD N).getD i 0] := by
    rw [List.getD_eq_getElem?_getD, List.getElem?_eq_getElem oM, Option.getD_some]
    exact List.take_succ_eq_append_getElem oM
  rw [opAt, opAt, show 10 - i = (10 - (i + 1)) + 1 by omega, List.replicate_succ, List.set_append_right _ _ (by rw [List.length_take, hl]; omega), List.length_take, hl, show i - min i 10 = 0 by omega, List.set_cons_zero, e, List.append_assoc]
  rfl
theorem opAt_first (N : Nat) {i : Nat} (h : i < 10) : (opAt N i).set i (N / 2 ^ atOf i % 2 ^ 0) = opAt N i := by
  have hl := opD_length N
  rw [Nat.pow_zero, Nat.mod_one, opAt, show 10 - i = (10 - (i + 1)) + 1 by omega, List.replicate_succ, List.set_append_right _ _ (by rw [List.length_take, hl]; omega), List.length_take, hl, show i - min i 10 = 0 by omega, List.set_cons_zero]
theorem opAt_ten (N : Nat) : opAt N 10 = opD N := by
  rw [opAt, Nat.sub_self, List.replicate_zero, List.append_nil, List.take_of_length_le (by rw [opD_length]; exact Nat.le_refl _)]
theorem opD_v {N : Nat} (h : N < 2 ^ 256) : v10 (opD N) = N := by
  have h1 : v10 (opD N) = mr (dg N o10) o10 := by simp [v10, opD, o10, b10, dg, mr]
  rw [h1, mr_dg]
  exact Nat.mod_eq_of_lt h
theorem opD_mid (N : Nat) : Mid10 (opD N) := ⟨opD_length N, fun m hm => by
  rw [opD_get N hm]
  have h1 : N / 2 ^ atOf m % 2 ^ opB m < 2 ^ opB m := Nat.mod_lt _ (Nat.pow_pos dE)
  have h2 : 2 ^ opB m ≤ 67108864 := by
    unfold opB
    split
    · decide
    · exact bits_le m
  omega⟩
def openT (N : Nat) : List Nat := car10 (opD N)
theorem openT_fit {N : Nat} (h : N < 2 ^ 256) : Fit10 (openT N) := car10_fit (by rw [opD_v h]; omega)
theorem openT_v {N : Nat} (h : N < 2 ^ 256) : fe (v10 (openT N)) = fe N := by rw [openT, car10_v, opD_v h]
theorem openT_length (N : Nat) : (openT N).length = 10 := car10_length _
theorem op_bit (N i k : Nat) : N / 2 ^ atOf i % 2 ^ (k + 1) = N / 2 ^ atOf i % 2 ^ k + (if N.testBit (atOf i + k) then 2 ^ k else 0) := by
  rw [mod_bit, Nat.testBit_div_two_pow, Nat.add_comm k]
theorem at_succ {i : Nat} (h : i < 10) : atOf i + bitsAt i = atOf (i + 1) := by
  have : ∀ i : _root_.Fin 10, atOf i.val + bitsAt i.val = atOf (i.val + 1) := by decide
  exact this ⟨i, h⟩
theorem at_le {i : Nat} (h : i < 10) : atOf i ≤ 230 := by unfold atOf; omega
theorem at_op {i : Nat} (h : i < 10) : atOf i + opB i ≤ 256 := by
  have : ∀ i : _root_.Fin 10, atOf i.val + opB i.val ≤ 256 := by decide
  exact this ⟨i, h⟩
theorem op_le (i : Nat) : opB i ≤ 26 := by
  unfold opB
  split
  · exact Nat.le_refl _
  · exact bits_26 i
theorem byte_hi {n i : Nat} (h : n < 256 ^ i) : n / 256 ^ i = 0 := Nat.div_eq_of_lt h
theorem bit_set (X : Nat) {m : Nat} (hm : m < 256) (hb : X.testBit m = true) : (leb 32 (X % 2 ^ m)).set (m / 8) ((leb 32 (X % 2 ^ m)).getD (m / 8) 0 + shl8 1 (m % 8)) = leb 32 (X % 2 ^ (m + 1)) := by
  have e1 : X % 2 ^ (m + 1) = X % 2 ^ m + 2 ^ m := by rw [mod_bit, if_pos hb]
  have e2 : (2 : Nat) ^ m = 256 ^ (m / 8) * 2 ^ (m % 8) := by rw [pow256, ← Nat.pow_add]; congr 1; omega
  have hlt : X % 2 ^ m < 2 ^ m := Nat.mod_lt _ (Nat.pow_pos dE)
  rw [e1]
  generalize X % 2 ^ m = A at *
  have hc : 2 ^ (m % 8) < 256 := Nat.pow_lt_pow_of_lt (a := 2) (n := m % 8) (m := 8) dE oM
  have hj : m / 8 < 32 := by omega
  generalize m / 8 = j at *
  apply List.ext_getElem?
  intro i
  rcases Nat.lt_or_ge i 32 with hi | hi
  · rw [List.getElem?_set, leb_length, leb_get 32 (A + 2 ^ m) i hi]
    split
    · rename_i e
      subst e
      rw [leb_getD 32 A _ hj]
      congr 1
      rw [shl8, show (1 : UInt8).toNat = 1 from rfl, Nat.one_mul, e2, Nat.add_mul_div_left _ _ (Nat.pow_pos dE), ← UInt8.ofNat_add]
    · rename_i e
      rw [leb_get 32 A i hi]
      congr 1
      apply ofNat8
      rcases Nat.lt_or_ge i j with h | h
      · rw [e2, byte_low A _ j i h]
      · have h2 : j + 1 ≤ i := by omega
        have h3 : A + 2 ^ m < 256 ^ i := by
          have h4 : (256 : Nat) ^ (j + 1) ≤ 256 ^ i := Nat.pow_le_pow_right dE h2
          have h5 : (2 : Nat) ^ m + 2 ^ m ≤ 256 ^ (j + 1) := by
            rw [e2, Nat.pow_succ, ← Nat.mul_add]
            refine Nat.mul_le_mul_left _ ?_
            have h6 : 2 ^ (m % 8) ≤ 2 ^ 7 := Nat.pow_le_pow_right dE oM
            omega
          omega
        rw [byte_hi h3, byte_hi oM]
  · rw [List.getElem?_eq_none (by rw [List.length_set, leb_length]; exact hi), List.getElem?_eq_none (by rw [leb_length]; exact hi)]
theorem bit_off (X m : Nat) (hb : X.testBit m = false) : leb 32 (X % 2 ^ m) = leb 32 (X % 2 ^ (m + 1)) := by
  rw [mod_bit, if_neg (by rw [hb]; decide), Nat.add_zero]
/-- bit k of word i -/
theorem dg_bit (X : Nat) {i k : Nat} (hi : i < 10) (hk : k < bitsAt i) : ((dg X b10).getD i 0).testBit k = X.testBit (atOf i + k) := by
  have h1 := b10_at ⟨i, hi⟩
  have h2 := at_sum ⟨i, hi⟩
  rw [dg_get b10 X i hi, h1, h2, Nat.testBit_mod_two_pow, Nat.testBit_div_two_pow, decide_eq_true hk, Bool.true_and, Nat.add_comm k]
theorem dg_bit_dec (X : Nat) {i k : Nat} (hi : i < 10) (hk : k < bitsAt i) : ((((dg X b10).getD i 0 / 2 ^ k : Nat) : Int) % 2 = 1) ↔ X.testBit (atOf i + k) = true := by
  rw [← dg_bit X hi hk, Nat.testBit_eq_decide_div_mod_eq, decide_eq_true_eq]
  omega
def topL (d : Nat) : List UInt8 := UInt8.ofNat (237 + d) :: (List.replicate 30 255 ++ [127])
theorem top_all : ((List.range 19).all fun d => leb 32 (PF + d) == topL d && leb 32 d == UInt8.ofNat d :: List.replicate 31 0) = true := by kernel_rfl
theorem top_at {d : Nat} (h : d < 19) : leb 32 (PF + d) = topL d ∧ leb 32 d = UInt8.ofNat d :: List.replicate 31 0 := by
  have := List.all_eq_true.1 top_all d (List.mem_range.2 h)
  rw [Bool.and_eq_true] at this
  exact ⟨eq_of_beq this.1, eq_of_beq this.2⟩
theorem pf_19 : PF + 19 = 2 ^ 255 := by decide
theorem fb_low {X : Nat} (h : X < PF) : leb 32 X = fb (fe X) := by rw [fb_fe, Nat.mod_eq_of_lt h]
theorem not_top {X : Nat} (hX : X < 2 ^ 255) (h : ¬ (237 ≤ ((leb 32 X).getD 0 0).toNat ∧ ((leb 32 X).getD 31 0).toNat = 127)) : leb 32 X = fb (fe X) := by
  rcases Nat.lt_or_ge X PF with h1 | h1
  · exact fb_low h1
  · exfalso
    have h2 := pf_19
    obtain ⟨d, rfl⟩ : ∃ d, X = PF + d := ⟨X - PF, by omega⟩
    have hd : d < 19 := by omega
    rw [(top_at hd).1] at h
    refine h ⟨?_, rfl⟩
    show 237 ≤ (UInt8.ofNat (237 + d)).toNat
    rw [UInt8.toNat_ofNat']
    omega
theorem not_mid {X i : Nat} (hX : X < 2 ^ 255) (hi : 0 < i) (hi2 : i < 31) (h : ¬ ((leb 32 X).getD i 0).toNat = 255) : leb 32 X = fb (fe X) := by
  rcases Nat.lt_or_ge X PF with h1 | h1
  · exact fb_low h1
  · exfalso
    have h2 := pf_19
    obtain ⟨d, rfl⟩ : ∃ d, X = PF + d := ⟨X - PF, by omega⟩
    have hd : d < 19 := by omega
    rw [(top_at hd).1] at h
    refine h ?_
    obtain ⟨j, rfl⟩ : ∃ j, i = j + 1 := ⟨i - 1, by omega⟩
    show ((List.replicate 30 (255 : UInt8) ++ [127]).getD j 0).toNat = 255
    rw [List.getD_eq_getElem?_getD, List.getElem?_append_left (by rw [List.length_replicate]; omega), List.getElem?_replicate_of_lt oM]
    rfl
theorem u8_eq (x y : UInt8) (h : x.toNat = y.toNat) : x = y := UInt8.toNat_inj.1 h
theorem top_list {l : List UInt8} {d : Nat} (hl : l.length = 32) (hd19 : d < 19) (hd : (l.getD 0 0).toNat = 237 + d) (h31 : (l.getD 31 0).toNat = 127) (hm : ∀ i, 0 < i → i < 31 → (l.getD i 0).toNat = 255) : l = topL d := by
  apply List.ext_getElem?
  intro i
  rcases Nat.lt_or_ge i 32 with hi | hi
  · have g : l[i]? = some (l.getD i 0) := by
      rw [List.getD_eq_getElem?_getD, List.getElem?_eq_getElem oM]; rfl
    rw [g]
    by_cases h1 : i = 0
    · rw [h1]
      show _ = some (UInt8.ofNat (237 + d))
      refine congrArg some (u8_eq _ _ ?_)
      rw [hd, UInt8.toNat_ofNat']
      exact (Nat.mod_eq_of_lt oM).symm
    · obtain ⟨j, rfl⟩ : ∃ j, i = j + 1 := ⟨i - 1, by omega⟩
      show _ = (List.replicate 30 (255 : UInt8) ++ [127])[j]?
      by_cases h2 : j = 30
      · rw [h2]
        exact congrArg some (u8_eq _ _ h31)
      · rw [List.getElem?_append_left (by rw [List.length_replicate]; omega), List.getElem?_replicate_of_lt oM]
        exact congrArg some (u8_eq _ _ (hm (j + 1) oM oM))
  · rw [List.getElem?_eq_none oM, List.getElem?_eq_none (by simp only [topL, List.length_cons, List.length_append, List.length_replicate, List.length_nil]; omega)]
theorem top_sub : ∀ d : _root_.Fin 19, UInt8.ofNat (237 + d.val) - 237 = UInt8.ofNat d.val := by decide
theorem top_val {X d : Nat} (hX : X < 2 ^ 255) (hd : d < 19) (h : leb 32 X = topL d) : X = PF + d := by
  have h5 := (top_at hd).1
  rw [← h] at h5
  have h6 := congrArg le h5
  have h7 := pf_19
  rw [le_leb, le_leb] at h6
  generalize PF = p at *
  rw [Nat.mod_eq_of_lt (Nat.lt_of_lt_of_le (show p + d < 2 ^ 255 by omega) (Nat.le_of_lt dE)), Nat.mod_eq_of_lt (Nat.lt_trans hX dE)] at h6
  exact h6.symm
theorem is_top {X : Nat} (hX : X < 2 ^ 255) (h0 : 237 ≤ ((leb 32 X).getD 0 0).toNat) (h31 : ((leb 32 X).getD 31 0).toNat = 127) (hm : ∀ i, 0 < i → i < 31 → ((leb 32 X).getD i 0).toNat = 255) : ((leb 32 X).getD 0 0 - 237) :: List.replicate 31 0 = fb (fe X) := by
  have h3 := ((leb 32 X).getD 0 0).toNat_lt
  obtain ⟨d, hd⟩ : ∃ d, ((leb 32 X).getD 0 0).toNat = 237 + d := ⟨((leb 32 X).getD 0 0).toNat - 237, by omega⟩
  have hd19 : d < 19 := by omega
  have e := top_list (leb_length 32 X) hd19 hd h31 hm
  have e2 := top_val hX hd19 e
  have e3 : (leb 32 X).getD 0 0 = UInt8.ofNat (237 + d) := by rw [e]; rfl
  have h7 : fe X = fe d := by rw [e2, fe_eq, Nat.add_mod_left]
  rw [h7, fb_fe, Nat.mod_eq_of_lt (Nat.lt_trans hd19 dE), (top_at hd19).2, e3, top_sub ⟨d, hd19⟩]
theorem finv_mulF (a b : Fp) : finv (a * b) = finv a * finv b := mulpow dE
def cA : Fp := fe 121666
def cB : Fp := fe 121665
theorem cA_ne : cA ≠ 0 := by
  intro h
  have := congrArg Fin.val h
  revert this
  decide
theorem fD_cA : fD * cA = -cB := by kernel_rfl
theorem ref_quot (Y : Fp) : cA * (Y * Y - 1) * finv (cA - cB * (Y * Y)) = (Y * Y - 1) * finv (fD * (Y * Y) + 1) := by
  have h1 : cA - cB * (Y * Y) = cA * (fD * (Y * Y) + 1) := by
    have := fD_cA
    generalize Y * Y = q at *
    generalize cA = a at *
    generalize cB = b at *
    generalize fD = d at *
    grind
  have h2 := finv_mul cA_ne
  rw [h1, finv_mulF]
  generalize finv (fD * (Y * Y) + 1) = u at *
  generalize finv cA = v at *
  generalize cA = a at *
  grind
theorem ref_D : -cB * finv cA = fD := by
  have h1 := fD_cA
  have h2 := finv_mul cA_ne
  generalize finv cA = v at *
  generalize cA = a at *
  generalize cB = b at *
  generalize fD = d at *
  grind
end Ed
end

section
namespace Go.Proofs.YtpacobmjjjillaaGreat
open Go Hw
set_option linter.unusedVariables false
set_option linter.unusedSimpArgs false

open Ed

theorem bits_even {i : Nat} (h : (i : Int).tmod 2 = 0) : bitsAt i = 26 := by 
  unfold bitsAt
  have e : (i : Int).tmod 2 = ((i % 2 : Nat) : Int) := rfl
  rw [if_pos oM]
theorem bits_odd {i : Nat} (h : ¬ (i : Int).tmod 2 = 0) : bitsAt i = 25 := by 
  unfold bitsAt
  have e : (i : Int).tmod 2 = ((i % 2 : Nat) : Int) := rfl
  rw [if_neg oM]
theorem bits_w (i : Nat) : ((UInt64.ofNat (bitsAt i)).toNat : Int) = ((bitsAt i : Nat) : Int) := by
  have := bits_26 i
  rw [UInt64.toNat_ofNat', Nat.mod_eq_of_lt oM]
theorem bits_wn (i : Nat) : (UInt64.ofNat (bitsAt i)).toNat = bitsAt i := by
  have := bits_26 i
  rw [UInt64.toNat_ofNat', Nat.mod_eq_of_lt oM]
theorem carAt_nine {w : List Nat} {k : Nat} (h : (k : Int) = 9) : carAt w (k + 1) = ((carAt w k).set k ((carAt w k).getD k 0 % 2 ^ bitsAt k)).set 0 (((carAt w k).set k ((carAt w k).getD k 0 % 2 ^ bitsAt k)).getD 0 0 + 19 * ((carAt w k).getD k 0 / 2 ^ bitsAt k)) := stepC_nine oM
theorem carAt_low {w : List Nat} {k : Nat} (h : ¬ (k : Int) = 9) : carAt w (k + 1) = ((carAt w k).set k ((carAt w k).getD k 0 % 2 ^ bitsAt k)).set (k + 1) (((carAt w k).set k ((carAt w k).getD k 0 % 2 ^ bitsAt k)).getD (k + 1) 0 + (carAt w k).getD k 0 / 2 ^ bitsAt k) := stepC_low oM
theorem opB_nine {i : Nat} (h : (i : Int) = 9) : opB i = 26 := if_pos oM
theorem opB_low {i : Nat} (h : ¬ (i : Int) = 9) : opB i = bitsAt i := if_neg oM
theorem natc {a b : Nat} (h : a = b) : some (i64 (a : Int)) = some (i64 (b : Int)) := by rw [h]

theorem r3_bits (i : Nat) (hi : i < 10) : Meets Tryz.prog 229 [i64 (i : Int)] [] (fun _ => True) (fun v out => v = u64 (UInt64.ofNat (bitsAt i)) ∧ out = []) := by
 intro W hW
 refine calls_of (hp0 := []) Tryz.func229 J 6 Tryz.ntmps229 J (HRep.nil _) (Sat.seq (Sat.region (Tr.assign J J (show evIn _ _ = some (u64 0) from rfl) (Tr.nil (at_n (Sat.seq (Sat.seq (Sat.region (Tr.move J J J (Tr.rem_i64 J J J J oM (Tr.eqi J J J J J (Tr.nil (at_n (Sat.condP J (fun hc0 => ?_) (fun hc0 => ?_)))))))))))))))
 ·
  rw [bits_even hc0]
  refine Sat.seq (Sat.region (Tr.assign J J (show evIn _ _ = some (u64 26) from rfl) (Tr.nil (at_n (Sat.ret (at_r (en_r ?_)))))))
  refine ⟨_, [], res_tmp J J, sP, sP, ?_, rfl⟩
  rfl
 ·
  rw [bits_odd hc0]
  refine Sat.skip (at_n (Sat.seq (Sat.region (Tr.assign J J (show evIn _ _ = some (u64 25) from rfl) (Tr.nil (at_n (Sat.ret (en_r ?_))))))))
  refine ⟨_, [], res_tmp J J, sP, sP, ?_, rfl⟩
  rfl

theorem r3_carry (w : List Nat) (h : Mid10 w) : Meets Tryz.prog 230 [agg (wdsV w)] [] (fun _ => True) (fun v out => v = agg (wdsV (car10 w)) ∧ out = []) := by
 intro W hW
 have hlw := h.len
 obtain ⟨u, hu0⟩ : ∃ u, Hid (car10 w = u) := ⟨_, ⟨rfl⟩⟩
 have hul : u.length = 10 := by rw [← hu0.out]; exact car10_length w
 rw [hu0.out]
 refine calls_of (hp0 := []) Tryz.func230 J 43 Tryz.ntmps230 J (HRep.nil _) (Sat.seq (Sat.region (Tr.boxA J J ?_)))
 intro n1 hn1 hf1
 refine Tr.alloc (cs := (intsV (List.replicate 10 0))) J Zr177 J ?_
 intro n2 hn2 hf2
 refine Tr.nil (at_n (Sat.seq (Sat.seq (Sat.region (Tr.assign J J J (Tr.nil (at_n (Sat.block (Sat.loop (ι := Nat) (fun k => ⟨[(1, ptr n1 0), (2, ptr n2 0), (3, i64 (k : Int))], [⟨n2, (intsV (List.replicate 10 0)), 177, 10⟩, ⟨n1, wdsV (carAt w k), 177, (wdsV w).length⟩]⟩) (fun k => k ≤ 10) (fun k => 10 - k) (0) ?_ ?_ ?_)))))))))
 · omega
 · exact weak_of (wk1 rfl (wk1 rfl (wk1 rfl wk0))) (wh1 Z0 (wh1 Z1 wh0)) nD
 ·
  rintro k hi
  have hlc := carAt_length h.len k
  refine Sat.seq (Sat.seq (Sat.region (Tr.move J J J (Tr.lss J J J J J (Tr.nil (at_n (Sat.condP J (fun hc0 => ?_) (fun hc0 => ?_))))))))
  ·
   have hk2 : k < 10 := by omega
   have ck := carK h hk2
   have hb26 := bits_26 k
   have hcut := car_cut ((carAt w k).getD k 0) (bitsAt k)
   have hx := ck.x
   have hq := ck.q
   have hsl : ((carAt w k).set k ((carAt w k).getD k 0 % 2 ^ bitsAt k)).length = 10 := by rw [List.length_set]; exact hlc
   refine Sat.skip (at_n (Sat.seq (Sat.block (Sat.seq (Sat.draw [(0, 0), (0, 1), (1, 2), (0, 3), (3, 4), (0, 5), (0, 6)] Mixed zK (Tr.move J J J (Tr.idxArr1 J J J J Y177 Sz2 _ J oM (Tr.load1 J J J Y2 J Z1 (by exact get_wds oM) ?_))))))))
   refine Tr.move J J J (Tr.callV J J J J Body229 (r3_bits k hk2) (fun _ _ => trivial) (Tr.shrN ((carAt w k).getD k 0) (bitsAt k) J J J J (bits_w k) oM (Tr.assign J J J (Tr.nil (at_n (Sat.seq (Sat.draw [(0, 0), (0, 1), (0, 2), (1, 3), (0, 4), (0, 5), (3, 6), (0, 7), (0, 8), (0, 9), (4, 10)] Mixed zK (Tr.move J J J (Tr.move J J J (Tr.idxArr1 J J J J Y177 Sz2 _ J oM (Tr.load1 J J J Y2 J Z1 (by exact get_wds oM) ?_)))))))))))
   refine Tr.move J J J (Tr.move J J J (Tr.callV J J J J Body229 (r3_bits k hk2) (fun _ _ => trivial) (Tr.shlN ((carAt w k).getD k 0 / 2 ^ bitsAt k) (bitsAt k) J J J J (bits_w k) oM oM (Tr.subN ((carAt w k).getD k 0) ((carAt w k).getD k 0 / 2 ^ bitsAt k * 2 ^ bitsAt k) J J J J oM (Tr.idxArr1 J J J J Y177 Sz2 _ J oM ?_)))))
   rw [hcut.2]
   refine Tr.store1 J J J J J Sz2 Z1 (by (simp [wdsV_length]; omega)) (by exact set_wds _ _ _) zV ?_
   refine Tr.nil (at_n (Sat.seq (Sat.region (Tr.move J J J (Tr.eqi J J J J J (Tr.nil (at_n (Sat.condP J (fun hc1 => ?_) (fun hc1 => ?_)))))))))
   ·
    have hfs := ck.fs oM
    refine Sat.region (Tr.idxArr1 J J J J Y177 Sz2 0 J dE (Tr.load1 J J J Y2 J Z1 (by exact get_wds oM) ?_))
    refine Tr.move J J J (Tr.mulN (19) ((carAt w k).getD k 0 / 2 ^ bitsAt k) J J J J oM (Tr.addN (((carAt w k).set k ((carAt w k).getD k 0 % 2 ^ bitsAt k)).getD 0 0) (19 * ((carAt w k).getD k 0 / 2 ^ bitsAt k)) J J J J oM (Tr.idxArr1 J J J J Y177 Sz2 0 J dE (Tr.store1 J J J J J Sz2 Z1 (by (simp [wdsV_length]; omega)) (by exact set_wds _ _ _) zV ?_))))
    refine Tr.nil (bl_n (at_n (Sat.region (Tr.move J J J (Tr.add_i64 J J J J oM (Tr.assign J J J (Tr.nil (at_n ?_))))))))
    exact ⟨k + 1, by omega, by omega, weak_of (wk1 rfl (wk1 rfl (wk1 rfl wk0))) (wh1 Z0 (wh1 (by (rw [carAt_nine hc1]; exact mem1)) wh0)) nD⟩
   ·
    have hnx := ck.nx oM
    refine Sat.region (Tr.move J J J (Tr.addN (k) (1) J J J J oM (Tr.move J J J (Tr.addN (k) (1) J J J J oM (Tr.idxArr1 J J J J Y177 Sz2 _ J oM (Tr.load1 J J J Y2 J Z1 (by exact get_wds oM) ?_))))))
    refine Tr.move J J J (Tr.addN (((carAt w k).set k ((carAt w k).getD k 0 % 2 ^ bitsAt k)).getD (k + 1) 0) ((carAt w k).getD k 0 / 2 ^ bitsAt k) J J J J oM (Tr.idxArr1 J J J J Y177 Sz2 _ J oM (Tr.store1 J J J J J Sz2 Z1 (by (simp [wdsV_length]; omega)) (by exact set_wds _ _ _) zV ?_)))
    refine Tr.nil (bl_n (at_n (Sat.region (Tr.move J J J (Tr.add_i64 J J J J oM (Tr.assign J J J (Tr.nil (at_n ?_))))))))
    exact ⟨k + 1, by omega, by omega, weak_of (wk1 rfl (wk1 rfl (wk1 rfl wk0))) (wh1 Z0 (wh1 (by (rw [carAt_low hc1]; exact mem1)) wh0)) nD⟩
  ·
   rw [show carAt w k = u from by rw [show k = 10 by omega, carAt_eq h.len, hu0.out]]
   refine Sat.exit (at_x (at_x (bl_h (at_n (Sat.seq (Sat.region (Tr.loadAll J J J Y177 J Sz177 Z1 (by (simp [wdsV_length, hul]; done)) ?_)))))))
   refine Tr.storeAll J J J J (by exact wdsV_cell _) Sz177 (by (simp [wdsV_length, hul]; done)) Z0 sP zU ?_
   refine Tr.nil (at_n (Sat.ret (en_r ?_)))
   refine ⟨_, [], res_cell J J Y177 J Sz177 Z0 (by simp [wdsV_length, hul]), sP, sP, ?_, rfl⟩
   rfl

theorem op_on {N i k : Nat} (hi : i < 10) (hb : N.testBit (atOf i + k) = true) : ((opAt N i).set i (N / 2 ^ atOf i % 2 ^ k)).set i (((opAt N i).set i (N / 2 ^ atOf i % 2 ^ k)).getD i 0 + 1 * 2 ^ k) = (opAt N i).set i (N / 2 ^ atOf i % 2 ^ (k + 1)) := by
  have hl := opAt_length N i oM
  rw [getD_set' oM, if_pos rfl, List.set_set, op_bit, hb, if_pos rfl, Nat.one_mul]
theorem op_off {N i k : Nat} (hb : N.testBit (atOf i + k) = false) : (opAt N i).set i (N / 2 ^ atOf i % 2 ^ k) = (opAt N i).set i (N / 2 ^ atOf i % 2 ^ (k + 1)) := by
  rw [op_bit, hb, if_neg dE, Nat.add_zero]
theorem op_val {N i k : Nat} (hi : i < 10) (hk : k ≤ 26) : ((opAt N i).set i (N / 2 ^ atOf i % 2 ^ k)).getD i 0 ≤ 67108864 ∧ 2 ^ k ≤ 67108864 := by
  have hl := opAt_length N i oM
  have h1 : 2 ^ k ≤ 2 ^ 26 := Nat.pow_le_pow_right dE hk
  have h2 : N / 2 ^ atOf i % 2 ^ k < 2 ^ k := Nat.mod_lt _ (Nat.pow_pos dE)
  rw [getD_set' oM, if_pos rfl]
  omega
theorem bit_is {a : List UInt8} {m : Nat} (h : (((UInt8.ofNat ((shr8 (a.getD (m / 8) 0) (m % 8)).toNat % 2)).toNat : Int) = 1)) : (le a).testBit m = true := by rw [← bit_rem]; exact decide_eq_true h
theorem bit_isn {a : List UInt8} {m : Nat} (h : ¬ (((UInt8.ofNat ((shr8 (a.getD (m / 8) 0) (m % 8)).toNat % 2)).toNat : Int) = 1)) : (le a).testBit m = false := by rw [← bit_rem]; exact decide_eq_false h

theorem r3_Open (a : List UInt8) (ha : a.length = 32) : Meets Tryz.prog 188 [agg (bytesV a)] [] (fun _ => True) (fun v out => v = agg (wdsV (openT (le a))) ∧ out = []) := by
 intro W hW
 obtain ⟨u, hu⟩ : ∃ u, Hid (openT (le a) = u) := ⟨_, ⟨rfl⟩⟩
 obtain ⟨D, hD⟩ : ∃ D, Hid (opD (le a) = D) := ⟨_, ⟨rfl⟩⟩
 have hu10 : u.length = 10 := by rw [← hu.out]; exact openT_length _
 have hd10 : D.length = 10 := by rw [← hD.out]; exact opD_length _
 have hc := r3_carry D (by rw [← hD.out]; exact opD_mid _)
 rw [show car10 D = u from by rw [← hD.out]; exact hu.out] at hc
 rw [hu.out]
 have hsl := hd10
 refine calls_of (hp0 := []) Tryz.func188 J 58 Tryz.ntmps188 J (HRep.nil _) (Sat.seq (Sat.region (Tr.boxA J J ?_)))
 intro n1 hn1 hf1
 refine Tr.alloc (cs := (intsV (List.replicate 10 0))) J Zr177 J ?_
 intro n2 hn2 hf2
 refine Tr.nil (at_n (Sat.seq (Sat.region (Tr.alloc (cs := (intsV (List.replicate 10 0))) J Zr177 J ?_))))
 intro n3 hn3 hf3
 refine Tr.nil (at_n (Sat.seq (Sat.region (Tr.assign J J J (Tr.nil (at_n (Sat.seq (Sat.seq (Sat.region (Tr.assign J J J (Tr.nil (at_n (Sat.block (Sat.loop (ι := Nat) (fun i => ⟨[(1, ptr n1 0), (2, ptr n2 0), (3, ptr n3 0), (4, i64 ((atOf i : Nat) : Int)), (5, i64 (i : Int))], [⟨n3, wdsV (opAt (le a) i), 177, 10⟩, ⟨n2, (intsV (List.replicate 10 0)), 177, 10⟩, ⟨n1, bytesV a, 77, (bytesV a).length⟩]⟩) (fun i => i ≤ 10) (fun i => 10 - i) (0) ?_ ?_ ?_))))))))))))))
 · omega
 · exact weak_of (wk1 rfl (wk1 rfl (wk1 rfl (wk1 rfl (wk1 rfl wk0))))) (wh1 (by rw [show wdsV (opAt (le a) 0) = intsV (List.replicate 10 0) from rfl]; exact mem0) (wh1 Z1 (wh1 Z2 wh0))) nD
 ·
  rintro i hi
  refine Sat.seq (Sat.seq (Sat.region (Tr.move J J J (Tr.lss J J J J J (Tr.nil (at_n (Sat.condP J (fun hc0 => ?_) (fun hc0 => ?_))))))))
  ·
   have hi2 : i < 10 := by omega
   have hb26 := bits_26 i
   have hbw := bits_wn i
   have hop := at_op hi2
   have hopl := op_le i
   have hat := at_le hi2
   refine Sat.skip (at_n (Sat.seq (Sat.block (Sat.seq (Sat.region (Tr.move J J J (Tr.callV J J J J Body229 (r3_bits i hi2) (fun _ _ => trivial) (Tr.conv J J J Y35 Y3 (cv_u64_i64 oM) ?_))))))))
   rw [bits_wn]
   refine Tr.assign J J J (Tr.nil (at_n (Sat.join (ι := Unit) (fun _u => ⟨[(1, ptr n1 0), (2, ptr n2 0), (3, ptr n3 0), (4, i64 ((atOf i : Nat) : Int)), (5, i64 (i : Int)), (6, i64 ((opB i : Nat) : Int))], [⟨n3, wdsV (opAt (le a) i), 177, 10⟩, ⟨n2, (intsV (List.replicate 10 0)), 177, 10⟩, ⟨n1, bytesV a, 77, (bytesV a).length⟩]⟩) (fun _u => True) ?_ ?_)))
   ·
    refine Sat.seq (Sat.region (Tr.move J J J (Tr.eqi J J J J J (Tr.nil (at_n (Sat.condP J (fun hc1 => ?_) (fun hc1 => ?_)))))))
    ·
     refine Sat.region (Tr.assign J J J (Tr.nil (at_n ?_)))
     (rw [opB_nine hc1]; exact ⟨(), trivial, weak_of (wk1 rfl (wk1 rfl (wk1 rfl (wk1 rfl (wk1 rfl (wk1 rfl wk0)))))) (wh1 Z0 (wh1 Z1 (wh1 Z2 wh0))) nD⟩)
    ·
     refine Sat.skip (at_n ?_)
     (rw [opB_low hc1]; exact ⟨(), trivial, weak_of (wk1 rfl (wk1 rfl (wk1 rfl (wk1 rfl (wk1 rfl (wk1 rfl wk0)))))) (wh1 Z0 (wh1 Z1 (wh1 Z2 wh0))) nD⟩)
   ·
    intro _u hj
    skip
    refine Sat.seq (Sat.seq (Sat.region (Tr.assign J J J (Tr.nil (at_n (Sat.block (Sat.loop (ι := Nat) (fun k => ⟨[(1, ptr n1 0), (2, ptr n2 0), (3, ptr n3 0), (4, i64 ((atOf i : Nat) : Int)), (5, i64 (i : Int)), (6, i64 ((opB i : Nat) : Int)), (7, i64 (k : Int))], [⟨n3, wdsV ((opAt (le a) i).set i (le a / 2 ^ atOf i % 2 ^ k)), 177, 10⟩, ⟨n2, (intsV (List.replicate 10 0)), 177, 10⟩, ⟨n1, bytesV a, 77, (bytesV a).length⟩]⟩) (fun k => k ≤ opB i) (fun k => opB i - k) (0) ?_ ?_ ?_)))))))
    · exact Nat.zero_le _
    · exact weak_of (wk1 rfl (wk1 rfl (wk1 rfl (wk1 rfl (wk1 rfl (wk1 rfl (wk1 rfl wk0))))))) (wh1 (by rw [opAt_first _ hi2]; exact mem0) (wh1 Z1 (wh1 Z2 wh0))) nD
    ·
     rintro k hk
     have hsl : ((opAt (le a) i).set i (le a / 2 ^ atOf i % 2 ^ k)).length = 10 := by rw [List.length_set]; exact opAt_length _ i oM
     refine Sat.seq (Sat.seq (Sat.region (Tr.move J J J (Tr.move J J J (two (fun r hr k => Tr.lss J J J J hr k) (fun hs10_20 => ?_) (fun hs10_20 => ?_))))))
     ·
      have hs10_2 := of_decide_eq_true hs10_20
      skip
      refine Tr.move J J J (Tr.move J J J (Tr.move J J J (Tr.addN (atOf i) (k) J J J J oM (Tr.lss J J J J (decide_eq_true oM) (Tr.pick J J J J J J (Tr.nil (at_n (Sat.cond_t J J (Sat.skip (at_n (Sat.seq (Sat.block (Sat.seq (Sat.region (Tr.move J J J (Tr.move J J J (Tr.addN (atOf i) (k) J J J J oM (Tr.quoN (atOf i + k) (8) J J J J ⟨by decide, by omega⟩ ?_))))))))))))))))))
      refine Tr.idxArr1 J J J J Y77 Sz5 _ J oM (Tr.load1 J J J Y5 J Z2 zG ?_)
      refine Tr.move J J J (Tr.move J J J (Tr.addN (atOf i) (k) J J J J oM (Tr.remN (atOf i + k) (8) J J J J dE (Tr.conv J J J Y3 Y35 (cv_i64_u64 _) (Tr.shr_u8 J J J J ((atOf i + k) % 8) (by rw [wordOf_id _ oM]) oM ?_)))))
      refine Tr.rem_u8 J J J J 2 J dE (Tr.eqi J J J J J (Tr.nil (at_n (Sat.condP J (fun hc3 => ?_) (fun hc3 => ?_)))))
      ·
       have hbt := bit_is hc3
       have hov := op_val (N := le a) hi2 (show k ≤ 26 by omega)
       refine Sat.region (Tr.move J J J (Tr.move J J J (Tr.idxArr1 J J J J Y177 Sz2 _ J oM (Tr.load1 J J J Y2 J Z0 (by exact get_wds oM) ?_))))
       refine Tr.move J J J (Tr.conv J J J Y3 Y35 (cv_i64_u64 _) (Tr.shlN 1 k J J J J (wordOf_id _ oM) oM oM (Tr.addN (((opAt (le a) i).set i (le a / 2 ^ atOf i % 2 ^ k)).getD i 0) (1 * 2 ^ k) J J J J oM (Tr.idxArr1 J J J J Y177 Sz2 _ J oM (Tr.store1 J J J J J Sz2 Z0 (by (simp [wdsV_length, hsl]; omega)) (by exact set_wds _ _ _) zU ?_)))))
       refine Tr.nil (bl_n (at_n (Sat.region (Tr.move J J J (Tr.add_i64 J J J J oM (Tr.assign J J J (Tr.nil (at_n ?_))))))))
       exact ⟨k + 1, by omega, by omega, weak_of (wk1 rfl (wk1 rfl (wk1 rfl (wk1 rfl (wk1 rfl (wk1 rfl (wk1 rfl wk0))))))) (wh1 (by (rw [← op_on hi2 hbt]; exact mem0)) (wh1 Z1 (wh1 Z2 wh0))) nD⟩
      ·
       have hbf := bit_isn hc3
       refine Sat.skip (bl_n (at_n (Sat.region (Tr.move J J J (Tr.add_i64 J J J J oM (Tr.assign J J J (Tr.nil (at_n ?_))))))))
       exact ⟨k + 1, by omega, by omega, weak_of (wk1 rfl (wk1 rfl (wk1 rfl (wk1 rfl (wk1 rfl (wk1 rfl (wk1 rfl wk0))))))) (wh1 (by (rw [← op_off hbf]; exact mem0)) (wh1 Z1 (wh1 Z2 wh0))) nD⟩
     ·
      have hs10_2 := of_decide_eq_false hs10_20
      skip
      refine Tr.move J J J (Tr.skp J J (Tr.skp J J (Tr.skp J J (Tr.skp J J (Tr.pick J J J J J J (Tr.nil (at_n (Sat.cond_f J J (Sat.exit (at_x (at_x (bl_h (at_n (Sat.region (Tr.move J J J (Tr.move J J J (Tr.callV J J J J Body229 (r3_bits i hi2) (fun _ _ => trivial) (Tr.conv J J J Y35 Y3 (cv_u64_i64 oM) ?_))))))))))))))))))
      rw [bits_wn]
      refine Tr.addN (atOf i) (bitsAt i) J J J J oM (Tr.assign J J J (Tr.nil (bl_n (at_n (Sat.region (Tr.move J J J (Tr.add_i64 J J J J oM (Tr.assign J J J (Tr.nil (at_n ?_))))))))))
      exact ⟨i + 1, by omega, by omega, weak_of (wk1 rfl (wk1 rfl (wk1 rfl (wk1 (natc (at_succ hi2)) (wk1 rfl wk0))))) (wh1 (by rw [← opAt_set (le a) hi2, show opB i = k by omega]; exact mem0) (wh1 Z1 (wh1 Z2 wh0))) nD⟩
  ·
   rw [show opAt (le a) i = D from by rw [show i = 10 by omega, opAt_ten]; exact hD.out]
   refine Sat.exit (at_x (at_x (bl_h (at_n (Sat.seq (Sat.region (Tr.loadAll J J J Y177 J Sz177 Z0 (by (simp [wdsV_length, hd10]; done)) ?_)))))))
   refine Tr.callV J J J J Body230 (hc) (fun _ _ => trivial) (Tr.storeAll J J J J (by exact wdsV_cell _) Sz177 (by (simp [wdsV_length, hu10]; done)) Z1 sP zV ?_)
   refine Tr.nil (at_n (Sat.ret (en_r ?_)))
   refine ⟨_, [], res_cell J J Y177 J Sz177 Z1 (by simp [wdsV_length, hu10]), sP, sP, ?_, rfl⟩
   rfl

theorem close_first (X : Nat) : leb 32 (X % 2 ^ atOf 0) = List.replicate 32 0 := by
  rw [show atOf 0 = 0 from rfl, Nat.pow_zero, Nat.mod_one, leb_zero32]

theorem r3_Close (w : List Nat) (hw : Fit10 w) : Meets Tryz.prog 196 [agg (wdsV w)] [] (fun _ => True) (fun v out => v = agg (bytesV (fb (fe (v10 w)))) ∧ out = []) := by
 intro W hW
 have hlw := hw.len
 obtain ⟨X, hX⟩ : ∃ X, Hid (low10 w = X) := ⟨_, ⟨rfl⟩⟩
 have hX255 : X < 2 ^ 255 := by rw [← hX.out]; exact low10_lt hw
 have h4 := car10_four hw
 rw [hX.out] at h4
 have hfx : fe (v10 w) = fe X := by rw [← hX.out]; exact (low10_fe w).symm
 rw [hfx]
 have f1 : Fit10 (car10 w) := car10_fit (by have := hw.v; omega)
 have f2 : Fit10 (car10 (car10 w)) := car10_fit (by have := f1.v; omega)
 have f3 : Fit10 (car10 (car10 (car10 w))) := car10_fit (by have := f2.v; omega)
 have c1 := r3_carry w hw.mid
 have c2 := r3_carry _ f1.mid
 have c3 := r3_carry _ f2.mid
 have c4 := r3_carry _ f3.mid
 rw [h4] at c4
 have hl1 := f1.len
 have hl2 := f2.len
 have hl3 := f3.len
 have hDl : (dg X b10).length = 10 := by rw [dg_length]; rfl
 have hDb : ∀ i k, i < 10 → k < bitsAt i → (((((dg X b10).getD i 0 / 2 ^ k % 2 : Nat) : Int) = 1) ↔ X.testBit (atOf i + k) = true) := fun i k h1 h2 => dg_bit_dec X h1 h2
 have ht := fun h => not_top hX255 h
 have hm := fun i h1 h2 h => not_mid (i := i) hX255 h1 h2 h
 have htop := fun h1 h2 h3 => is_top hX255 h1 h2 h3
 obtain ⟨O, hO⟩ : ∃ O, Hid (leb 32 X = O) := ⟨_, ⟨rfl⟩⟩
 have hOl : O.length = 32 := by rw [← hO.out]; exact leb_length _ _
 rw [hO.out] at ht hm htop
 clear f1 f2 f3 h4
 revert c1 c2 c3 c4 hl1 hl2 hl3 hDl hDb
 generalize car10 (car10 (car10 w)) = w3
 generalize car10 (car10 w) = w2
 generalize car10 w = w1
 generalize dg X b10 = D
 intro c1 c2 c3 c4 hl1 hl2 hl3 hDl hDb
 generalize hFB : fb (fe X) = FB at ht hm htop ⊢
 refine calls_of (hp0 := []) Tryz.func196 J 77 Tryz.ntmps196 J (HRep.nil _) (Sat.seq (Sat.region (Tr.boxA J J ?_)))
 intro n1 hn1 hf1
 refine Tr.alloc (cs := (bytesV (List.replicate 32 0))) J Zr77 J ?_
 intro n2 hn2 hf2
 refine Tr.nil (at_n (Sat.seq (Sat.region (Tr.loadAll J J J Y177 J Sz177 Z1 (by (simp [wdsV_length, hlw]; done)) ?_))))
 refine Tr.callV J J J J Body230 (c1) (fun _ _ => trivial) (Tr.callV J J J J Body230 (c2) (fun _ _ => trivial) (Tr.callV J J J J Body230 (c3) (fun _ _ => trivial) (Tr.callV J J J J Body230 (c4) (fun _ _ => trivial) (Tr.storeAll J J J J (by exact wdsV_cell _) Sz177 (by (simp [wdsV_length, hDl]; done)) Z1 (by (simp [wdsV_length, hlw]; done)) zV ?_))))
 refine Tr.nil (at_n (Sat.seq (Sat.region (Tr.alloc (cs := (bytesV (List.replicate 32 0))) J Zr77 J ?_))))
 intro n3 hn3 hf3
 refine Tr.nil (at_n (Sat.seq (Sat.region (Tr.assign J J J (Tr.nil (at_n (Sat.seq (Sat.seq (Sat.region (Tr.assign J J J (Tr.nil (at_n (Sat.block (Sat.loop (ι := Nat) (fun i => ⟨[(1, ptr n1 0), (2, ptr n2 0), (3, ptr n3 0), (4, i64 ((atOf i : Nat) : Int)), (5, i64 (i : Int))], [⟨n3, bytesV (leb 32 (X % 2 ^ atOf i)), 77, 32⟩, ⟨n2, bytesV (List.replicate 32 0), 77, 32⟩, ⟨n1, wdsV D, 177, (wdsV w).length⟩]⟩) (fun i => i ≤ 10) (fun i => 10 - i) (0) ?_ ?_ ?_))))))))))))))
 · omega
 · exact weak_of (wk1 rfl (wk1 rfl (wk1 rfl (wk1 rfl (wk1 rfl wk0))))) (wh1 (by rw [close_first]; exact mem0) (wh1 Z1 (wh1 Z2 wh0))) nD
 ·
  rintro i hi
  refine Sat.seq (Sat.seq (Sat.region (Tr.move J J J (Tr.lss J J J J J (Tr.nil (at_n (Sat.condP J (fun hc0 => ?_) (fun hc0 => ?_))))))))
  ·
   have hi2 : i < 10 := by omega
   have hb26 := bits_26 i
   have hbw := bits_wn i
   have hat := at_le hi2
   have hat2 := at_succ hi2
   have hat3 : atOf (i + 1) ≤ 255 := by unfold atOf; omega
   refine Sat.skip (at_n (Sat.seq (Sat.block (Sat.seq (Sat.seq (Sat.region (Tr.assign J J J (Tr.nil (at_n (Sat.block (Sat.loop (ι := Nat) (fun k => ⟨[(1, ptr n1 0), (2, ptr n2 0), (3, ptr n3 0), (4, i64 ((atOf i : Nat) : Int)), (5, i64 (i : Int)), (6, i64 (k : Int))], [⟨n3, bytesV (leb 32 (X % 2 ^ (atOf i + k))), 77, 32⟩, ⟨n2, bytesV (List.replicate 32 0), 77, 32⟩, ⟨n1, wdsV D, 177, (wdsV w).length⟩]⟩) (fun k => k ≤ bitsAt i) (fun k => bitsAt i - k) (0) ?_ ?_ ?_)))))))))))
   · exact Nat.zero_le _
   · exact weak_of (wk1 rfl (wk1 rfl (wk1 rfl (wk1 rfl (wk1 rfl (wk1 rfl wk0)))))) (wh1 (by rw [Nat.add_zero]; exact mem0) (wh1 Z1 (wh1 Z2 wh0))) nD
   ·
    rintro k hk
    refine Sat.seq (Sat.seq (Sat.region (Tr.move J J J (Tr.move J J J (Tr.callV J J J J Body229 (r3_bits i hi2) (fun _ _ => trivial) (Tr.conv J J J Y35 Y3 (cv_u64_i64 oM) ?_))))))
    rw [bits_wn]
    refine Tr.lss J J J J J (Tr.nil (at_n (Sat.condP J (fun hc1 => ?_) (fun hc1 => ?_))))
    ·
     refine Sat.skip (at_n (Sat.seq (Sat.block (Sat.seq (Sat.region (Tr.move J J J (Tr.idxArr1 J J J J Y177 Sz2 _ J oM (Tr.load1 J J J Y2 J Z2 (by exact get_wds oM) ?_))))))))
     refine Tr.move J J J (Tr.conv J J J Y3 Y35 (cv_i64_u64 _) (Tr.shrN (D.getD i 0) (k) J J J J (wordOf_id _ oM) oM (Tr.remN (D.getD i 0 / 2 ^ k) (2) J J J J dE (Tr.eqi J J J J J (Tr.nil (at_n (Sat.condP J (fun hc2 => ?_) (fun hc2 => ?_))))))))
     ·
      have hbt := (hDb i k hi2 oM).1 hc2
      have hbs : leb 32 (X % 2 ^ (atOf i + (k + 1))) = _ := (bit_set X (m := atOf i + k) oM hbt).symm
      refine Sat.region (Tr.move J J J (Tr.move J J J (Tr.addN (atOf i) (k) J J J J oM (Tr.quoN (atOf i + k) (8) J J J J ⟨by decide, by omega⟩ ?_))))
      refine Tr.move J J J (Tr.move J J J (Tr.addN (atOf i) (k) J J J J oM (Tr.quoN (atOf i + k) (8) J J J J ⟨by decide, by omega⟩ ?_)))
      refine Tr.idxArr1 J J J J Y77 Sz5 _ J oM (Tr.load1 J J J Y5 J Z0 (by exact get_bytes (by (simp [leb_length]; omega))) ?_)
      refine Tr.move J J J (Tr.move J J J (Tr.addN (atOf i) (k) J J J J oM (Tr.remN (atOf i + k) (8) J J J J dE (Tr.conv J J J Y3 Y35 (cv_i64_u64 _) (Tr.shl_u8 J J (show evIn _ _ = some (u8 1) from rfl) J ((atOf i + k) % 8) (by rw [wordOf_id _ oM]) oM ?_)))))
      refine Tr.add_u8 J J J J (Tr.idxArr1 J J J J Y77 Sz5 _ J oM (Tr.store1 J J J J J Sz5 Z0 (by (simp [leb_length]; omega)) (by exact set_bytes _ _ _) zU ?_))
      refine Tr.nil (bl_n (at_n (Sat.region (Tr.move J J J (Tr.add_i64 J J J J oM (Tr.assign J J J (Tr.nil (at_n ?_))))))))
      exact ⟨k + 1, by omega, by omega, weak_of (wk1 rfl (wk1 rfl (wk1 rfl (wk1 rfl (wk1 rfl (wk1 rfl wk0)))))) (wh1 (by rw [hbs]; exact mem0) (wh1 Z1 (wh1 Z2 wh0))) nD⟩
     ·
      have hbf : X.testBit (atOf i + k) = false := Bool.eq_false_iff.2 (fun e => hc2 ((hDb i k hi2 oM).2 e))
      have hbs : leb 32 (X % 2 ^ (atOf i + (k + 1))) = leb 32 (X % 2 ^ (atOf i + k)) := (bit_off X (atOf i + k) hbf).symm
      refine Sat.skip (bl_n (at_n (Sat.region (Tr.move J J J (Tr.add_i64 J J J J oM (Tr.assign J J J (Tr.nil (at_n ?_))))))))
      exact ⟨k + 1, by omega, by omega, weak_of (wk1 rfl (wk1 rfl (wk1 rfl (wk1 rfl (wk1 rfl (wk1 rfl wk0)))))) (wh1 (by rw [hbs]; exact mem0) (wh1 Z1 (wh1 Z2 wh0))) nD⟩
    ·
     refine Sat.exit (at_x (at_x (bl_h (at_n (Sat.region (Tr.move J J J (Tr.move J J J (Tr.callV J J J J Body229 (r3_bits i hi2) (fun _ _ => trivial) (Tr.conv J J J Y35 Y3 (cv_u64_i64 oM) ?_)))))))))
     rw [bits_wn]
     refine Tr.addN (atOf i) (bitsAt i) J J J J oM (Tr.assign J J J (Tr.nil (bl_n (at_n (Sat.region (Tr.move J J J (Tr.add_i64 J J J J oM (Tr.assign J J J (Tr.nil (at_n ?_))))))))))
     exact ⟨i + 1, by omega, by omega, weak_of (wk1 rfl (wk1 rfl (wk1 rfl (wk1 (natc (at_succ hi2)) (wk1 rfl wk0))))) (wh1 (by rw [← at_succ hi2, show bitsAt i = k by omega]; exact mem0) (wh1 Z1 (wh1 Z2 wh0))) nD⟩
  ·
   rw [show leb 32 (X % 2 ^ atOf i) = O from by rw [show atOf i = 255 from by rw [show i = 10 by omega]; rfl, Nat.mod_eq_of_lt hX255]; exact hO.out]
   refine Sat.exit (at_x (at_x (bl_h (at_n (Sat.seq (Sat.seq (Sat.region (Tr.idxArr1 J J J J Y77 Sz5 0 J dE (Tr.load1 J J J Y5 J Z0 zG ?_)))))))))
   refine two (fun r hr k => Tr.lss J J J J hr k) (fun hs13_20 => ?_) (fun hs13_20 => ?_)
   ·
    have hs13_2 := of_decide_eq_true hs13_20
    refine Tr.move J J J (Tr.skp J J (Tr.skp J J (Tr.skp J J (Tr.pick J J J J J J (Tr.nil (at_n (Sat.cond_t J J (Sat.seq (Sat.region (Tr.loadAll J J J Y77 J Sz77 Z0 (by (simp [hOl]; done)) ?_))))))))))
    refine Tr.storeAll J J J J zE Sz77 (by (simp [hOl]; done)) Z1 sP zV ?_
    refine Tr.nil (at_n (Sat.ret (at_r (en_r ?_))))
    refine ⟨_, [], res_cell J J Y77 J Sz77 Z1 (by simp [hOl]), sP, sP, ?_, rfl⟩
    exact congrArg (fun l => agg (bytesV l)) (ht oM)
   ·
    have hs13_2 := of_decide_eq_false hs13_20
    refine Tr.move J J J (Tr.idxArr1 J J J J Y77 Sz5 31 J dE (Tr.load1 J J J Y5 J Z0 zG ?_))
    refine two (fun r hr k => Tr.nei J J J J hr k) (fun hs13_60 => ?_) (fun hs13_60 => ?_)
    ·
     have hs13_6 := nd_t hs13_60
     refine Tr.pick J J J J J J (Tr.nil (at_n (Sat.cond_t J J (Sat.seq (Sat.region (Tr.loadAll J J J Y77 J Sz77 Z0 (by (simp [hOl]; done)) ?_))))))
     refine Tr.storeAll J J J J zE Sz77 (by (simp [hOl]; done)) Z1 sP zV ?_
     refine Tr.nil (at_n (Sat.ret (at_r (en_r ?_))))
     refine ⟨_, [], res_cell J J Y77 J Sz77 Z1 (by simp [hOl]), sP, sP, ?_, rfl⟩
     exact congrArg (fun l => agg (bytesV l)) (ht oM)
    ·
     have hs13_6 := nd_f hs13_60
     refine Tr.pick J J J J J J (Tr.nil (at_n (Sat.cond_f J J (Sat.skip (at_n (Sat.seq (Sat.seq (Sat.region (Tr.assign J J J (Tr.nil (at_n (Sat.block (Sat.loop (ι := Nat) (fun j => ⟨[(2, ptr n2 0), (3, ptr n3 0), (7, i64 (j : Int))], [⟨n3, bytesV O, 77, 32⟩, ⟨n2, bytesV (List.replicate 32 0), 77, 32⟩]⟩) (fun j => 1 ≤ j ∧ j ≤ 31 ∧ ∀ m, 0 < m → m < j → (O.getD m 0).toNat = 255) (fun j => 31 - j) (1) ?_ ?_ ?_)))))))))))))
     · exact ⟨Nat.le_refl _, by omega, fun m h1 h2 => by omega⟩
     · exact weak_of (wk1 rfl (wk1 rfl (wk1 rfl wk0))) (wh1 Z0 (wh1 Z1 wh0)) nD
     ·
      rintro j ⟨hj1, hj2, hj3⟩
      refine Sat.seq (Sat.seq (Sat.region (Tr.move J J J (Tr.lss J J J J J (Tr.nil (at_n (Sat.condP J (fun hc4 => ?_) (fun hc4 => ?_))))))))
      ·
       refine Sat.skip (at_n (Sat.seq (Sat.block (Sat.seq (Sat.region (Tr.move J J J (Tr.idxArr1 J J J J Y77 Sz5 _ J oM (Tr.load1 J J J Y5 J Z0 zG ?_))))))))
       refine Tr.nei J J J J J (Tr.nil (at_n (Sat.condNP J (fun hc5 => ?_) (fun hc5 => ?_))))
       ·
        refine Sat.seq (Sat.region (Tr.loadAll J J J Y77 J Sz77 Z0 (by (simp [hOl]; done)) ?_))
        refine Tr.storeAll J J J J zE Sz77 (by (simp [hOl]; done)) Z1 sP zV ?_
        refine Tr.nil (at_n (Sat.ret (bl_r (at_r (at_r (bl_r (at_r (en_r ?_))))))))
        refine ⟨_, [], res_cell J J Y77 J Sz77 Z1 (by simp [hOl]), sP, sP, ?_, rfl⟩
        exact congrArg (fun l => agg (bytesV l)) (hm j oM oM oM)
       ·
        refine Sat.skip (bl_n (at_n (Sat.region (Tr.move J J J (Tr.add_i64 J J J J oM (Tr.assign J J J (Tr.nil (at_n ?_))))))))
        exact ⟨j + 1, ⟨by omega, by omega, fun m h1 h2 => by
          by_cases e : m = j
          · rw [e]; omega
          · exact hj3 m h1 oM⟩, by omega, weak_of (wk1 rfl (wk1 rfl (wk1 rfl wk0))) (wh1 Z0 (wh1 Z1 wh0)) nD⟩
      ·
       refine Sat.exit (at_x (at_x (bl_h (at_n (Sat.seq (Sat.region (Tr.idxArr1 J J J J Y77 Sz5 0 J dE (Tr.load1 J J J Y5 J Z0 zG ?_))))))))
       refine Tr.sub_u8 J J J (show evIn _ _ = some (u8 237) from rfl) (Tr.build (cs := bytesV ((O.getD 0 0 - 237) :: List.replicate 31 0)) J J J (fun w => by kernel_rfl) ?_)
       refine Tr.storeAll J J J J zE Sz77 (by (simp [hOl]; done)) Z1 sP zV ?_
       refine Tr.nil (at_n (Sat.ret (en_r ?_)))
       refine ⟨_, [], res_cell J J Y77 J Sz77 Z1 (by simp [hOl]), sP, sP, ?_, rfl⟩
       exact congrArg (fun l => agg (bytesV l)) (htop oM oM (fun m h1 h2 => hj3 m h1 oM))

def p1 (i : Nat) : Nat := 2 ^ bitsAt i - 1 - (if i = 0 then 18 else 0)
theorem p1_z {i : Nat} (h : (i : Int) = 0) : p1 i = 1 * 2 ^ bitsAt i - 1 - 18 := by rw [p1, if_pos oM, Nat.one_mul]
theorem p1_n {i : Nat} (h : ¬ (i : Int) = 0) : p1 i = 1 * 2 ^ bitsAt i - 1 := by rw [p1, if_neg oM, Nat.one_mul, Nat.sub_zero]
theorem p4_p1 (i : Nat) : p4 i = 4 * p1 i := rfl
def cf2 (i k : Nat) : Nat := if i % 2 = 1 ∧ k % 2 = 1 then 2 else 1
theorem cf2_t {i k : Nat} (P : Nat) (h : ((i % 2 : Nat) : Int) = 1) (h2 : ((k % 2 : Nat) : Int) = 1) : cf2 i k * P = 2 * P := by rw [cf2, if_pos ⟨by omega, by omega⟩]
theorem cf2_a {i k : Nat} (P : Nat) (h : ¬ ((i % 2 : Nat) : Int) = 1) : cf2 i k * P = P := by rw [cf2, if_neg (fun e => h oM), Nat.one_mul]
theorem cf2_b {i k : Nat} (P : Nat) (h : ¬ ((k % 2 : Nat) : Int) = 1) : cf2 i k * P = P := by rw [cf2, if_neg (fun e => h oM), Nat.one_mul]
theorem cf2_le (i k : Nat) : cf2 i k ≤ 2 := by unfold cf2; split <;> omega
theorem coef_hi {i k : Nat} (P : Nat) (h : (9 : Int) < ((i + k : Nat) : Int)) : coef i k * P = 19 * (cf2 i k * P) := by
  rw [coef, if_pos oM, Nat.mul_assoc]; rfl
theorem coef_lo {i k : Nat} (P : Nat) (h : ¬ (9 : Int) < ((i + k : Nat) : Int)) : coef i k * P = cf2 i k * P := by
  rw [coef, if_neg oM, Nat.one_mul]; rfl
theorem tRow_bd {x y : List Nat} (hx : Fit10 x) (hy : Fit10 y) {i k m : Nat} (hi : i < 10) (hk : k ≤ 10) (hm : m < 10) : (tRow x y i (tAll x y i) k).getD m 0 ≤ 6845471433603153920 := by
  have h1 := tRow_le hi (fun k hk => term_le hx hy i k hi hk) (tAll_length x y i) k hk m hm
  have h2 := tAll_le (term_le hx hy) i oM m hm
  have h3 : (if (m + 10 - i) % 10 < k then 38 * (2 ^ 27 * 2 ^ 27) else 0) ≤ 38 * (2 ^ 27 * 2 ^ 27) := by split <;> omega
  omega
theorem prod_le {x y : List Nat} (hx : Fit10 x) (hy : Fit10 y) {i k : Nat} (hi : i < 10) (hk : k < 10) : x.getD i 0 * y.getD k 0 ≤ 18014398509481984 :=
  Nat.le_trans (Nat.mul_le_mul (Nat.le_of_lt (hx.all hi)) (Nat.le_of_lt (hy.all hk))) dE

theorem r3_Plus (x y : List Nat) (hx : Fit10 x) (hy : Fit10 y) : Meets Tryz.prog 232 [agg (wdsV x), agg (wdsV y)] [] (fun _ => True) (fun v out => v = agg (wdsV (plusT x y)) ∧ out = []) := by
 intro W hW
 have hxl := hx.len
 have hyl := hy.len
 obtain ⟨A, hA⟩ : ∃ A, Hid (addAt x y 10 = A) := ⟨_, ⟨rfl⟩⟩
 obtain ⟨U, hU⟩ : ∃ U, Hid (plusT x y = U) := ⟨_, ⟨rfl⟩⟩
 have hAl : A.length = 10 := by rw [← hA.out]; exact addAt_length y hx.len 10
 have hUl : U.length = 10 := by rw [← hU.out]; exact car10_length _
 have hc := r3_carry A (by rw [← hA.out]; exact addAt_mid hx hy)
 rw [show car10 A = U from by rw [← hA.out]; exact hU.out] at hc
 rw [hU.out]
 have hal := hAl
 refine calls_of (hp0 := []) Tryz.func232 J 21 Tryz.ntmps232 J (HRep.nil _) (Sat.seq (Sat.region (Tr.boxA J J ?_)))
 intro n2 hn2 hf2
 refine Tr.boxA J J ?_
 intro n3 hn3 hf3
 refine Tr.alloc (cs := (intsV (List.replicate 10 0))) J Zr177 J ?_
 intro n4 hn4 hf4
 refine Tr.nil (at_n (Sat.seq (Sat.seq (Sat.region (Tr.assign J J J (Tr.nil (at_n (Sat.block (Sat.loop (ι := Nat) (fun i => ⟨[(2, ptr n2 0), (3, ptr n3 0), (4, ptr n4 0), (5, i64 (i : Int))], [⟨n4, (intsV (List.replicate 10 0)), 177, 10⟩, ⟨n3, wdsV y, 177, (wdsV y).length⟩, ⟨n2, wdsV (addAt x y i), 177, (wdsV x).length⟩]⟩) (fun i => i ≤ 10) (fun i => 10 - i) (0) ?_ ?_ ?_)))))))))
 · omega
 · exact weak_of (wk1 rfl (wk1 rfl (wk1 rfl (wk1 rfl wk0)))) (wh1 Z0 (wh1 Z1 (wh1 Z2 wh0))) nD
 ·
  rintro i hi
  have hal := addAt_length y hxl i
  refine Sat.seq (Sat.seq (Sat.region (Tr.move J J J (Tr.lss J J J J J (Tr.nil (at_n (Sat.condP J (fun hc0 => ?_) (fun hc0 => ?_))))))))
  ·
   have hi2 : i < 10 := by omega
   have hxi : (addAt x y i).getD i 0 = x.getD i 0 + 0 := by rw [addAt_get hx.len i oM i hi2, if_neg oM]
   have hx2 := hx.all hi2
   have hy2 := hy.all hi2
   refine Sat.skip (at_n (Sat.seq (Sat.block (Sat.draw [(0, 0), (0, 1), (0, 2), (1, 3), (0, 4), (0, 5), (1, 6), (0, 7), (0, 8), (4, 9)] Mixed zK (Tr.move J J J (Tr.move J J J (Tr.idxArr1 J J J J Y177 Sz2 _ J oM (Tr.load1 J J J Y2 J Z2 (by exact get_wds oM) ?_))))))))
   refine Tr.move J J J (Tr.idxArr1 J J J J Y177 Sz2 _ J oM (Tr.load1 J J J Y2 J Z1 (by exact get_wds oM) ?_))
   refine Tr.addN ((addAt x y i).getD i 0) (y.getD i 0) J J J J oM (Tr.idxArr1 J J J J Y177 Sz2 _ J oM (Tr.store1 J J J J J Sz2 Z2 (by (simp [wdsV_length, hal]; omega)) (by exact set_wds _ _ _) (by exact upd2) ?_))
   refine Tr.nil (bl_n (at_n (Sat.region (Tr.move J J J (Tr.add_i64 J J J J oM (Tr.assign J J J (Tr.nil (at_n ?_))))))))
   exact ⟨i + 1, by omega, by omega, weak_of (wk1 rfl (wk1 rfl (wk1 rfl (wk1 rfl wk0)))) (wh1 Z0 (wh1 Z1 (wh1 Z2 wh0))) nD⟩
  ·
   rw [show addAt x y i = A from by rw [show i = 10 by omega]; exact hA.out]
   refine Sat.exit (at_x (at_x (bl_h (at_n (Sat.seq (Sat.region (Tr.loadAll J J J Y177 J Sz177 Z2 (by (simp [wdsV_length, hAl]; done)) ?_)))))))
   refine Tr.callV J J J J Body230 (hc) (fun _ _ => trivial) (Tr.storeAll J J J J (by exact wdsV_cell _) Sz177 (by (simp [wdsV_length, hUl]; done)) Z0 sP zU ?_)
   refine Tr.nil (at_n (Sat.ret (en_r ?_)))
   refine ⟨_, [], res_cell J J Y177 J Sz177 Z0 (by simp [wdsV_length, hUl]), sP, sP, ?_, rfl⟩
   rfl

theorem r3_Minus (x y : List Nat) (hx : Fit10 x) (hy : Fit10 y) : Meets Tryz.prog 231 [agg (wdsV x), agg (wdsV y)] [] (fun _ => True) (fun v out => v = agg (wdsV (minusT x y)) ∧ out = []) := by
 intro W hW
 have hxl := hx.len
 have hyl := hy.len
 obtain ⟨A, hA⟩ : ∃ A, Hid (subAt x y 10 = A) := ⟨_, ⟨rfl⟩⟩
 obtain ⟨U, hU⟩ : ∃ U, Hid (minusT x y = U) := ⟨_, ⟨rfl⟩⟩
 have hAl : A.length = 10 := by rw [← hA.out]; exact subAt_length y hx.len 10
 have hUl : U.length = 10 := by rw [← hU.out]; exact car10_length _
 have hc := r3_carry A (by rw [← hA.out]; exact subAt_mid hx)
 rw [show car10 A = U from by rw [← hA.out]; exact hU.out] at hc
 rw [hU.out]
 have hal := hAl
 refine calls_of (hp0 := []) Tryz.func231 J 33 Tryz.ntmps231 J (HRep.nil _) (Sat.seq (Sat.region (Tr.boxA J J ?_)))
 intro n2 hn2 hf2
 refine Tr.boxA J J ?_
 intro n3 hn3 hf3
 refine Tr.alloc (cs := (intsV (List.replicate 10 0))) J Zr177 J ?_
 intro n4 hn4 hf4
 refine Tr.nil (at_n (Sat.seq (Sat.seq (Sat.region (Tr.assign J J J (Tr.nil (at_n (Sat.block (Sat.loop (ι := Nat) (fun i => ⟨[(2, ptr n2 0), (3, ptr n3 0), (4, ptr n4 0), (5, i64 (i : Int))], [⟨n4, (intsV (List.replicate 10 0)), 177, 10⟩, ⟨n3, wdsV y, 177, (wdsV y).length⟩, ⟨n2, wdsV (subAt x y i), 177, (wdsV x).length⟩]⟩) (fun i => i ≤ 10) (fun i => 10 - i) (0) ?_ ?_ ?_)))))))))
 · omega
 · exact weak_of (wk1 rfl (wk1 rfl (wk1 rfl (wk1 rfl wk0)))) (wh1 Z0 (wh1 Z1 (wh1 Z2 wh0))) nD
 ·
  rintro i hi
  have hal := subAt_length y hxl i
  refine Sat.seq (Sat.seq (Sat.region (Tr.move J J J (Tr.lss J J J J J (Tr.nil (at_n (Sat.condP J (fun hc0 => ?_) (fun hc0 => ?_))))))))
  ·
   have hi2 : i < 10 := by omega
   have hxi : (subAt x y i).getD i 0 = x.getD i 0 + 0 := by rw [subAt_get hx.len i oM i hi2, if_neg oM]
   have hx2 := hx.all hi2
   have hy2 := hy.all hi2
   have hpg := p4_ge hy hi2
   have hpl := p4_le i
   rw [p4_p1] at hpg hpl
   have hbg := bits_ge i
   have hbl := bits_le i
   have hb26 := bits_26 i
   have hsub : (subAt x y i).getD i 0 + 4 * p1 i - y.getD i 0 = (subAt x y i).getD i 0 + (p4 i - y.getD i 0) := by rw [p4_p1]; omega
   refine Sat.skip (at_n (Sat.seq (Sat.block (Sat.seq (Sat.region (Tr.move J J J (Tr.callV J J J J Body229 (r3_bits i hi2) (fun _ _ => trivial) (Tr.shlN (1) (bitsAt i) J J J J (bits_w i) oM oM (Tr.subN (1 * 2 ^ bitsAt i) (1) J J J J oM (Tr.assign J J J (Tr.nil (at_n (Sat.join (ι := Unit) (fun _u => ⟨[(2, ptr n2 0), (3, ptr n3 0), (4, ptr n4 0), (5, i64 (i : Int)), (6, i64 ((p1 i : Nat) : Int))], [⟨n4, (intsV (List.replicate 10 0)), 177, 10⟩, ⟨n3, wdsV y, 177, (wdsV y).length⟩, ⟨n2, wdsV (subAt x y i), 177, (wdsV x).length⟩]⟩) (fun _u => True) ?_ ?_)))))))))))))
   ·
    refine Sat.seq (Sat.region (Tr.move J J J (Tr.eqi J J J J J (Tr.nil (at_n (Sat.condP J (fun hc1 => ?_) (fun hc1 => ?_)))))))
    ·
     refine Sat.region (Tr.move J J J (Tr.subN (1 * 2 ^ bitsAt i - 1) (18) J J J J oM (Tr.assign J J J (Tr.nil (at_n ?_)))))
     (rw [p1_z hc1]; exact ⟨(), trivial, weak_of (wk1 rfl (wk1 rfl (wk1 rfl (wk1 rfl (wk1 rfl wk0))))) (wh1 Z0 (wh1 Z1 (wh1 Z2 wh0))) nD⟩)
    ·
     refine Sat.skip (at_n ?_)
     (rw [p1_n hc1]; exact ⟨(), trivial, weak_of (wk1 rfl (wk1 rfl (wk1 rfl (wk1 rfl (wk1 rfl wk0))))) (wh1 Z0 (wh1 Z1 (wh1 Z2 wh0))) nD⟩)
   ·
    intro _u hj
    skip
    refine Sat.draw [(0, 0), (0, 1), (0, 2), (1, 3), (0, 4), (0, 5), (0, 6), (0, 7), (0, 8), (1, 9), (0, 10), (0, 11), (4, 12)] Mixed zK (Tr.move J J J (Tr.move J J J (Tr.idxArr1 J J J J Y177 Sz2 _ J oM (Tr.load1 J J J Y2 J Z2 (by exact get_wds oM) ?_))))
    refine Tr.move J J J (Tr.mulN (4) (p1 i) J J J J oM (Tr.addN ((subAt x y i).getD i 0) (4 * p1 i) J J J J oM (Tr.move J J J (Tr.idxArr1 J J J J Y177 Sz2 _ J oM (Tr.load1 J J J Y2 J Z1 (by exact get_wds oM) ?_)))))
    refine Tr.subN ((subAt x y i).getD i 0 + 4 * p1 i) (y.getD i 0) J J J J oM (Tr.idxArr1 J J J J Y177 Sz2 _ J oM ?_)
    rw [hsub]
    refine Tr.store1 J J J J J Sz2 Z2 (by (simp [wdsV_length, hal]; omega)) (by exact set_wds _ _ _) (by exact upd2) ?_
    refine Tr.nil (bl_n (at_n (Sat.region (Tr.move J J J (Tr.add_i64 J J J J oM (Tr.assign J J J (Tr.nil (at_n ?_))))))))
    exact ⟨i + 1, by omega, by omega, weak_of (wk1 rfl (wk1 rfl (wk1 rfl (wk1 rfl wk0)))) (wh1 Z0 (wh1 Z1 (wh1 Z2 wh0))) nD⟩
  ·
   rw [show subAt x y i = A from by rw [show i = 10 by omega]; exact hA.out]
   refine Sat.exit (at_x (at_x (bl_h (at_n (Sat.seq (Sat.region (Tr.loadAll J J J Y177 J Sz177 Z2 (by (simp [wdsV_length, hAl]; done)) ?_)))))))
   refine Tr.callV J J J J Body230 (hc) (fun _ _ => trivial) (Tr.storeAll J J J J (by exact wdsV_cell _) Sz177 (by (simp [wdsV_length, hUl]; done)) Z0 sP zU ?_)
   refine Tr.nil (at_n (Sat.ret (en_r ?_)))
   refine ⟨_, [], res_cell J J Y177 J Sz177 Z0 (by simp [wdsV_length, hUl]), sP, sP, ?_, rfl⟩
   rfl

theorem r3_Times (x y : List Nat) (hx : Fit10 x) (hy : Fit10 y) : Meets Tryz.prog 197 [agg (wdsV x), agg (wdsV y)] [] (fun _ => True) (fun v out => v = agg (wdsV (mulT x y)) ∧ out = []) := by
 intro W hW
 have hxl := hx.len
 have hyl := hy.len
 obtain ⟨A, hA⟩ : ∃ A, Hid (tAll x y 10 = A) := ⟨_, ⟨rfl⟩⟩
 obtain ⟨U, hU⟩ : ∃ U, Hid (car10 (tAll x y 10) = U) := ⟨_, ⟨rfl⟩⟩
 have hAl : A.length = 10 := by rw [← hA.out]; exact tAll_length x y 10
 have hUl : U.length = 10 := by rw [← hU.out]; exact car10_length _
 have hc := r3_carry A (by rw [← hA.out]; exact tAll_mid hx hy)
 rw [show car10 A = U from by rw [← hA.out]; exact hU.out] at hc
 have hcc := r3_carry U (by rw [← hU.out]; exact car10_mid (tAll_v10 hx hy))
 obtain ⟨V, hV⟩ : ∃ V, Hid (mulT x y = V) := ⟨_, ⟨rfl⟩⟩
 have hVl : V.length = 10 := by rw [← hV.out]; exact car10_length _
 rw [show car10 U = V from by rw [← hU.out]; exact hV.out] at hcc
 rw [hV.out]
 have hal := hAl
 refine calls_of (hp0 := []) Tryz.func197 J 56 Tryz.ntmps197 J (HRep.nil _) (Sat.seq (Sat.region (Tr.boxA J J ?_)))
 intro n2 hn2 hf2
 refine Tr.boxA J J ?_
 intro n3 hn3 hf3
 refine Tr.alloc (cs := (intsV (List.replicate 10 0))) J Zr177 J ?_
 intro n4 hn4 hf4
 refine Tr.nil (at_n (Sat.seq (Sat.region (Tr.alloc (cs := (intsV (List.replicate 10 0))) J Zr177 J ?_))))
 intro n5 hn5 hf5
 refine Tr.nil (at_n (Sat.seq (Sat.seq (Sat.region (Tr.assign J J J (Tr.nil (at_n (Sat.block (Sat.loop (ι := Nat) (fun i => ⟨[(2, ptr n2 0), (3, ptr n3 0), (4, ptr n4 0), (5, ptr n5 0), (6, i64 (i : Int))], [⟨n5, wdsV (tAll x y i), 177, 10⟩, ⟨n4, (intsV (List.replicate 10 0)), 177, 10⟩, ⟨n3, wdsV y, 177, (wdsV y).length⟩, ⟨n2, wdsV x, 177, (wdsV x).length⟩]⟩) (fun i => i ≤ 10) (fun i => 10 - i) (0) ?_ ?_ ?_)))))))))
 · omega
 · exact weak_of (wk1 rfl (wk1 rfl (wk1 rfl (wk1 rfl (wk1 rfl wk0))))) (wh1 (by rw [show wdsV (tAll x y 0) = intsV (List.replicate 10 0) from rfl]; exact mem0) (wh1 Z1 (wh1 Z2 (wh1 Z3 wh0)))) nD
 ·
  rintro i hi
  refine Sat.seq (Sat.seq (Sat.region (Tr.move J J J (Tr.lss J J J J J (Tr.nil (at_n (Sat.condP J (fun hc0 => ?_) (fun hc0 => ?_))))))))
  ·
   have hi2 : i < 10 := by omega
   refine Sat.skip (at_n (Sat.seq (Sat.block (Sat.seq (Sat.region (Tr.assign J J J (Tr.nil (at_n (Sat.block (Sat.loop (ι := Nat) (fun k => ⟨[(2, ptr n2 0), (3, ptr n3 0), (4, ptr n4 0), (5, ptr n5 0), (6, i64 (i : Int)), (7, i64 (k : Int))], [⟨n5, wdsV (tRow x y i (tAll x y i) k), 177, 10⟩, ⟨n4, (intsV (List.replicate 10 0)), 177, 10⟩, ⟨n3, wdsV y, 177, (wdsV y).length⟩, ⟨n2, wdsV x, 177, (wdsV x).length⟩]⟩) (fun k => k ≤ 10) (fun k => 10 - k) (0) ?_ ?_ ?_))))))))))
   · omega
   · exact weak_of (wk1 rfl (wk1 rfl (wk1 rfl (wk1 rfl (wk1 rfl (wk1 rfl wk0)))))) (wh1 Z0 (wh1 Z1 (wh1 Z2 (wh1 Z3 wh0)))) nD
   ·
    rintro k hk
    have hal := tRow_length x y i (tAll_length x y i) k
    refine Sat.seq (Sat.seq (Sat.region (Tr.move J J J (Tr.lss J J J J J (Tr.nil (at_n (Sat.condP J (fun hc1 => ?_) (fun hc1 => ?_))))))))
    ·
     have hk2 : k < 10 := by omega
     have hxy := prod_le hx hy hi2 hk2
     have hcf : cf2 i k * (x.getD i 0 * y.getD k 0) ≤ 2 * 18014398509481984 := Nat.mul_le_mul (cf2_le i k) hxy
     have hco := term_le hx hy i k hi2 hk2
     have hbd := tRow_bd hx hy (m := (i + k) % 10) hi2 (show k ≤ 10 by omega) (Nat.mod_lt _ dE)
     refine Sat.skip (at_n (Sat.seq (Sat.block (Sat.seq (Sat.draw [(0, 0), (0, 1), (1, 2), (0, 3), (0, 4), (1, 5), (0, 6), (0, 7)] Mixed zK (Tr.move J J J (Tr.idxArr1 J J J J Y177 Sz2 _ J oM (Tr.load1 J J J Y2 J Z3 (by exact get_wds oM) ?_))))))))
     refine Tr.move J J J (Tr.idxArr1 J J J J Y177 Sz2 _ J oM (Tr.load1 J J J Y2 J Z2 (by exact get_wds oM) ?_))
     refine Tr.mulN (x.getD i 0) (y.getD k 0) J J J J oM (Tr.assign J J J (Tr.nil (at_n (Sat.join (ι := Unit) (fun _u => ⟨[(2, ptr n2 0), (3, ptr n3 0), (4, ptr n4 0), (5, ptr n5 0), (6, i64 (i : Int)), (7, i64 (k : Int)), (8, i64 ((cf2 i k * (x.getD i 0 * y.getD k 0) : Nat) : Int))], [⟨n5, wdsV (tRow x y i (tAll x y i) k), 177, 10⟩, ⟨n4, (intsV (List.replicate 10 0)), 177, 10⟩, ⟨n3, wdsV y, 177, (wdsV y).length⟩, ⟨n2, wdsV x, 177, (wdsV x).length⟩]⟩) (fun _u => True) ?_ ?_))))
     ·
      refine Sat.seq (Sat.region (Tr.move J J J (Tr.remN (i) (2) J J J J dE (two (fun r hr k => Tr.eqi J J J J hr k) (fun hs9_20 => ?_) (fun hs9_20 => ?_)))))
      ·
       have hs9_2 := of_decide_eq_true hs9_20
       refine Tr.move J J J (Tr.move J J J (Tr.remN (k) (2) J J J J dE (two (fun r hr k => Tr.eqi J J J J hr k) (fun hs9_60 => ?_) (fun hs9_60 => ?_))))
       ·
        have hs9_6 := of_decide_eq_true hs9_60
        refine Tr.pick J J J J J J (Tr.nil (at_n (Sat.cond_t J J (Sat.region (Tr.move J J J (Tr.mulN (2) (x.getD i 0 * y.getD k 0) J J J J oM (Tr.assign J J J (Tr.nil (at_n ?_)))))))))
        (rw [cf2_t _ hs9_2 hs9_6]; exact ⟨(), trivial, weak_of (wk1 rfl (wk1 rfl (wk1 rfl (wk1 rfl (wk1 rfl (wk1 rfl (wk1 rfl wk0))))))) (wh1 Z0 (wh1 Z1 (wh1 Z2 (wh1 Z3 wh0)))) nD⟩)
       ·
        have hs9_6 := of_decide_eq_false hs9_60
        refine Tr.pick J J J J J J (Tr.nil (at_n (Sat.cond_f J J (Sat.skip (at_n ?_)))))
        (rw [cf2_b _ hs9_6]; exact ⟨(), trivial, weak_of (wk1 rfl (wk1 rfl (wk1 rfl (wk1 rfl (wk1 rfl (wk1 rfl (wk1 rfl wk0))))))) (wh1 Z0 (wh1 Z1 (wh1 Z2 (wh1 Z3 wh0)))) nD⟩)
      ·
       have hs9_2 := of_decide_eq_false hs9_20
       refine Tr.move J J J (Tr.skp J J (Tr.skp J J (Tr.skp J J (Tr.pick J J J J J J (Tr.nil (at_n (Sat.cond_f J J (Sat.skip (at_n ?_)))))))))
       (rw [cf2_a _ hs9_2]; exact ⟨(), trivial, weak_of (wk1 rfl (wk1 rfl (wk1 rfl (wk1 rfl (wk1 rfl (wk1 rfl (wk1 rfl wk0))))))) (wh1 Z0 (wh1 Z1 (wh1 Z2 (wh1 Z3 wh0)))) nD⟩)
     ·
      intro _u hj
      skip
      refine Sat.join (ι := Unit) (fun _u => ⟨[(2, ptr n2 0), (3, ptr n3 0), (4, ptr n4 0), (5, ptr n5 0), (6, i64 (i : Int)), (7, i64 (k : Int)), (8, i64 ((coef i k * (x.getD i 0 * y.getD k 0) : Nat) : Int))], [⟨n5, wdsV (tRow x y i (tAll x y i) k), 177, 10⟩, ⟨n4, (intsV (List.replicate 10 0)), 177, 10⟩, ⟨n3, wdsV y, 177, (wdsV y).length⟩, ⟨n2, wdsV x, 177, (wdsV x).length⟩]⟩) (fun _u => True) ?_ ?_
      ·
       refine Sat.seq (Sat.region (Tr.move J J J (Tr.move J J J (Tr.addN (i) (k) J J J J oM (Tr.gtr J J J J J (Tr.nil (at_n (Sat.condP J (fun hc3 => ?_) (fun hc3 => ?_)))))))))
       ·
        refine Sat.region (Tr.move J J J (Tr.mulN (19) (cf2 i k * (x.getD i 0 * y.getD k 0)) J J J J oM (Tr.assign J J J (Tr.nil (at_n ?_)))))
        (rw [coef_hi _ hc3]; exact ⟨(), trivial, weak_of (wk1 rfl (wk1 rfl (wk1 rfl (wk1 rfl (wk1 rfl (wk1 rfl (wk1 rfl wk0))))))) (wh1 Z0 (wh1 Z1 (wh1 Z2 (wh1 Z3 wh0)))) nD⟩)
       ·
        refine Sat.skip (at_n ?_)
        (rw [coef_lo _ hc3]; exact ⟨(), trivial, weak_of (wk1 rfl (wk1 rfl (wk1 rfl (wk1 rfl (wk1 rfl (wk1 rfl (wk1 rfl wk0))))))) (wh1 Z0 (wh1 Z1 (wh1 Z2 (wh1 Z3 wh0)))) nD⟩)
      ·
       intro _u hj
       skip
       refine Sat.region (Tr.move J J J (Tr.move J J J (Tr.addN (i) (k) J J J J oM (Tr.remN (i + k) (10) J J J J dE (Tr.move J J J (Tr.move J J J (Tr.addN (i) (k) J J J J oM (Tr.remN (i + k) (10) J J J J dE (Tr.idxArr1 J J J J Y177 Sz2 _ J oM (Tr.load1 J J J Y2 J Z0 (by exact get_wds oM) ?_))))))))))
       refine Tr.move J J J (Tr.addN ((tRow x y i (tAll x y i) k).getD ((i + k) % 10) 0) (coef i k * (x.getD i 0 * y.getD k 0)) J J J J oM (Tr.idxArr1 J J J J Y177 Sz2 _ J oM (Tr.store1 J J J J J Sz2 Z0 (by (simp [wdsV_length, hal]; omega)) (by exact set_wds _ _ _) zU ?_)))
       refine Tr.nil (bl_n (at_n (Sat.region (Tr.move J J J (Tr.add_i64 J J J J oM (Tr.assign J J J (Tr.nil (at_n ?_))))))))
       exact ⟨k + 1, by omega, by omega, weak_of (wk1 rfl (wk1 rfl (wk1 rfl (wk1 rfl (wk1 rfl (wk1 rfl wk0)))))) (wh1 Z0 (wh1 Z1 (wh1 Z2 (wh1 Z3 wh0)))) nD⟩
    ·
     refine Sat.exit (at_x (at_x (bl_h (bl_n (at_n (Sat.region (Tr.move J J J (Tr.add_i64 J J J J oM (Tr.assign J J J (Tr.nil (at_n ?_)))))))))))
     exact ⟨i + 1, by omega, by omega, weak_of (wk1 rfl (wk1 rfl (wk1 rfl (wk1 rfl (wk1 rfl wk0))))) (wh1 (by rw [show tAll x y (i + 1) = (tRow x y i (tAll x y i) k) from by rw [show k = 10 by omega]; rfl]; exact mem0) (wh1 Z1 (wh1 Z2 (wh1 Z3 wh0)))) nD⟩
  ·
   rw [show tAll x y i = A from by rw [show i = 10 by omega]; exact hA.out]
   refine Sat.exit (at_x (at_x (bl_h (at_n (Sat.seq (Sat.region (Tr.loadAll J J J Y177 J Sz177 Z0 (by (simp [wdsV_length, hAl]; done)) ?_)))))))
   refine Tr.callV J J J J Body230 (hc) (fun _ _ => trivial) (Tr.callV J J J J Body230 (hcc) (fun _ _ => trivial) (Tr.storeAll J J J J (by exact wdsV_cell _) Sz177 (by (simp [wdsV_length, hVl]; done)) Z1 sP zV ?_))
   refine Tr.nil (at_n (Sat.ret (en_r ?_)))
   refine ⟨_, [], res_cell J J Y177 J Sz177 Z1 (by simp [wdsV_length, hVl]), sP, sP, ?_, rfl⟩
   rfl

end Go.Proofs.YtpacobmjjjillaaGreat
end

section
namespace Ed
open Hw Go
set_option linter.unusedVariables false

def oneT : List Nat := 1 :: List.replicate 9 0
def powT (x : List Nat) (E : Nat) : Nat → List Nat
  | 0 => oneT
  | j + 1 => if E.testBit (255 - j) = true then mulT (mulT (powT x E j) (powT x E j)) x else mulT (powT x E j) (powT x E j)
theorem oneT_v : fe (v10 oneT) = 1 := by kernel_rfl
theorem oneT_fit : Fit10 oneT := ⟨rfl, by decide, fun i h1 h2 => by
  have : ∀ i : _root_.Fin 10, oneT.getD i.val 0 < 2 ^ bitsAt i.val := by decide
  exact this ⟨i, h2⟩⟩
theorem test_div (E j : Nat) (b : Bool) (h : E.testBit j = b) : E / 2 ^ j % 2 = (if b = true then 1 else 0) := by
  rw [← h, Nat.testBit_eq_decide_div_mod_eq]
  simp only [decide_eq_true_eq]
  split <;> omega
theorem powT_ok {x : List Nat} (hx : Fit10 x) {E : Nat} (hE : E < 2 ^ 256) : ∀ j, j ≤ 256 → Fit10 (powT x E j) ∧ fe (v10 (powT x E j)) = fpow (fe (v10 x)) (E / 2 ^ (256 - j))
  | 0, _ => ⟨oneT_fit, by rw [powT, oneT_v, show 256 - 0 = 256 from rfl, Nat.div_eq_of_lt hE, fpow_zero]⟩
  | j + 1, hj => by
    obtain ⟨h1, h2⟩ := powT_ok hx hE j oM
    have h3 : E / 2 ^ (256 - (j + 1)) ≤ E := Nat.div_le_self _ _
    rw [next_div E j oM] at h3 ⊢
    rw [powT]
    cases hb : E.testBit (255 - j) with
    | true =>
      have h4 := test_div E (255 - j) true hb
      rw [if_pos rfl] at h4
      rw [h4] at h3 ⊢
      rw [if_pos rfl]
      refine ⟨mulT_fit (mulT_fit h1 h1) hx, ?_⟩
      rw [mulT_v (mulT_length _ _) hx.len, mulT_v h1.len h1.len, h2, fpow_succ oM, fpow_two oM]
    | false =>
      have h4 := test_div E (255 - j) false hb
      rw [if_neg dE] at h4
      rw [h4] at h3 ⊢
      rw [if_neg dE]
      refine ⟨mulT_fit h1 h1, ?_⟩
      rw [mulT_v h1.len h1.len, h2, Nat.add_zero, fpow_two oM]
theorem powT_all {x : List Nat} (hx : Fit10 x) {E : Nat} (hE : E < 2 ^ 256) : fe (v10 (powT x E 256)) = fpow (fe (v10 x)) E := by
  have h := (powT_ok hx hE 256 (Nat.le_refl _)).2
  rwa [Nat.sub_self, Nat.pow_zero, Nat.div_one] at h
theorem powT_t {x : List Nat} {E j : Nat} (h : E.testBit (255 - j) = true) : powT x E (j + 1) = mulT (mulT (powT x E j) (powT x E j)) x := if_pos h
theorem powT_f {x : List Nat} {E j : Nat} (h : E.testBit (255 - j) = false) : powT x E (j + 1) = mulT (powT x E j) (powT x E j) := if_neg (by rw [h]; decide)
def halfAt (M i : Nat) : List UInt8 := (leb 32 (M / 2)).take i ++ (leb 32 M).drop i
theorem halfAt_length (M i : Nat) (h : i ≤ 32) : (halfAt M i).length = 32 := by
  rw [halfAt, List.length_append, List.length_take, List.length_drop, leb_length, leb_length]; omega
theorem halfAt_zero (M : Nat) : halfAt M 0 = leb 32 M := rfl
theorem halfAt_end (M : Nat) : halfAt M 32 = leb 32 (M / 2) := by
  rw [halfAt, List.take_of_length_le (by rw [leb_length]; exact Nat.le_refl _), List.drop_of_length_le (by rw [leb_length]; exact Nat.le_refl _), List.append_nil]
theorem halfAt_get (M : Nat) {i j : Nat} (hi : i ≤ j) (hj : j < 32) : (halfAt M i).getD j 0 = UInt8.ofNat (M / 256 ^ j) := by
  rw [halfAt, List.getD_eq_getElem?_getD, List.getElem?_append_right (by rw [List.length_take, leb_length]; omega), List.length_take, leb_length, List.getElem?_drop, show i + (j - min i 32) = j by omega, leb_get 32 M j hj]
  rfl
theorem half_byte (M i : Nat) : M / 2 / 256 ^ i % 256 = M / 256 ^ i % 256 / 2 + 128 * (M / 256 ^ (i + 1) % 2) := by
  have e1 : M / 2 / 256 ^ i = M / 256 ^ i / 2 := by rw [Nat.div_div_eq_div_mul, Nat.div_div_eq_div_mul, Nat.mul_comm]
  have e2 : M / 256 ^ (i + 1) = M / 256 ^ i / 256 := by rw [Nat.div_div_eq_div_mul, Nat.pow_succ]
  rw [e1, e2]
  generalize M / 256 ^ i = x
  omega
theorem halfAt_next (M : Nat) {i : Nat} (h : i < 32) (v : UInt8) (hv : v = UInt8.ofNat (M / 2 / 256 ^ i)) : (halfAt M i).set i v = halfAt M (i + 1) := by
  have hl : (leb 32 (M / 2)).length = 32 := leb_length _ _
  have hl2 : (leb 32 M).length = 32 := leb_length _ _
  have e : (leb 32 (M / 2)).take (i + 1) = (leb 32 (M / 2)).take i ++ [v] := by
    have e3 : (leb 32 (M / 2))[i]'oM = v := by
      have := leb_get 32 (M / 2) i h
      rw [List.getElem?_eq_getElem oM] at this
      rw [hv]
      exact Option.some.inj this
    rw [← e3]
    exact List.take_succ_eq_append_getElem oM
  have e2 : (leb 32 M).drop i = (leb 32 M)[i]'oM :: (leb 32 M).drop (i + 1) := List.drop_eq_getElem_cons oM
  rw [halfAt, halfAt, e, e2, List.set_append_right _ _ (by rw [List.length_take, hl]; omega), List.length_take, hl, show i - min i 32 = 0 by omega, List.set_cons_zero, List.append_assoc]
  rfl
theorem half_odd (M : Nat) {i : Nat} (h : i < 31) (hb : (((halfAt M i).set i (UInt8.ofNat (((halfAt M i).getD i 0).toNat / 2))).getD (i + 1) 0).toNat % 2 = 1) :
    ((halfAt M i).set i (UInt8.ofNat (((halfAt M i).getD i 0).toNat / 2))).set i (((halfAt M i).set i (UInt8.ofNat (((halfAt M i).getD i 0).toNat / 2))).getD i 0 + 128) = halfAt M (i + 1) := by
  have hl := halfAt_length M i oM
  have g1 : ((halfAt M i).set i (UInt8.ofNat (((halfAt M i).getD i 0).toNat / 2))).getD i 0 = UInt8.ofNat (((halfAt M i).getD i 0).toNat / 2) := by
    rw [List.getD_eq_getElem?_getD, List.getElem?_set_self oM]; rfl
  have g2 : ((halfAt M i).set i (UInt8.ofNat (((halfAt M i).getD i 0).toNat / 2))).getD (i + 1) 0 = UInt8.ofNat (M / 256 ^ (i + 1)) := by
    rw [List.getD_eq_getElem?_getD, List.getElem?_set_ne oM, ← List.getD_eq_getElem?_getD, halfAt_get M oM oM]
  rw [g2, UInt8.toNat_ofNat'] at hb
  rw [g1, List.set_set]
  refine halfAt_next M oM _ ?_
  rw [halfAt_get M (Nat.le_refl _) oM, show (128 : UInt8) = UInt8.ofNat 128 from rfl, ← UInt8.ofNat_add, UInt8.toNat_ofNat']
  apply ofNat8
  have := half_byte M i
  omega
theorem half_even (M : Nat) {i : Nat} (h : i < 31) (hb : ¬ (((halfAt M i).set i (UInt8.ofNat (((halfAt M i).getD i 0).toNat / 2))).getD (i + 1) 0).toNat % 2 = 1) :
    (halfAt M i).set i (UInt8.ofNat (((halfAt M i).getD i 0).toNat / 2)) = halfAt M (i + 1) := by
  have hl := halfAt_length M i oM
  have g2 : ((halfAt M i).set i (UInt8.ofNat (((halfAt M i).getD i 0).toNat / 2))).getD (i + 1) 0 = UInt8.ofNat (M / 256 ^ (i + 1)) := by
    rw [List.getD_eq_getElem?_getD, List.getElem?_set_ne oM, ← List.getD_eq_getElem?_getD, halfAt_get M oM oM]
  rw [g2, UInt8.toNat_ofNat'] at hb
  refine halfAt_next M oM _ ?_
  rw [halfAt_get M (Nat.le_refl _) oM, UInt8.toNat_ofNat']
  apply ofNat8
  have := half_byte M i
  omega
theorem half_last (M : Nat) (hM : M < 2 ^ 256) : (halfAt M 31).set 31 (UInt8.ofNat (((halfAt M 31).getD 31 0).toNat / 2)) = halfAt M 32 := by
  refine halfAt_next M oM _ ?_
  rw [halfAt_get M (Nat.le_refl _) oM, UInt8.toNat_ofNat']
  apply ofNat8
  have := half_byte M 31
  have h2 : M / 256 ^ (31 + 1) = 0 := Nat.div_eq_of_lt (Nat.lt_of_lt_of_le hM dE)
  omega
theorem ones_leb (f l : UInt8) : leb 32 (le (onesB f l)) = onesB f l := by
  have := leb_le (onesB f l)
  rwa [onesB_length] at this
/-- what the reference raises to -/
def expT (n k : Nat) : List UInt8 := leb 32 (le (onesB (UInt8.ofNat (237 - n)) 127) / 2 ^ k)
theorem expT_length (n k : Nat) : (expT n k).length = 32 := leb_length _ _
theorem expT_inv : le (expT 2 0) = PF - 2 := by kernel_rfl
theorem expT_root : le (expT 5 3) = (PF - 5) / 8 := by kernel_rfl
theorem expT_unit : le (expT 1 2) = (PF - 1) / 4 := by kernel_rfl
theorem root_step (X : Fp) : fpow X ((PF - 5) / 8) * X = fpow X ((PF + 3) / 8) := by
  rw [← fpow_succ dE]
  rfl
end Ed
end
