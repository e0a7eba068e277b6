/- Contracts of functions of the loaded program, and the lemmas that they need (part 5). It proves no statement by itself; it has no conditions. -/
import Derived.WalkKit
import Derived.Orders
import Derived.Deep.LoopGhost
import Derived.IntWalk
import Derived.Laws.StructEq
import Derived.ArgAppend
import Derived.Deep.AppendSrc
import Derived.Lib.Bytealg
import Derived.Lib.BytesEntry
import Derived.Laws.IdiomStrings
import Derived.WideKeyArr2
import Derived.ProofKit
import Derived.OpenShut
import Derived.Deep.Slices
import Derived.Laws.Pointers
import Derived.Laws.Cover3
import Derived.LaidEqlPtr
import Derived.LoopN
import Derived.RangeFuncLeaves
import Derived.RangeFuncSeq
import Derived.OrdersIn
import Derived.Test.YtpacobmjjjillaaGreatRows
import Derived.KernelRfl
import Derived.Laws.Externs
import Derived.Defers
import Derived.Laws.MathBits
import Derived.ChangeOld
import Derived.Below
import Derived.Test.YtpacobmjjjillaaGreatVCallsC4
set_option maxRecDepth 100000
set_option maxHeartbeats 8000000
section
namespace Go.Proofs.YtpacobmjjjillaaGreat
open Go Hw
set_option linter.unusedVariables false
set_option linter.unusedSimpArgs false

open Ed

theorem o_fit {a : List UInt8} (ha : a.length = 32) : Fit10 (openT (le a)) := openT_fit (le32 ha)
theorem o_v {a : List UInt8} (ha : a.length = 32) : fe (v10 (openT (le a))) = fe (le a) := openT_v (le32 ha)
/-- closed words -/
theorem r3_Close_v (w : List Nat) (hw : Fit10 w) (X : Fp) (h : fe (v10 w) = X) : Meets Tryz.prog 196 [agg (wdsV w)] [] (fun _ => True) (fun v out => v = agg (bytesV (fb X)) ∧ out = []) := by
  rw [← h]; exact r3_Close w hw

theorem r3_Rest (a : List UInt8) (ha : a.length = 32) : Meets Tryz.prog 195 [agg (bytesV a)] [] (fun _ => True) (fun v out => v = agg (bytesV (fb (fe (le a)))) ∧ out = []) := by
 intro W hW
 refine calls_of (hp0 := []) Tryz.func195 J 6 Tryz.ntmps195 J (HRep.nil _) (Sat.seq (Sat.region (Tr.boxA J J ?_)))
 intro n1 hn1 hf1
 refine Tr.alloc (cs := (bytesV (List.replicate 32 0))) J Zr77 J ?_
 intro n2 hn2 hf2
 refine Tr.nil (at_n (Sat.seq (Sat.region (Tr.loadAll J J J Y77 J Sz77 Z1 (by (simp [ha]; done)) ?_))))
 refine Tr.callV J J J J Body188 (r3_Open (a) (ha)) (fun _ _ => trivial) (Tr.callV J J J J Body196 (r3_Close_v (_) (o_fit ha) (_) (o_v ha)) (fun _ _ => trivial) (Tr.storeAll J J J J zE Sz77 zF Z0 sP zU ?_))
 refine Tr.nil (at_n (Sat.ret (en_r ?_)))
 refine ⟨_, [], res_cell J J Y77 J Sz77 Z0 (by simp [fb_length]), sP, sP, ?_, rfl⟩
 rfl

theorem r3_Canon (a : List UInt8) (ha : a.length = 32) : Meets Tryz.prog 184 [agg (bytesV a)] [] (fun _ => True) (fun v out => v = .bool (decide (fb (fe (le a)) = a)) ∧ out = []) := by
 intro W hW
 refine calls_of (hp0 := []) Tryz.func184 J 7 Tryz.ntmps184 J (HRep.nil _) (Sat.seq (Sat.region (Tr.boxA J J ?_)))
 intro n1 hn1 hf1
 refine Tr.assign J J J (Tr.nil (at_n (Sat.seq (Sat.draw [(1, 0), (1, 2), (3, 1), (0, 3), (0, 4)] Mixed zK (Tr.loadAll J J J Y77 J Sz77 Z0 (by (simp [ha]; done)) ?_)))))
 refine Tr.loadAll J J J Y77 J Sz77 Z0 (by (simp [ha]; done)) ?_
 refine Tr.callV J J J J Body195 (r3_Rest (a) (ha)) (fun _ _ => trivial) (Tr.eql_bytes J J J J Tryz.eqGuardType77 Y77 Y5 Sz5 zF (by (simp [ha]; done)) J ?_)
 refine Tr.assign J J J (Tr.nil (at_n (Sat.ret (en_r ?_))))
 refine ⟨_, [], res_tmp J J, sP, sP, ?_, rfl⟩
 rfl

theorem r3_Same (a b : List UInt8) (ha : a.length = 32) (hb : b.length = 32) : Meets Tryz.prog 234 [agg (bytesV a), agg (bytesV b)] [] (fun _ => True) (fun v out => v = .bool (decide (fe (le a) = fe (le b))) ∧ out = []) := by
 intro W hW
 refine calls_of (hp0 := []) Tryz.func234 J 10 Tryz.ntmps234 J (HRep.nil _) (Sat.seq (Sat.region (Tr.boxA J J ?_)))
 intro n2 hn2 hf2
 refine Tr.boxA J J ?_
 intro n3 hn3 hf3
 refine Tr.assign J J J (Tr.nil (at_n (Sat.seq (Sat.draw [(1, 0), (1, 2), (3, 1), (3, 3), (0, 4), (0, 5)] Mixed zK (Tr.loadAll J J J Y77 J Sz77 Z1 (by (simp [ha]; done)) ?_)))))
 refine Tr.loadAll J J J Y77 J Sz77 Z0 (by (simp [hb]; done)) ?_
 refine Tr.callV J J J J Body195 (r3_Rest (a) (ha)) (fun _ _ => trivial) (Tr.callV J J J J Body195 (r3_Rest (b) (hb)) (fun _ _ => trivial) (Tr.eql_bytes J J J J Tryz.eqGuardType77 Y77 Y5 Sz5 zF zF J (Tr.assign J J J (Tr.nil (at_n (Sat.ret (en_r ?_)))))))
 refine ⟨_, [], res_tmp J J, sP, sP, ?_, rfl⟩
 rw [fb_dec]

theorem odd_byte2 (x : Fp) : decide (((UInt8.ofNat (((fb x).getD 0 0).toNat % 2)).toNat : Int) = 1) = decide (x.val % 2 = 1) := by
  have e : (UInt8.ofNat (((fb x).getD 0 0).toNat % 2)).toNat = x.val % 2 := by
    rw [fb_head, UInt8.toNat_ofNat', UInt8.toNat_ofNat']
    omega
  rw [e]
  congr 1
  exact propext ⟨fun h => by omega, fun h => by omega⟩

theorem r3_Odd (a : List UInt8) (ha : a.length = 32) : Meets Tryz.prog 119 [agg (bytesV a)] [] (fun _ => True) (fun v out => v = .bool (decide ((fe (le a)).val % 2 = 1)) ∧ out = []) := by
 intro W hW
 refine calls_of (hp0 := []) Tryz.func119 J 8 Tryz.ntmps119 J (HRep.nil _) (Sat.seq (Sat.region (Tr.boxA J J ?_)))
 intro n1 hn1 hf1
 refine Tr.assign J J J (Tr.nil (at_n (Sat.seq (Sat.region (Tr.loadAll J J J Y77 J Sz77 Z0 (by (simp [ha]; done)) ?_)))))
 refine Tr.callV J J J J Body195 (r3_Rest (a) (ha)) (fun _ _ => trivial) (Tr.idxA1 J J J J Y77 Sz5 Y5 J 0 J oM (by rfl) ?_)
 refine Tr.rem_u8 J J J J 2 J dE (Tr.eqi J J J J J (Tr.assign J J J (Tr.nil (at_n (Sat.ret (en_r ?_))))))
 refine ⟨_, [], res_tmp J J, sP, sP, ?_, rfl⟩
 exact congrArg Value.bool (odd_byte2 _)

theorem r3_Of (x : UInt64) : Meets Tryz.prog 123 [u64 x] [] (fun _ => True) (fun v out => v = agg (bytesV (fb (fe x.toNat))) ∧ out = []) := by
 intro W hW
 have hpl : True := trivial
 refine calls_of (hp0 := []) Tryz.func123 J 18 Tryz.ntmps123 J (HRep.nil _) (Sat.seq (Sat.region (Tr.alloc (cs := (bytesV (List.replicate 32 0))) J Zr77 J ?_)))
 intro n2 hn2 hf2
 refine Tr.nil (at_n (Sat.seq (Sat.region (Tr.alloc (cs := (bytesV (List.replicate 32 0))) J Zr77 J ?_))))
 intro n3 hn3 hf3
 refine Tr.nil (at_n (Sat.seq (Sat.seq (Sat.region (Tr.assign J J J (Tr.nil (at_n (Sat.block (Sat.loop (ι := Nat) (fun k => ⟨[(0, u64 x), (2, ptr n2 0), (3, ptr n3 0), (4, i64 (k : Int))], [⟨n3, bytesV (padW 32 x.toNat k), 77, 32⟩, ⟨n2, bytesV (List.replicate 32 0), 77, 32⟩]⟩) (fun k => k ≤ 8) (fun k => 8 - k) (0) ?_ ?_ ?_)))))))))
 · omega
 · exact weak_of (wk1 rfl (wk1 rfl (wk1 rfl (wk1 rfl wk0)))) (wh1 (by rw [padW_zero]; exact mem0) (wh1 Z1 wh0)) nD
 ·
  rintro k hi
  have hpl := padW_length 32 x.toNat k oM
  refine Sat.seq (Sat.seq (Sat.region (Tr.move J J J (Tr.lss J J J J J (Tr.nil (at_n (Sat.condP J (fun hc0 => ?_) (fun hc0 => ?_))))))))
  ·
   refine Sat.skip (at_n (Sat.seq (Sat.block (Sat.region (Tr.move J J J (Tr.move J J J (Tr.move J J J (Tr.mul_i64 J J J J oM (Tr.conv J J J Y3 Y35 (cv_i64_u64 _) (Tr.shr_u64 J J J J (8 * k) (by rw [wordOf_id _ oM]; omega) oM ?_))))))))))
   refine Tr.conv J J J Y22 Y5 (cv_u64_u8 _) (Tr.idxArr1 J J J J Y77 Sz5 _ J oM (Tr.store1 J J J J J Sz5 Z0 (by (simp [hpl]; omega)) (by exact set_bytes _ _ _) zU ?_))
   refine Tr.nil (bl_n (at_n (Sat.region (Tr.move J J J (Tr.add_i64 J J J J oM (Tr.assign J J J (Tr.nil (at_n ?_))))))))
   exact ⟨k + 1, by omega, by omega, weak_of (wk1 rfl (wk1 rfl (wk1 rfl (wk1 rfl wk0)))) (wh1 (by rw [← zero_set x k oM]; exact mem0) (wh1 Z1 wh0)) nD⟩
  ·
   obtain rfl : k = 8 := by omega
   rw [pad_small] at *
   refine Sat.exit (at_x (at_x (bl_h (at_n (Sat.seq (Sat.region (Tr.loadAll J J J Y77 J Sz77 Z0 (by (simp [hpl]; done)) ?_)))))))
   refine Tr.storeAll J J J J zE Sz77 (by (simp [hpl]; done)) Z1 sP zV ?_
   refine Tr.nil (at_n (Sat.ret (en_r ?_)))
   refine ⟨_, [], res_cell J J Y77 J Sz77 Z1 (by simp [hpl]), sP, sP, ?_, rfl⟩
   rw [fe_small]

theorem mul_ab {a b : List UInt8} (ha : a.length = 32) (hb : b.length = 32) : fe (v10 (mulT (openT (le a)) (openT (le b)))) = fe (le a) * fe (le b) := by rw [mulT_v (o_fit ha).len (o_fit hb).len, o_v ha, o_v hb]
theorem sub_ab {a b : List UInt8} (ha : a.length = 32) (hb : b.length = 32) : fe (v10 (minusT (openT (le a)) (openT (le b)))) = fe (le a) - fe (le b) := by rw [minusT_v (o_fit ha).len (o_fit hb), o_v ha, o_v hb]

theorem r3_Mul (a b : List UInt8) (ha : a.length = 32) (hb : b.length = 32) : Meets Tryz.prog 122 [agg (bytesV a), agg (bytesV b)] [] (fun _ => True) (fun v out => v = agg (bytesV (fb (fe (le a) * fe (le b)))) ∧ out = []) := by
 intro W hW
 refine calls_of (hp0 := []) Tryz.func122 J 11 Tryz.ntmps122 J (HRep.nil _) (Sat.seq (Sat.region (Tr.boxA J J ?_)))
 intro n2 hn2 hf2
 refine Tr.boxA J J ?_
 intro n3 hn3 hf3
 refine Tr.alloc (cs := (bytesV (List.replicate 32 0))) J Zr77 J ?_
 intro n4 hn4 hf4
 refine Tr.nil (at_n (Sat.seq (Sat.draw [(1, 0), (1, 2), (3, 1), (3, 3), (3, 4), (3, 5), (4, 6)] Mixed zK (Tr.loadAll J J J Y77 J Sz77 Z2 (by (simp [ha]; done)) ?_))))
 refine Tr.loadAll J J J Y77 J Sz77 Z1 (by (simp [hb]; done)) ?_
 refine Tr.callV J J J J Body188 (r3_Open (a) (ha)) (fun _ _ => trivial) (Tr.callV J J J J Body188 (r3_Open (b) (hb)) (fun _ _ => trivial) (Tr.callV J J J J Body197 (r3_Times (_) (_) (o_fit ha) (o_fit hb)) (fun _ _ => trivial) (Tr.callV J J J J Body196 (r3_Close_v (_) (mulT_fit (o_fit ha) (o_fit hb)) (_) (mul_ab ha hb)) (fun _ _ => trivial) (Tr.storeAll J J J J zE Sz77 zF Z0 sP zU ?_))))
 refine Tr.nil (at_n (Sat.ret (en_r ?_)))
 refine ⟨_, [], res_cell J J Y77 J Sz77 Z0 (by simp [fb_length]), sP, sP, ?_, rfl⟩
 rfl

theorem r3_Sub (a b : List UInt8) (ha : a.length = 32) (hb : b.length = 32) : Meets Tryz.prog 194 [agg (bytesV a), agg (bytesV b)] [] (fun _ => True) (fun v out => v = agg (bytesV (fb (fe (le a) - fe (le b)))) ∧ out = []) := by
 intro W hW
 refine calls_of (hp0 := []) Tryz.func194 J 11 Tryz.ntmps194 J (HRep.nil _) (Sat.seq (Sat.region (Tr.boxA J J ?_)))
 intro n2 hn2 hf2
 refine Tr.boxA J J ?_
 intro n3 hn3 hf3
 refine Tr.alloc (cs := (bytesV (List.replicate 32 0))) J Zr77 J ?_
 intro n4 hn4 hf4
 refine Tr.nil (at_n (Sat.seq (Sat.draw [(1, 0), (1, 2), (3, 1), (3, 3), (3, 4), (3, 5), (4, 6)] Mixed zK (Tr.loadAll J J J Y77 J Sz77 Z2 (by (simp [ha]; done)) ?_))))
 refine Tr.loadAll J J J Y77 J Sz77 Z1 (by (simp [hb]; done)) ?_
 refine Tr.callV J J J J Body188 (r3_Open (a) (ha)) (fun _ _ => trivial) (Tr.callV J J J J Body188 (r3_Open (b) (hb)) (fun _ _ => trivial) (Tr.callV J J J J Body231 (r3_Minus (_) (_) (o_fit ha) (o_fit hb)) (fun _ _ => trivial) (Tr.callV J J J J Body196 (r3_Close_v (_) (minusT_fit (o_fit ha) (o_fit hb)) (_) (sub_ab ha hb)) (fun _ _ => trivial) (Tr.storeAll J J J J zE Sz77 zF Z0 sP zU ?_))))
 refine Tr.nil (at_n (Sat.ret (en_r ?_)))
 refine ⟨_, [], res_cell J J Y77 J Sz77 Z0 (by simp [fb_length]), sP, sP, ?_, rfl⟩
 rfl

theorem r3_Neg (a : List UInt8) (ha : a.length = 32) : Meets Tryz.prog 185 [agg (bytesV a)] [] (fun _ => True) (fun v out => v = agg (bytesV (fb (- fe (le a)))) ∧ out = []) := by
 intro W hW
 refine calls_of (hp0 := []) Tryz.func185 J 6 Tryz.ntmps185 J (HRep.nil _) (Sat.seq (Sat.region (Tr.boxA J J ?_)))
 intro n1 hn1 hf1
 refine Tr.alloc (cs := (bytesV (List.replicate 32 0))) J Zr77 J ?_
 intro n2 hn2 hf2
 refine Tr.nil (at_n (Sat.seq (Sat.region (Tr.build (cs := bytesV (List.replicate 32 0)) J J J (fun w => by kernel_rfl) ?_))))
 refine Tr.loadAll J J J Y77 J Sz77 Z1 (by (simp [ha]; done)) ?_
 refine Tr.callV J J J J Body194 (r3_Sub (List.replicate 32 0) (a) (rfl) (ha)) (fun _ _ => trivial) (Tr.storeAll J J J J zE Sz77 zF Z0 sP zU ?_)
 refine Tr.nil (at_n (Sat.ret (en_r ?_)))
 refine ⟨_, [], res_cell J J Y77 J Sz77 Z0 (by simp [fb_length]), sP, sP, ?_, rfl⟩
 rw [show fe (le (List.replicate 32 0)) - fe (le a) = - fe (le a) from by rw [show fe (le (List.replicate 32 0)) = 0 by kernel_rfl]; grind]

theorem oneT_l : oneT.length = 10 := rfl

theorem r3_Power (x : List Nat) (e : List UInt8) (hx : Fit10 x) (he : e.length = 32) : Meets Tryz.prog 233 [agg (wdsV x), agg (bytesV e)] [] (fun _ => True) (fun v out => v = agg (wdsV (powT x (le e) 256)) ∧ out = []) := by
 intro W hW
 have hxl := hx.len
 have hE := le32 he
 obtain ⟨U, hU⟩ : ∃ U, Hid (powT x (le e) 256 = U) := ⟨_, ⟨rfl⟩⟩
 have hUl : U.length = 10 := by rw [← hU.out]; exact (powT_ok hx hE 256 (Nat.le_refl _)).1.len
 rw [hU.out]
 have hpl := hUl
 refine calls_of (hp0 := []) Tryz.func233 J 29 Tryz.ntmps233 J (HRep.nil _) (Sat.seq (Sat.region (Tr.boxA J J ?_)))
 intro n2 hn2 hf2
 refine Tr.boxA J J ?_
 intro n3 hn3 hf3
 refine Tr.alloc (cs := (intsV (List.replicate 10 0))) J Zr177 J ?_
 intro n4 hn4 hf4
 refine Tr.nil (at_n (Sat.seq (Sat.region (Tr.build (cs := wdsV oneT) J J J (fun w => by kernel_rfl) ?_))))
 refine Tr.alloc (cs := (intsV (List.replicate 10 0))) J Zr177 J ?_
 intro n5 hn5 hf5
 refine Tr.storeAll J J J J (by exact wdsV_cell _) Sz177 (by (simp [wdsV_length, oneT_l]; done)) Z0 sP zU ?_
 refine Tr.nil (at_n (Sat.seq (Sat.seq (Sat.region (Tr.assign J J J (Tr.nil (at_n (Sat.block (Sat.loop (ι := Nat) (fun j => ⟨[(2, ptr n2 0), (3, ptr n3 0), (4, ptr n4 0), (5, ptr n5 0), (6, i64 (255 - (j : Int)))], [⟨n5, wdsV (powT x (le e) j), 177, 10⟩, ⟨n4, (intsV (List.replicate 10 0)), 177, 10⟩, ⟨n3, bytesV e, 77, (bytesV e).length⟩, ⟨n2, wdsV x, 177, (wdsV x).length⟩]⟩) (fun j => j ≤ 256) (fun j => 256 - j) (0) ?_ ?_ ?_)))))))))
 · omega
 · exact weak_of (wk1 rfl (wk1 rfl (wk1 rfl (wk1 rfl (wk1 rfl wk0))))) (wh1 (by rw [show powT x (le e) 0 = oneT from rfl]; exact mem0) (wh1 Z1 (wh1 Z2 (wh1 Z3 wh0)))) nD
 ·
  rintro j hj
  obtain ⟨hfit, hfv⟩ := powT_ok hx hE j hj
  have hpl := hfit.len
  have hml : (mulT (powT x (le e) j) (powT x (le e) j)).length = 10 := mulT_length _ _
  refine Sat.seq (Sat.seq (Sat.region (Tr.move J J J (Tr.geq J J J J J (Tr.nil (at_n (Sat.condP J (fun hc0 => ?_) (fun hc0 => ?_))))))))
  ·
   have hj2 : j < 256 := by omega
   rw [show (255 : Int) - (j : Int) = ((255 - j : Nat) : Int) by omega]
   refine Sat.skip (at_n (Sat.seq (Sat.block (Sat.seq (Sat.region (Tr.loadAll J J J Y177 J Sz177 Z0 (by (simp [wdsV_length, hpl]; done)) ?_))))))
   refine Tr.loadAll J J J Y177 J Sz177 Z0 (by (simp [wdsV_length, hpl]; done)) ?_
   refine Tr.callV J J J J Body197 (r3_Times _ _ hfit hfit) (fun _ _ => trivial) (Tr.storeAll J J J J (by exact wdsV_cell _) Sz177 (by (simp [wdsV_length, mulT_length]; done)) Z0 (by (simp [wdsV_length, hpl]; done)) zU ?_)
   refine Tr.nil (at_n (Sat.seq (Sat.region (Tr.move J J J (Tr.quoN (255 - j) (8) J J J J ⟨by decide, by omega⟩ ?_)))))
   refine Tr.idxArr1 J J J J Y77 Sz5 _ J oM (Tr.load1 J J J Y5 J Z2 zG ?_)
   refine Tr.move J J J (Tr.remN (255 - j) (8) J J J J dE (Tr.conv J J J Y3 Y35 (cv_i64_u64 _) (Tr.shr_u8 J J J J ((255 - j) % 8) (by rw [wordOf_id _ oM]) oM ?_)))
   refine Tr.rem_u8 J J J J 2 J dE (Tr.eqi J J J J J (Tr.nil (at_n (Sat.condP J (fun hc1 => ?_) (fun hc1 => ?_)))))
   ·
    have hbt := bit_is hc1
    refine Sat.region (Tr.loadAll J J J Y177 J Sz177 Z0 (by (simp [wdsV_length, mulT_length]; done)) ?_)
    refine Tr.loadAll J J J Y177 J Sz177 Z3 (by (simp [wdsV_length, hxl]; done)) ?_
    refine Tr.callV J J J J Body197 (r3_Times _ _ (mulT_fit hfit hfit) hx) (fun _ _ => trivial) (Tr.storeAll J J J J (by exact wdsV_cell _) Sz177 (by (simp [wdsV_length, mulT_length]; done)) Z0 (by (simp [wdsV_length, mulT_length]; done)) zU ?_)
    refine Tr.nil (bl_n (at_n (Sat.region (Tr.move J J J (Tr.sub_i64 J J J J oM (Tr.assign J J J (Tr.nil (at_n ?_))))))))
    exact ⟨j + 1, by omega, by omega, weak_of (wk1 rfl (wk1 rfl (wk1 rfl (wk1 rfl (wk1 (congrArg (fun z => some (i64 z)) (show ((255 - j : Nat) : Int) - 1 = 255 - ((j + 1 : Nat) : Int) by omega)) wk0))))) (wh1 (by (rw [powT_t hbt]; exact mem0)) (wh1 Z1 (wh1 Z2 (wh1 Z3 wh0)))) nD⟩
   ·
    have hbf := bit_isn hc1
    refine Sat.skip (bl_n (at_n (Sat.region (Tr.move J J J (Tr.sub_i64 J J J J oM (Tr.assign J J J (Tr.nil (at_n ?_))))))))
    exact ⟨j + 1, by omega, by omega, weak_of (wk1 rfl (wk1 rfl (wk1 rfl (wk1 rfl (wk1 (congrArg (fun z => some (i64 z)) (show ((255 - j : Nat) : Int) - 1 = 255 - ((j + 1 : Nat) : Int) by omega)) wk0))))) (wh1 (by (rw [powT_f hbf]; exact mem0)) (wh1 Z1 (wh1 Z2 (wh1 Z3 wh0)))) nD⟩
  ·
   rw [show powT x (le e) j = U from by rw [show j = 256 by omega]; exact hU.out]
   refine Sat.exit (at_x (at_x (bl_h (at_n (Sat.seq (Sat.region (Tr.loadAll J J J Y177 J Sz177 Z0 (by (simp [wdsV_length, hUl]; done)) ?_)))))))
   refine Tr.storeAll J J J J (by exact wdsV_cell _) Sz177 (by (simp [wdsV_length, hUl]; done)) Z1 sP zV ?_
   refine Tr.nil (at_n (Sat.ret (en_r ?_)))
   refine ⟨_, [], res_cell J J Y177 J Sz177 Z1 (by simp [wdsV_length, hUl]), sP, sP, ?_, rfl⟩
   rfl

theorem pow_ab {a e : List UInt8} (ha : a.length = 32) (he : e.length = 32) : fe (v10 (powT (openT (le a)) (le e) 256)) = fpow (fe (le a)) (le e) := by rw [powT_all (o_fit ha) (le32 he), o_v ha]

theorem r3_Pow (a e : List UInt8) (ha : a.length = 32) (he : e.length = 32) : Meets Tryz.prog 198 [agg (bytesV a), agg (bytesV e)] [] (fun _ => True) (fun v out => v = agg (bytesV (fb (fpow (fe (le a)) (le e)))) ∧ out = []) := by
 intro W hW
 refine calls_of (hp0 := []) Tryz.func198 J 10 Tryz.ntmps198 J (HRep.nil _) (Sat.seq (Sat.region (Tr.boxA J J ?_)))
 intro n2 hn2 hf2
 refine Tr.boxA J J ?_
 intro n3 hn3 hf3
 refine Tr.alloc (cs := (bytesV (List.replicate 32 0))) J Zr77 J ?_
 intro n4 hn4 hf4
 refine Tr.nil (at_n (Sat.seq (Sat.draw [(1, 0), (1, 2), (3, 1), (3, 3), (3, 4), (4, 5)] Mixed zK (Tr.loadAll J J J Y77 J Sz77 Z2 (by (simp [ha]; done)) ?_))))
 refine Tr.loadAll J J J Y77 J Sz77 Z1 (by (simp [he]; done)) ?_
 refine Tr.callV J J J J Body188 (r3_Open (a) (ha)) (fun _ _ => trivial) (Tr.callV J J J J Body233 (r3_Power (_) (e) (o_fit ha) (he)) (fun _ _ => trivial) (Tr.callV J J J J Body196 (r3_Close_v (_) ((powT_ok (o_fit ha) (le32 he) 256 (Nat.le_refl _)).1) (_) (pow_ab ha he)) (fun _ _ => trivial) (Tr.storeAll J J J J zE Sz77 zF Z0 sP zU ?_)))
 refine Tr.nil (at_n (Sat.ret (en_r ?_)))
 refine ⟨_, [], res_cell J J Y77 J Sz77 Z0 (by simp [fb_length]), sP, sP, ?_, rfl⟩
 rfl

theorem half_rem {p : UInt8} : ((UInt8.ofNat (p.toNat % 2)).toNat : Int) = 1 ↔ p.toNat % 2 = 1 := by
  rw [UInt8.toNat_ofNat']
  omega
theorem ones_three (n : Nat) : ((List.replicate 32 (255 : UInt8)).set 0 (UInt8.ofNat (237 - n))).set 31 127 = leb 32 (le (onesB (UInt8.ofNat (237 - n)) 127) / 2 ^ 0) := by
  rw [Nat.pow_zero, Nat.div_one, ones_leb]; rfl
theorem half_pow (V j : Nat) : leb 32 (V / 2 ^ (j + 1)) = halfAt (V / 2 ^ j) 32 := by
  rw [halfAt_end, Nat.div_div_eq_div_mul, ← Nat.pow_succ]

theorem r3_shifted (n k : Nat) (hn : n ≤ 237) (hk : k ≤ 9) : Meets Tryz.prog 199 [i64 (n : Int), i64 (k : Int)] [] (fun _ => True) (fun v out => v = agg (bytesV (expT n k)) ∧ out = []) := by
 intro W hW
 obtain ⟨V, hV⟩ : ∃ V, Hid (le (onesB (UInt8.ofNat (237 - n)) 127) = V) := ⟨_, ⟨rfl⟩⟩
 have hV2 : V < 2 ^ 256 := by rw [← hV.out]; exact le32 (onesB_length _ _)
 have hx : expT n k = leb 32 (V / 2 ^ k) := by rw [expT, hV.out]
 rw [hx]
 have hon := ones_three n
 rw [hV.out] at hon
 have hhl : True := trivial
 have hsl : True := trivial
 refine calls_of (hp0 := []) Tryz.func199 J 50 Tryz.ntmps199 J (HRep.nil _) (Sat.seq (Sat.region (Tr.alloc (cs := (bytesV (List.replicate 32 0))) J Zr77 J ?_)))
 intro n4 hn4 hf4
 refine Tr.nil (at_n (Sat.seq (Sat.region (Tr.alloc (cs := (bytesV (List.replicate 32 0))) J Zr77 J ?_))))
 intro n5 hn5 hf5
 refine Tr.nil (at_n (Sat.seq (Sat.seq (Sat.region (Tr.assign J J J (Tr.nil (at_n (Sat.block (Sat.loop (ι := Nat) (fun i => ⟨[(0, i64 (n : Int)), (1, i64 (k : Int)), (4, ptr n4 0), (5, ptr n5 0), (6, i64 (i : Int))], [⟨n5, bytesV (List.replicate i 255 ++ List.replicate (32 - i) 0), 77, 32⟩, ⟨n4, bytesV (List.replicate 32 0), 77, 32⟩]⟩) (fun i => i ≤ 32) (fun i => 32 - i) (0) ?_ ?_ ?_)))))))))
 · omega
 · exact weak_of (wk1 rfl (wk1 rfl (wk1 rfl (wk1 rfl (wk1 rfl wk0))))) (wh1 Z0 (wh1 Z1 wh0)) nD
 ·
  rintro i hi
  refine Sat.seq (Sat.seq (Sat.region (Tr.move J J J (Tr.lss J J J J J (Tr.nil (at_n (Sat.condP J (fun hc0 => ?_) (fun hc0 => ?_))))))))
  ·
   have hi2 : i < 32 := by omega
   refine Sat.skip (at_n (Sat.seq (Sat.block (Sat.region (Tr.move J J J (Tr.idxArr1 J J J J Y77 Sz5 _ J oM (Tr.store1 J J J (show evIn _ _ = some (u8 255) from rfl) J Sz5 Z0 (by (simp; omega)) (by exact set_bytes _ _ _) zU ?_)))))))
   refine Tr.nil (bl_n (at_n (Sat.region (Tr.move J J J (Tr.add_i64 J J J J oM (Tr.assign J J J (Tr.nil (at_n ?_))))))))
   exact ⟨i + 1, by omega, by omega, weak_of (wk1 rfl (wk1 rfl (wk1 rfl (wk1 rfl (wk1 rfl wk0))))) (wh1 (by rw [← ones_step hi2]; exact mem0) (wh1 Z1 wh0)) nD⟩
  ·
   obtain rfl : i = 32 := by omega
   rw [show ((List.replicate 32 255 ++ List.replicate (32 - 32) 0) : List UInt8) = List.replicate 32 255 from rfl]
   refine Sat.exit (at_x (at_x (bl_h (at_n (Sat.seq (Sat.region (Tr.move J J J (Tr.subN (237) (n) J J J J oM (Tr.conv J J J Y3 Y5 (cv_i64_u8 _) (Tr.idxArr1 J J J J Y77 Sz5 0 J dE ?_))))))))))
   rw [byteOf_nat]
   refine Tr.store1 J J J J J Sz5 Z0 sP (by exact set_bytes _ _ _) zU ?_
   refine Tr.idxArr1 J J J J Y77 Sz5 31 J dE (Tr.store1 J J J (show evIn _ _ = some (u8 127) from rfl) J Sz5 Z0 sP (by exact set_bytes _ _ _) zU ?_)
   refine Tr.nil (at_n (Sat.seq (Sat.block (Sat.loop (ι := Nat) (fun j => ⟨[(1, i64 ((k : Int) - (j : Int))), (4, ptr n4 0), (5, ptr n5 0)], [⟨n5, bytesV (leb 32 (V / 2 ^ j)), 77, 32⟩, ⟨n4, bytesV (List.replicate 32 0), 77, 32⟩]⟩) (fun j => j ≤ k) (fun j => k - j) (0) ?_ ?_ ?_))))
   · exact Nat.zero_le _
   · exact weak_of (wk1 (congrArg (fun z => some (i64 z)) (show (k : Int) = (k : Int) - ((0 : Nat) : Int) by omega)) (wk1 rfl (wk1 rfl wk0))) (wh1 (by rw [← hon]; exact mem0) (wh1 Z1 wh0)) nD
   ·
    rintro j hj
    refine Sat.seq (Sat.seq (Sat.region (Tr.move J J J (Tr.gtr J J J J J (Tr.nil (at_n (Sat.condP J (fun hc1 => ?_) (fun hc1 => ?_))))))))
    ·
     have hVj : V / 2 ^ j < 2 ^ 256 := Nat.lt_of_le_of_lt (Nat.div_le_self _ _) hV2
     refine Sat.skip (at_n (Sat.seq (Sat.block (Sat.seq (Sat.region (Tr.assign J J J (Tr.nil (at_n (Sat.block (Sat.loop (ι := Nat) (fun i => ⟨[(1, i64 ((k : Int) - (j : Int))), (4, ptr n4 0), (5, ptr n5 0), (7, i64 (i : Int))], [⟨n5, bytesV (halfAt (V / 2 ^ j) i), 77, 32⟩, ⟨n4, bytesV (List.replicate 32 0), 77, 32⟩]⟩) (fun i => i ≤ 32) (fun i => 32 - i) (0) ?_ ?_ ?_))))))))))
     · omega
     · exact weak_of (wk1 rfl (wk1 rfl (wk1 rfl (wk1 rfl wk0)))) (wh1 (by rw [halfAt_zero]; exact mem0) (wh1 Z1 wh0)) nD
     ·
      rintro i hi
      have hhl := halfAt_length (V / 2 ^ j) i hi
      have hsl : ((halfAt (V / 2 ^ j) i).set i (UInt8.ofNat (((halfAt (V / 2 ^ j) i).getD i 0).toNat / 2))).length = 32 := by rw [List.length_set]; exact hhl
      refine Sat.seq (Sat.seq (Sat.region (Tr.move J J J (Tr.lss J J J J J (Tr.nil (at_n (Sat.condP J (fun hc2 => ?_) (fun hc2 => ?_))))))))
      ·
       have hi2 : i < 32 := by omega
       refine Sat.skip (at_n (Sat.seq (Sat.block (Sat.seq (Sat.region (Tr.move J J J (Tr.move J J J (Tr.idxArr1 J J J J Y77 Sz5 _ J oM (Tr.load1 J J J Y5 J Z0 zG ?_)))))))))
       refine Tr.quo_u8 J J J J 2 J dE (Tr.idxArr1 J J J J Y77 Sz5 _ J oM (Tr.store1 J J J J J Sz5 Z0 (by (simp [hhl]; omega)) (by exact set_bytes _ _ _) zU ?_))
       refine Tr.nil (at_n (Sat.seq (Sat.region (Tr.move J J J (two (fun r hr k => Tr.lss J J J J hr k) (fun hs13_10 => ?_) (fun hs13_10 => ?_))))))
       ·
        have hs13_1 := of_decide_eq_true hs13_10
        refine Tr.move J J J (Tr.move J J J (Tr.addN (i) (1) J J J J oM (Tr.idxArr1 J J J J Y77 Sz5 _ J oM (Tr.load1 J J J Y5 J Z0 zG ?_))))
        refine Tr.rem_u8 J J J J 2 J dE (two (fun r hr k => Tr.eqi J J J J hr k) (fun hs13_80 => ?_) (fun hs13_80 => ?_))
        ·
         have hs13_8 := of_decide_eq_true hs13_80
         refine Tr.pick J J J J J J (Tr.nil (at_n (Sat.cond_t J J (Sat.region (Tr.move J J J (Tr.move J J J (Tr.idxArr1 J J J J Y77 Sz5 _ J oM (Tr.load1 J J J Y5 J Z0 zG ?_))))))))
         refine Tr.add_u8 J J J (show evIn _ _ = some (u8 128) from rfl) (Tr.idxArr1 J J J J Y77 Sz5 _ J oM (Tr.store1 J J J J J Sz5 Z0 (by (simp [hhl]; omega)) (by exact set_bytes _ _ _) zU ?_))
         refine Tr.nil (bl_n (at_n (Sat.region (Tr.move J J J (Tr.add_i64 J J J J oM (Tr.assign J J J (Tr.nil (at_n ?_))))))))
         exact ⟨i + 1, by omega, by omega, weak_of (wk1 rfl (wk1 rfl (wk1 rfl (wk1 rfl wk0)))) (wh1 (by (rw [← half_odd (V / 2 ^ j) oM (half_rem.1 hs13_8)]; exact mem0)) (wh1 Z1 wh0)) nD⟩
        ·
         have hs13_8 := of_decide_eq_false hs13_80
         refine Tr.pick J J J J J J (Tr.nil (at_n (Sat.cond_f J J (Sat.skip (bl_n (at_n (Sat.region (Tr.move J J J (Tr.add_i64 J J J J oM (Tr.assign J J J (Tr.nil (at_n ?_))))))))))))
         exact ⟨i + 1, by omega, by omega, weak_of (wk1 rfl (wk1 rfl (wk1 rfl (wk1 rfl wk0)))) (wh1 (by (rw [← half_even (V / 2 ^ j) oM (fun e => hs13_8 (half_rem.2 e))]; exact mem0)) (wh1 Z1 wh0)) nD⟩
       ·
        have hs13_1 := of_decide_eq_false hs13_10
        refine Tr.move J J J (Tr.skp J J (Tr.skp J J (Tr.skp J J (Tr.skp J J (Tr.skp J J (Tr.skp J J (Tr.pick J J J J J J (Tr.nil (at_n (Sat.cond_f J J (Sat.skip (bl_n (at_n (Sat.region (Tr.move J J J (Tr.add_i64 J J J J oM (Tr.assign J J J (Tr.nil (at_n ?_)))))))))))))))))))
        exact ⟨i + 1, by omega, by omega, weak_of (wk1 rfl (wk1 rfl (wk1 rfl (wk1 rfl wk0)))) (wh1 (by (rw [show i = 31 by omega, ← half_last _ hVj]; exact mem0)) (wh1 Z1 wh0)) nD⟩
      ·
       refine Sat.exit (at_x (at_x (bl_h (bl_n (at_n (Sat.region (Tr.move J J J (Tr.sub_i64 J J J J oM (Tr.assign J J J (Tr.nil (at_n ?_)))))))))))
       exact ⟨j + 1, by omega, by omega, weak_of (wk1 (congrArg (fun z => some (i64 z)) (show (k : Int) - (j : Int) - 1 = (k : Int) - ((j + 1 : Nat) : Int) by omega)) (wk1 rfl (wk1 rfl wk0))) (wh1 (by rw [half_pow, show (32 : Nat) = i by omega]; exact mem0) (wh1 Z1 wh0)) nD⟩
    ·
     obtain rfl : j = k := by omega
     refine Sat.exit (at_x (at_x (bl_h (at_n (Sat.seq (Sat.region (Tr.loadAll J J J Y77 J Sz77 Z0 (by (simp [leb_length]; done)) ?_)))))))
     refine Tr.storeAll J J J J zE Sz77 (by (simp [leb_length]; done)) Z1 sP zV ?_
     refine Tr.nil (at_n (Sat.ret (en_r ?_)))
     refine ⟨_, [], res_cell J J Y77 J Sz77 Z1 (by simp [leb_length]), sP, sP, ?_, rfl⟩
     rfl

theorem r3_Pow_e (a e : List UInt8) (ha : a.length = 32) (he : e.length = 32) (N : Nat) (X : Fp) (hN : le e = N) (hX : fe (le a) = X) : Meets Tryz.prog 198 [agg (bytesV a), agg (bytesV e)] [] (fun _ => True) (fun v out => v = agg (bytesV (fb (fpow X N))) ∧ out = []) := by
  rw [← hN, ← hX]; exact r3_Pow a e ha he

theorem r3_Inv (a : List UInt8) (ha : a.length = 32) : Meets Tryz.prog 124 [agg (bytesV a)] [] (fun _ => True) (fun v out => v = agg (bytesV (fb (finv (fe (le a))))) ∧ out = []) := by
 intro W hW
 obtain ⟨E, hE⟩ : ∃ E, Hid (expT 2 0 = E) := ⟨_, ⟨rfl⟩⟩
 have hEl : E.length = 32 := by rw [← hE.out]; exact expT_length _ _
 have hs := r3_shifted 2 0 dE dE
 rw [hE.out] at hs
 have hp := r3_Pow_e a E ha hEl (PF - 2) _ (by rw [← hE.out]; exact expT_inv) rfl
 rw [show fpow (fe (le a)) (PF - 2) = finv (fe (le a)) from rfl] at hp
 obtain ⟨R, hR⟩ : ∃ R, Hid (finv (fe (le a)) = R) := ⟨_, ⟨rfl⟩⟩
 rw [hR.out] at hp ⊢
 refine calls_of (hp0 := []) Tryz.func124 J 6 Tryz.ntmps124 J (HRep.nil _) (Sat.seq (Sat.region (Tr.boxA J J ?_)))
 intro n1 hn1 hf1
 refine Tr.alloc (cs := (bytesV (List.replicate 32 0))) J Zr77 J ?_
 intro n2 hn2 hf2
 refine Tr.nil (at_n (Sat.seq (Sat.draw [(1, 0), (3, 1), (3, 2), (4, 3)] Mixed zK (Tr.loadAll J J J Y77 J Sz77 Z1 (by (simp [ha]; done)) ?_))))
 refine Tr.callV J J J J Body199 (hs) (fun _ _ => trivial) (Tr.callV J J J J Body198 (hp) (fun _ _ => trivial) (Tr.storeAll J J J J zE Sz77 zF Z0 sP zU ?_))
 refine Tr.nil (at_n (Sat.ret (en_r ?_)))
 refine ⟨_, [], res_cell J J Y77 J Sz77 Z0 (by simp [fb_length]), sP, sP, ?_, rfl⟩
 rfl

end Go.Proofs.YtpacobmjjjillaaGreat
end

section
namespace Go.Proofs.YtpacobmjjjillaaGreat
open Go Hw
set_option linter.unusedSimpArgs false
set_option linter.unusedVariables false
set_option maxRecDepth 100000
structure far where
  fX : List Nat
  fY : List Nat
  fZ : List Nat
def far.cells (x : far) : List Value := wdsV x.fX ++ (wdsV x.fY ++ (wdsV x.fZ))
structure far.ok (x : far) : Prop where
  l_fX : x.fX.length = 10
  l_fY : x.fY.length = 10
  l_fZ : x.fZ.length = 10
theorem far.length {x : far} (h : x.ok) : x.cells.length = 30 := by simp [far.cells, bytesV, wdsV, intsV, h.l_fX, h.l_fY, h.l_fZ]
theorem far.isCell {x : far} (h : x.ok) : ∀ u ∈ x.cells, isCell u = true := by
  intro u hu
  simp only [far.cells, List.mem_append, List.mem_singleton, bytesV, wdsV, intsV, List.mem_map] at hu
  rcases hu with ⟨_, _, rfl⟩ | ⟨_, _, rfl⟩ | ⟨_, _, rfl⟩ <;> rfl
theorem far.row_fX {x : far} (h : x.ok) : (x.cells.drop 0).take 10 = wdsV x.fX := by simp [far.cells, bytesV, wdsV, intsV, h.l_fX, h.l_fY, h.l_fZ, List.drop_append, List.take_append, List.drop_of_length_le, List.take_of_length_le]
theorem far.rl_fX {x : far} (h : x.ok) : (wdsV x.fX).length = 10 := by simp [bytesV, wdsV, intsV, h.l_fX]
theorem far.upd_fX {x : far} (h : x.ok) (l : List Nat) (hl : l.length = 10) : upd x.cells 0 (wdsV l) = ({ x with fX := l }).cells := by
  simp [upd, far.cells, bytesV, wdsV, intsV, h.l_fX, h.l_fY, h.l_fZ, hl, List.drop_append, List.take_append, List.drop_of_length_le, List.take_of_length_le]
theorem far.see_fX {x : far} (h : x.ok) : ∀ (j : Nat) (v : Value), (wdsV x.fX)[j]? = some v → x.cells[0 + j]? = some v := fun j v hj => by
  rw [← far.row_fX h, List.getElem?_take] at hj
  split at hj
  · rwa [List.getElem?_drop] at hj
  · cases hj
theorem far.row_fY {x : far} (h : x.ok) : (x.cells.drop 10).take 10 = wdsV x.fY := by simp [far.cells, bytesV, wdsV, intsV, h.l_fX, h.l_fY, h.l_fZ, List.drop_append, List.take_append, List.drop_of_length_le, List.take_of_length_le]
theorem far.rl_fY {x : far} (h : x.ok) : (wdsV x.fY).length = 10 := by simp [bytesV, wdsV, intsV, h.l_fY]
theorem far.upd_fY {x : far} (h : x.ok) (l : List Nat) (hl : l.length = 10) : upd x.cells 10 (wdsV l) = ({ x with fY := l }).cells := by
  simp [upd, far.cells, bytesV, wdsV, intsV, h.l_fX, h.l_fY, h.l_fZ, hl, List.drop_append, List.take_append, List.drop_of_length_le, List.take_of_length_le]
theorem far.see_fY {x : far} (h : x.ok) : ∀ (j : Nat) (v : Value), (wdsV x.fY)[j]? = some v → x.cells[10 + j]? = some v := fun j v hj => by
  rw [← far.row_fY h, List.getElem?_take] at hj
  split at hj
  · rwa [List.getElem?_drop] at hj
  · cases hj
theorem far.row_fZ {x : far} (h : x.ok) : (x.cells.drop 20).take 10 = wdsV x.fZ := by simp [far.cells, bytesV, wdsV, intsV, h.l_fX, h.l_fY, h.l_fZ, List.drop_append, List.take_append, List.drop_of_length_le, List.take_of_length_le]
theorem far.rl_fZ {x : far} (h : x.ok) : (wdsV x.fZ).length = 10 := by simp [bytesV, wdsV, intsV, h.l_fZ]
theorem far.upd_fZ {x : far} (h : x.ok) (l : List Nat) (hl : l.length = 10) : upd x.cells 20 (wdsV l) = ({ x with fZ := l }).cells := by
  simp [upd, far.cells, bytesV, wdsV, intsV, h.l_fX, h.l_fY, h.l_fZ, hl, List.drop_append, List.take_append, List.drop_of_length_le, List.take_of_length_le]
theorem far.see_fZ {x : far} (h : x.ok) : ∀ (j : Nat) (v : Value), (wdsV x.fZ)[j]? = some v → x.cells[20 + j]? = some v := fun j v hj => by
  rw [← far.row_fZ h, List.getElem?_take] at hj
  split at hj
  · rwa [List.getElem?_drop] at hj
  · cases hj
def far.zero : far := ⟨List.replicate 10 0, List.replicate 10 0, List.replicate 10 0⟩
theorem far.zero_ok : far.zero.ok := by constructor <;> simp [far.zero]
theorem far.zr : Zr Tryz.prog 180 (agg far.zero.cells) := by unfold Zr; kernel_rfl
structure Rdr where
  fB : Sl
  fE : Int
def Rdr.cells (x : Rdr) : List Value := [x.fB.v] ++ ([i64 x.fE])
structure Rdr.ok (x : Rdr) : Prop where
  t : True
theorem Rdr.length {x : Rdr} (h : x.ok) : x.cells.length = 2 := by simp [Rdr.cells, bytesV]
theorem Rdr.isCell {x : Rdr} (h : x.ok) : ∀ u ∈ x.cells, isCell u = true := by
  intro u hu
  simp only [Rdr.cells, List.mem_append, List.mem_singleton, bytesV, List.mem_map] at hu
  rcases hu with rfl | rfl <;> first | rfl
theorem Rdr.get_fB {x : Rdr} (h : x.ok) : x.cells[0]? = some (x.fB.v) := by simp [Rdr.cells, bytesV, List.getElem?_append]
theorem Rdr.set_fB {x : Rdr} (h : x.ok) (v : Sl) : x.cells.set 0 (v.v) = ({ x with fB := v }).cells := by simp [Rdr.cells, bytesV, List.set_append]
theorem Rdr.setS_fB {x : Rdr} (h : x.ok) (p : Option Addr) (n c : Nat) : x.cells.set 0 (.slice p n c) = ({ x with fB := ⟨p, n, c⟩ }).cells := Rdr.set_fB h ⟨p, n, c⟩
theorem Rdr.get_fE {x : Rdr} (h : x.ok) : x.cells[1]? = some (i64 x.fE) := by simp [Rdr.cells, bytesV, List.getElem?_append]
theorem Rdr.set_fE {x : Rdr} (h : x.ok) (v : Int) : x.cells.set 1 (i64 v) = ({ x with fE := v }).cells := by simp [Rdr.cells, bytesV, List.set_append]
def Rdr.zero : Rdr := ⟨Sl.nil, 0⟩
theorem Rdr.zero_ok : Rdr.zero.ok := by constructor <;> first | exact trivial | simp [Rdr.zero]
theorem Rdr.zr : Zr Tryz.prog 108 (agg Rdr.zero.cells) := by unfold Zr; kernel_rfl
end Go.Proofs.YtpacobmjjjillaaGreat
end

section
namespace Go.Proofs.YtpacobmjjjillaaGreat
open Go Hw
set_option linter.unusedVariables false
set_option linter.unusedSimpArgs false

theorem ref_L  : Meets Tryz.prog 187 [] [] (fun _ => True) (fun v out => v = agg (bytesV (leb 32 L)) ∧ out = []) := by
 intro W hW
 refine calls_of (hp0 := []) Tryz.func187 J 2 Tryz.ntmps187 J (HRep.nil _) (Sat.seq (Sat.region (Tr.alloc (cs := (bytesV (List.replicate 32 0))) J Zr77 J ?_)))
 intro n0 hn0 hf0
 refine Tr.nil (at_n (Sat.seq (Sat.region (Tr.build (cs := bytesV (leb 32 L)) J J J (fun w => by kernel_rfl) ?_))))
 refine Tr.storeAll J J J J zB Sz77 (by (simp [leb_length]; done)) Z0 sP zU ?_
 refine Tr.nil (at_n (Sat.ret (en_r ?_)))
 refine ⟨_, [], res_cell J J Y77 J Sz77 Z0 (by simp [leb_length]), sP, sP, ?_, rfl⟩
 rfl

theorem ref_below (a b : List UInt8) (ha : a.length = 32) (hb : b.length = 32) : Meets Tryz.prog 186 [agg (bytesV a), agg (bytesV b)] [] (fun _ => True) (fun v out => v = .bool (decide (le a < le b)) ∧ out = []) := by
  intro W hW
  refine calls_of (hp0 := []) Tryz.func186 J 24 Tryz.ntmps186 J (HRep.nil _) (Sat.seq (Sat.region (Tr.boxA J J ?_)))
  intro n2 hn2 hf2
  refine Tr.boxA J J ?_
  intro n3 hn3 hf3
  refine Tr.assign J J J (Tr.nil (at_n (Sat.seq (Sat.seq (Sat.region (Tr.assign J J J (Tr.nil (at_n (Sat.block (Sat.loop (ι := Nat) (fun k => ⟨[(2, ptr n2 0), (3, ptr n3 0), (5, i64 (31 - (k : Int)))], [⟨n3, bytesV b, 77, (bytesV b).length⟩, ⟨n2, bytesV a, 77, (bytesV a).length⟩]⟩) (fun k => k ≤ 32 ∧ a.drop (32 - k) = b.drop (32 - k)) (fun k => 32 - k) (0) ?_ ?_ ?_))))))))))
  · exact ⟨by omega, by rw [List.drop_of_length_le oM, List.drop_of_length_le oM]⟩
  · exact weak_of (wk1 rfl (wk1 rfl (wk1 rfl wk0))) (wh1 Z0 (wh1 Z1 wh0)) nD
  ·
    rintro k ⟨hk, hd⟩
    refine Sat.seq (Sat.seq (Sat.region (Tr.move J J J (Tr.geq J J J J J (Tr.nil (at_n (Sat.condP J (fun hc0 => ?_) (fun hc0 => ?_))))))))
    ·
      have hk2 : k < 32 := by omega
      refine Sat.skip (at_n (Sat.seq (Sat.block (Sat.seq (Sat.draw [(0, 0), (0, 1), (1, 2), (0, 3), (0, 4), (1, 5), (0, 6)] Mixed zK (Tr.move J J J (Tr.idxArr1 J J J J Y77 Sz5 (31 - k) oM oM (Tr.load1 J J J Y5 J Z1 zG ?_))))))))
      refine Tr.move J J J (Tr.idxArr1 J J J J Y77 Sz5 (31 - k) oM oM (Tr.load1 J J J Y5 J Z0 zG ?_))
      refine Tr.nei J J J J J (Tr.nil (at_n (Sat.condNP J (fun hc1 => ?_) (fun hc1 => ?_))))
      ·
        have hlt := le_lt_at ha hb (i := 31 - k) oM (by rw [show 31 - k + 1 = 32 - k by omega]; exact hd) oM
        refine Sat.seq (Sat.draw [(0, 0), (0, 1), (1, 2), (0, 3), (0, 4), (1, 5), (0, 6), (0, 7)] Mixed zK (Tr.move J J J (Tr.idxArr1 J J J J Y77 Sz5 (31 - k) oM oM (Tr.load1 J J J Y5 J Z1 zG ?_))))
        refine Tr.move J J J (Tr.idxArr1 J J J J Y77 Sz5 (31 - k) oM oM (Tr.load1 J J J Y5 J Z0 zG ?_))
        refine Tr.lss J J J J J (Tr.assign J J J (Tr.nil (at_n (Sat.ret (bl_r (at_r (at_r (bl_r (at_r (en_r ?_))))))))))
        refine ⟨_, [], res_tmp J J, sP, sP, ?_, rfl⟩
        first
          | (rw [show decide (le a < le b) = decide (((a.getD (31 - k) 0).toNat : Int) < ((b.getD (31 - k) 0).toNat : Int)) from decide_eq_decide.2 (hlt.symm.trans oM)])
          | (have he : a = b := by simpa using hd
             rw [he, decide_eq_false (Nat.lt_irrefl _)])
      ·
        refine Sat.skip (bl_n (at_n (Sat.region (Tr.move J J J (Tr.sub_i64 J J J J oM (Tr.assign J J J (Tr.nil (at_n ?_))))))))
        exact ⟨k + 1, ⟨by omega, drop_step ha hb oM (by rw [show 32 - (k + 1) + 1 = 32 - k by omega]; exact hd) (by rw [show 32 - (k + 1) = 31 - k by omega]; omega)⟩, by omega, weak_of (wk1 rfl (wk1 rfl (wk1 (by rw [show (31 - ((k + 1 : Nat) : Int)) = 31 - (k : Int) - 1 by omega]; rfl) wk0))) (wh1 Z0 (wh1 Z1 wh0)) nD⟩
    ·
      obtain rfl : k = 32 := by omega
      refine Sat.exit (at_x (at_x (bl_h (at_n (Sat.seq (Sat.region (Tr.assign J J J (Tr.nil (at_n (Sat.ret (en_r ?_)))))))))))
      refine ⟨_, [], res_tmp J J, sP, sP, ?_, rfl⟩
      first
        | (rw [show decide (le a < le b) = decide (((a.getD (31 - k) 0).toNat : Int) < ((b.getD (31 - k) 0).toNat : Int)) from decide_eq_decide.2 (hlt.symm.trans oM)])
        | (have he : a = b := by simpa using hd
           rw [he, decide_eq_false (Nat.lt_irrefl _)])

theorem ref_plus (a b : List UInt8) (ha : a.length = 32) (hb : b.length = 32) (hla : le a < L) (hlb : le b < L) : Meets Tryz.prog 210 [agg (bytesV a), agg (bytesV b)] [] (fun _ => True) (fun v out => v = agg (bytesV (leb 32 ((le a + le b) % L))) ∧ out = []) := by
 intro W hW
 have hL : L < 2 ^ 253 := by decide
 refine calls_of (hp0 := []) Tryz.func210 J 61 Tryz.ntmps210 J (HRep.nil _) (Sat.seq (Sat.region (Tr.boxA J J ?_)))
 intro n2 hn2 hf2
 refine Tr.boxA J J ?_
 intro n3 hn3 hf3
 refine Tr.alloc (cs := (bytesV (List.replicate 32 0))) J Zr77 J ?_
 intro n4 hn4 hf4
 refine Tr.nil (at_n (Sat.seq (Sat.region (Tr.alloc (cs := (bytesV (List.replicate 32 0))) J Zr77 J ?_))))
 intro n5 hn5 hf5
 refine Tr.nil (at_n (Sat.seq (Sat.region (Tr.assign J J J (Tr.nil (at_n (Sat.join (ι := Unit) (fun _u => ⟨[(4, ptr n4 0), (5, ptr n5 0)], [⟨n5, bytesV (leb 32 (le a + le b)), 77, 32⟩, ⟨n4, bytesV (List.replicate 32 0), 77, 32⟩]⟩) (fun _u => True) ?_ ?_)))))))
 ·
  refine Sat.seq (Sat.region (Tr.assign J J J (Tr.nil (at_n (Sat.block (Sat.loop (ι := Nat) (fun k => ⟨[(2, ptr n2 0), (3, ptr n3 0), (4, ptr n4 0), (5, ptr n5 0), (6, i64 (((le (a.take k) + le (b.take k)) / 256 ^ k : Nat) : Int)), (7, i64 (k : Int))], [⟨n5, bytesV (padW 32 (le (a.take k) + le (b.take k)) k), 77, 32⟩, ⟨n4, bytesV (List.replicate 32 0), 77, 32⟩, ⟨n3, bytesV b, 77, (bytesV b).length⟩, ⟨n2, bytesV a, 77, (bytesV a).length⟩]⟩) (fun k => k ≤ 32) (fun k => 32 - k) (0) ?_ ?_ ?_))))))
  · omega
  · exact weak_of (wk1 rfl (wk1 rfl (wk1 rfl (wk1 rfl (wk1 (by rw [List.take_zero, List.take_zero]; rfl) (wk1 rfl wk0)))))) (wh1 (by rw [padW_zero]; exact mem0) (wh1 Z1 (wh1 Z2 (wh1 Z3 wh0)))) nD
  ·
   rintro k hk
   have hpl := padW_length 32 (le (a.take k) + le (b.take k)) k hk
   have hcb : (le (a.take k) + le (b.take k)) / 256 ^ k ≤ 1 := by
    have h1 := le_take_lt a k
    have h2 := le_take_lt b k
    rw [← Nat.lt_succ_iff, Nat.div_lt_iff_lt_mul (Nat.pow_pos dE)]
    omega
   have hcn : (0 : Int) ≤ (((le (a.take k) + le (b.take k)) / 256 ^ k : Nat) : Int) := Int.natCast_nonneg _
   have hcb2 : (((le (a.take k) + le (b.take k)) / 256 ^ k : Nat) : Int) ≤ 1 := Int.ofNat_le.2 hcb
   refine Sat.seq (Sat.seq (Sat.region (Tr.move J J J (Tr.lss J J J J J (Tr.nil (at_n (Sat.condP J (fun hc0 => ?_) (fun hc0 => ?_))))))))
   ·
    have hk2 : k < 32 := by omega
    have ha8 := (a.getD k 0).toNat_lt
    have hb8 := (b.getD k 0).toNat_lt
    have hs : (((le (a.take k) + le (b.take k)) / 256 ^ k : Nat) : Int) + ((a.getD k 0).toNat : Int) + ((b.getD k 0).toNat : Int) = (((le (a.take k) + le (b.take k)) / 256 ^ k + ((a.getD k 0).toNat + (b.getD k 0).toNat) : Nat) : Int) := by rw [Int.natCast_add, Int.natCast_add, Int.add_assoc]
    refine Sat.skip (at_n (Sat.seq (Sat.block (Sat.seq (Sat.draw [(0, 0), (0, 1), (0, 2), (1, 3), (0, 4), (0, 5), (0, 6), (0, 7), (1, 8), (0, 9), (0, 10), (0, 11)] Mixed zK (Tr.move J J J (Tr.move J J J (Tr.idxArr1 J J J J Y77 Sz5 _ J oM (Tr.load1 J J J Y5 J Z3 zG ?_)))))))))
    refine Tr.conv J J J Y5 Y3 (cv_u8_i64 _) (Tr.add_i64 J J J J oM (Tr.move J J J (Tr.idxArr1 J J J J Y77 Sz5 _ J oM (Tr.load1 J J J Y5 J Z2 zG ?_))))
    refine Tr.conv J J J Y5 Y3 (cv_u8_i64 _) (Tr.add_i64 J J J J oM (Tr.assign J J J (Tr.nil (at_n (Sat.seq (Sat.region (Tr.move J J J (Tr.move J J J (Tr.rem_i64 J J J J oM (Tr.conv J J J Y3 Y5 (cv_i64_u8 _) (Tr.idxArr1 J J J J Y77 Sz5 _ J oM (Tr.store1 J J J J J Sz5 Z0 (by (simp; omega)) (by exact set_bytes _ _ _) zU ?_))))))))))))
    refine Tr.nil (at_n (Sat.region (Tr.move J J J (Tr.quo_i64 J J J J oM (Tr.assign J J J (Tr.nil (bl_n (at_n (Sat.region (Tr.move J J J (Tr.add_i64 J J J J oM (Tr.assign J J J (Tr.nil (at_n ?_))))))))))))))
    have hst : le (a.take (k + 1)) + le (b.take (k + 1)) = (le (a.take k) + le (b.take k)) + 256 ^ k * ((a.getD k 0).toNat + (b.getD k 0).toNat) := by
     rw [le_take_succ a k oM, le_take_succ b k oM, Nat.mul_add]; omega
    exact ⟨k + 1, by omega, by omega, weak_of (wk1 rfl (wk1 rfl (wk1 rfl (wk1 rfl (wk1 (by rw [hst, ← carry_step _ _ _ _ hs]; rfl) (wk1 rfl wk0)))))) (wh1 (by rw [hst, ← padW_step 32 _ _ k oM _ hs, byteOf_mod]; exact mem0) (wh1 Z1 (wh1 Z2 (wh1 Z3 wh0)))) nD⟩
   ·
    obtain rfl : k = 32 := by omega
    have hta : le (a.take 32) = le a := by rw [List.take_of_length_le oM]
    have htb : le (b.take 32) = le b := by rw [List.take_of_length_le oM]
    refine Sat.exit (at_x (at_x (bl_h (at_n ?_))))
    refine ⟨(), trivial, weak_of (wk1 J (wk1 J wk0)) (wh1 (by rw [← padW_all, ← hta, ← htb]; exact mem0) (wh1 Z1 wh0)) nD⟩
 ·
  intro _u hj
  skip
  refine Sat.seq (Sat.seq (Sat.draw [(1, 0), (3, 1), (3, 2)] Mixed zK (Tr.loadAll J J J Y77 J Sz77 Z0 (by (simp [leb_length]; done)) ?_)))
  refine Tr.callV J J J J Body187 (ref_L) (fun _ _ => trivial) (Tr.callV J J J J Body186 (ref_below _ _ (by simp [leb_length]) (by simp [leb_length])) (fun _ _ => trivial) ?_)
  refine Tr.nil (at_n (Sat.condP J (fun hc1 => ?_) (fun hc1 => ?_)))
  ·
   have hS : le a + le b < L := by rw [le_leb32 oM, le_leb32 L_lt] at hc1; exact hc1
   refine Sat.seq (Sat.region (Tr.loadAll J J J Y77 J Sz77 Z0 (by (simp [leb_length]; done)) ?_))
   refine Tr.storeAll J J J J zB Sz77 (by (simp [leb_length]; done)) Z1 sP zV ?_
   refine Tr.nil (at_n (Sat.ret (at_r (en_r ?_))))
   refine ⟨_, [], res_cell J J Y77 J Sz77 Z1 (by simp [leb_length]), sP, sP, ?_, rfl⟩
   (rw [Nat.mod_eq_of_lt hS]; done)
  ·
   have hge : L ≤ le a + le b := by rw [le_leb32 oM, le_leb32 L_lt] at hc1; exact Nat.le_of_not_lt hc1
   refine Sat.skip (at_n (Sat.seq (Sat.region (Tr.callV J J J J Body187 (ref_L) (fun _ _ => trivial) (Tr.alloc (cs := (bytesV (List.replicate 32 0))) J Zr77 J ?_)))))
   intro n8 hn8 hf8
   refine Tr.storeAll J J J J zB Sz77 (by (simp [leb_length]; done)) Z0 sP zU ?_
   refine Tr.nil (at_n (Sat.seq (Sat.region (Tr.assign J J J (Tr.nil (at_n (Sat.seq (Sat.seq (Sat.region (Tr.assign J J J (Tr.nil (at_n (Sat.block (Sat.loop (ι := Nat) (fun k => ⟨[(4, ptr n4 0), (5, ptr n5 0), (8, ptr n8 0), (6, i64 (-((bor (le a + le b - L) L k : Nat) : Int))), (9, i64 (k : Int))], [⟨n8, bytesV (leb 32 L), 77, 32⟩, ⟨n5, bytesV (subB (le a + le b - L) L k), 77, 32⟩, ⟨n4, bytesV (List.replicate 32 0), 77, 32⟩]⟩) (fun k => k ≤ 32) (fun k => 32 - k) (0) ?_ ?_ ?_))))))))))))))
   · omega
   · exact weak_of (wk1 rfl (wk1 rfl (wk1 rfl (wk1 (by rw [bor_zero]; rfl) (wk1 rfl wk0))))) (wh1 Z0 (wh1 (by rw [subB_zero, Nat.sub_add_cancel hge]; exact mem1) (wh1 Z2 wh0))) nD
   ·
    rintro k hk
    have hpl := subB_length (le a + le b - L) L k hk
    have hbl := bor_le (le a + le b - L) L k
    refine Sat.seq (Sat.seq (Sat.region (Tr.move J J J (Tr.lss J J J J J (Tr.nil (at_n (Sat.condP J (fun hc2 => ?_) (fun hc2 => ?_))))))))
    ·
     have hk3 : k < 32 := by omega
     have hx8 := ((subB (le a + le b - L) L k).getD k 0).toNat_lt
     have hy8 := ((leb 32 L).getD k 0).toNat_lt
     have hJ : (((subB (le a + le b - L) L k).getD k 0).toNat : Int) - (((leb 32 L).getD k 0).toNat : Int) + -((bor (le a + le b - L) L k : Nat) : Int) = (((le a + le b - L + L) / 256 ^ k % 256 : Nat) : Int) - ((L / 256 ^ k % 256 : Nat) : Int) + -((bor (le a + le b - L) L k : Nat) : Int) := by rw [subB_get _ _ k hk3, leb_getD 32 L k hk3, ofNat8_toNat, ofNat8_toNat]
     have hbn := bor_next _ _ k _ hJ
     refine Sat.skip (at_n (Sat.join (ι := Unit) (fun _u => ⟨[(4, ptr n4 0), (5, ptr n5 0), (8, ptr n8 0), (6, i64 (-((bor (le a + le b - L) L (k + 1) : Nat) : Int))), (9, i64 (k : Int))], [⟨n8, bytesV (leb 32 L), 77, 32⟩, ⟨n5, bytesV (subB (le a + le b - L) L (k + 1)), 77, 32⟩, ⟨n4, bytesV (List.replicate 32 0), 77, 32⟩]⟩) (fun _u => True) ?_ ?_))
     ·
      refine Sat.block (Sat.seq (Sat.draw [(0, 0), (0, 1), (1, 2), (0, 3), (0, 4), (0, 5), (1, 6), (0, 7), (0, 8), (0, 9), (0, 10), (0, 11)] Mixed zK (Tr.move J J J (Tr.idxArr1 J J J J Y77 Sz5 _ J oM (Tr.load1 J J J Y5 J Z1 zG ?_)))))
      refine Tr.conv J J J Y5 Y3 (cv_u8_i64 _) (Tr.move J J J (Tr.idxArr1 J J J J Y77 Sz5 _ J oM (Tr.load1 J J J Y5 J Z0 (by exact get_bytes (by (simp [leb_length]; omega))) ?_)))
      refine Tr.conv J J J Y5 Y3 (cv_u8_i64 _) (Tr.sub_i64 J J J J oM (Tr.move J J J (Tr.add_i64 J J J J oM (Tr.assign J J J (Tr.nil (at_n (Sat.seq (Sat.region (Tr.move J J J (Tr.move J J J (Tr.add_i64 J J J J oM (Tr.rem_i64 J J J J oM (Tr.conv J J J Y3 Y5 (cv_i64_u8 _) (Tr.idxArr1 J J J J Y77 Sz5 _ J oM (Tr.store1 J J J J J Sz5 Z1 (by (simp; omega)) (by exact set_bytes _ _ _) zV ?_)))))))))))))))
      refine Tr.nil (at_n (Sat.seq (Sat.region (Tr.move J J J (Tr.lss J J J J J (Tr.nil (at_n (Sat.condP J (fun hc3 => ?_) (fun hc3 => ?_)))))))))
      ·
       have hn3 := hbn.1 hc3
       refine Sat.region (Tr.assign J J J (Tr.nil (bl_n (at_n ?_))))
       refine ⟨(), trivial, weak_of (wk1 J (wk1 J (wk1 J (wk1 (by rw [hn3]; rfl) (wk1 J wk0))))) (wh1 Z0 (wh1 (by rw [← subB_step _ _ k hk3 _ hJ, byteOf_mod]; exact mem1) (wh1 Z2 wh0))) nD⟩
      ·
       have hn3 := hbn.2 hc3
       refine Sat.region (Tr.assign J J J (Tr.nil (bl_n (at_n ?_))))
       refine ⟨(), trivial, weak_of (wk1 J (wk1 J (wk1 J (wk1 (by rw [hn3]; rfl) (wk1 J wk0))))) (wh1 Z0 (wh1 (by rw [← subB_step _ _ k hk3 _ hJ, byteOf_mod]; exact mem1) (wh1 Z2 wh0))) nD⟩
     ·
      intro _u hj
      skip
      refine Sat.region (Tr.move J J J (Tr.add_i64 J J J J oM (Tr.assign J J J (Tr.nil (at_n ?_)))))
      exact ⟨k + 1, by omega, by omega, weak_of (wk1 rfl (wk1 rfl (wk1 rfl (wk1 rfl (wk1 rfl wk0))))) (wh1 Z0 (wh1 Z1 (wh1 Z2 wh0))) nD⟩
    ·
     obtain rfl : k = 32 := by omega
     refine Sat.exit (at_x (at_x (bl_h (at_n (Sat.seq (Sat.region (Tr.loadAll J J J Y77 J Sz77 Z1 (by (simp [leb_length, subB_all]; done)) ?_)))))))
     refine Tr.storeAll J J J J zB Sz77 (by (simp [leb_length, subB_all]; done)) Z2 sP (by exact upd2) ?_
     refine Tr.nil (at_n (Sat.ret (en_r ?_)))
     refine ⟨_, [], res_cell J J Y77 J Sz77 Z2 (by simp [leb_length, subB_all]), sP, sP, ?_, rfl⟩
     (rw [subB_all, Nat.mod_eq_sub_mod hge, Nat.mod_eq_of_lt (a := le a + le b - L) oM])

theorem ref_plus_n (x y : Nat) (hx : x < L) (hy : y < L) : Meets Tryz.prog 210 [agg (bytesV (leb 32 x)), agg (bytesV (leb 32 y))] [] (fun _ => True) (fun v out => v = agg (bytesV (leb 32 ((x + y) % L))) ∧ out = []) := by
  have e1 := le_leb32 (Nat.lt_trans hx L_lt)
  have e2 := le_leb32 (Nat.lt_trans hy L_lt)
  have := ref_plus (leb 32 x) (leb 32 y) (leb_length 32 x) (leb_length 32 y) (by rw [e1]; exact hx) (by rw [e2]; exact hy)
  rw [e1, e2] at this
  exact this
theorem ref_plus_one (x : Nat) (hx : x < L) : Meets Tryz.prog 210 [agg (bytesV (leb 32 x)), agg (bytesV ((List.replicate 32 0).set 0 1))] [] (fun _ => True) (fun v out => v = agg (bytesV (leb 32 ((x + 1) % L))) ∧ out = []) := by
  have e1 := le_leb32 (Nat.lt_trans hx L_lt)
  have := ref_plus (leb 32 x) ((List.replicate 32 0).set 0 1) (leb_length 32 x) sP (by rw [e1]; exact hx) (by rw [le_one']; decide)
  rw [e1, le_one'] at this
  exact this

theorem ref_rest (b o c n : Nat) (xs : List UInt8) (hx : xs.length = n) (hn : n ≤ 1000000) : Meets Tryz.prog 209 [.slice (some ⟨b, o, none⟩) n c] [] (fun W => Sees W b o (bytesV xs)) (fun v out => v = agg (bytesV (leb 32 (le xs % L))) ∧ out = []) := by
 intro W hW
 refine calls_of (hp0 := []) Tryz.func209 J 33 Tryz.ntmps209 J (HRep.nil _) (Sat.seq (Sat.region (Tr.alloc (cs := (bytesV (List.replicate 32 0))) J Zr77 J ?_)))
 intro n2 hn2 hf2
 refine Tr.nil (at_n (Sat.seq (Sat.region (Tr.alloc (cs := (bytesV (List.replicate 32 0))) J Zr77 J ?_))))
 intro n3 hn3 hf3
 refine Tr.alloc (cs := (bytesV (List.replicate 32 0))) J Zr77 J ?_
 intro n4 hn4 hf4
 refine Tr.nil (at_n (Sat.seq (Sat.region (Tr.idxArr1 J J J J Y77 Sz5 0 J dE (Tr.store1 J J J (show evIn _ _ = some (u8 1) from rfl) J Sz5 Z0 sP (by exact set_bytes _ _ _) zU ?_)))))
 refine Tr.nil (at_n (Sat.seq (Sat.seq (Sat.region (Tr.move J J J (Tr.lenSl J J J Y39 (Tr.mul_i64 J J J J oM (Tr.sub_i64 J J J J oM (Tr.assign J J J (Tr.nil (at_n (Sat.block (Sat.loop (ι := Nat) (fun k => ⟨[(0, .slice (some ⟨b, o, none⟩) n c), (2, ptr n2 0), (3, ptr n3 0), (4, ptr n4 0), (5, i64 (8 * (n : Int) - 1 - (k : Int)))], [⟨n4, bytesV ((List.replicate 32 0).set 0 1), 77, 32⟩, ⟨n3, bytesV (leb 32 ((le xs / 2 ^ (8 * n - k)) % L)), 77, 32⟩, ⟨n2, bytesV (List.replicate 32 0), 77, 32⟩]⟩) (fun k => k ≤ 8 * n) (fun k => 8 * n - k) (0) ?_ ?_ ?_)))))))))))))
 · omega
 · exact weak_of (wk1 rfl (wk1 rfl (wk1 rfl (wk1 rfl (wk1 (by rw [show (8 * (n : Int) - 1 - ((0 : Nat) : Int)) = 8 * (n : Int) - 1 by omega]; rfl) wk0))))) (wh1 Z0 (wh1 (by rw [Nat.sub_zero, le_zero_div xs n hx, zero_modL, leb_zero32]; exact mem1) (wh1 Z2 wh0))) nD
 ·
  rintro k hk
  refine Sat.seq (Sat.seq (Sat.region (Tr.move J J J (Tr.geq J J J J J (Tr.nil (at_n (Sat.condP J (fun hc0 => ?_) (fun hc0 => ?_))))))))
  ·
   have hk2 : k < 8 * n := by omega
   have hdv := div_bit (le xs) (8 * n - (k + 1))
   rw [show 8 * n - (k + 1) + 1 = 8 * n - k by omega] at hdv
   have hbr := bit_rem xs (8 * n - (k + 1))
   rw [show 8 * n - (k + 1) = 8 * n - 1 - k by omega] at hbr hdv
   refine Sat.skip (at_n (Sat.join (ι := Unit) (fun _u => ⟨[(0, .slice (some ⟨b, o, none⟩) n c), (2, ptr n2 0), (3, ptr n3 0), (4, ptr n4 0), (5, i64 (8 * (n : Int) - 1 - (k : Int)))], [⟨n4, bytesV ((List.replicate 32 0).set 0 1), 77, 32⟩, ⟨n3, bytesV (leb 32 ((le xs / 2 ^ (8 * n - (k + 1))) % L)), 77, 32⟩, ⟨n2, bytesV (List.replicate 32 0), 77, 32⟩]⟩) (fun _u => True) ?_ ?_))
   ·
    refine Sat.block (Sat.seq (Sat.region (Tr.loadAll J J J Y77 J Sz77 Z1 (by (simp [leb_length]; done)) ?_)))
    refine Tr.loadAll J J J Y77 J Sz77 Z1 (by (simp [leb_length]; done)) ?_
    refine Tr.callV J J J J Body210 (ref_plus_n _ _ (Nat.mod_lt _ L_pos) (Nat.mod_lt _ L_pos)) (fun _ _ => trivial) (Tr.storeAll J J J J zB Sz77 (by (simp [leb_length]; done)) Z1 (by (simp [leb_length]; done)) zV ?_)
    refine Tr.nil (at_n (Sat.seq (Sat.region (Tr.move J J J (Tr.move J J J (Tr.quo_i64 J J J J oM (Tr.idxSlO J J J J Y39 Sz5 ((8 * n - 1 - k) / 8) oM oM (Tr.loadE J J J Y5 J sP (hW _ _ (get_bytes oM)) (Tr.move J J J (Tr.rem_i64 J J J J oM (Tr.conv J J J Y3 Y35 (cv_i64_u64 _) (Tr.shr_u8 J J J J ((8 * n - 1 - k) % 8) (by rw [wordOf_id _ oM]; omega) oM ?_))))))))))))
    refine Tr.rem_u8 J J J J 2 J dE (Tr.eqi J J J J J (Tr.nil (at_n (Sat.condP J (fun hc1 => ?_) (fun hc1 => ?_)))))
    ·
     have hdb : le xs / 2 ^ (8 * n - (k + 1)) = 2 * (le xs / 2 ^ (8 * n - k)) + 1 := by rw [show 8 * n - (k + 1) = 8 * n - 1 - k by omega, hdv, ← hbr, if_pos (decide_eq_true hc1)]
     refine Sat.region (Tr.loadAll J J J Y77 J Sz77 Z1 (by (simp [leb_length]; done)) ?_)
     refine Tr.loadAll J J J Y77 J Sz77 Z0 sP ?_
     refine Tr.callV J J J J Body210 (ref_plus_one _ (Nat.mod_lt _ L_pos)) (fun _ _ => trivial) (Tr.storeAll J J J J zB Sz77 (by (simp [leb_length]; done)) Z1 (by (simp [leb_length]; done)) zV ?_)
     refine Tr.nil (bl_n (at_n ?_))
     refine ⟨(), trivial, weak_of (wk1 J (wk1 J (wk1 J (wk1 J (wk1 J wk0))))) (wh1 Z0 (wh1 (by (rw [hdb, ← dbl_mod1]; exact mem1)) (wh1 Z2 wh0))) nD⟩
    ·
     have hdb : le xs / 2 ^ (8 * n - (k + 1)) = 2 * (le xs / 2 ^ (8 * n - k)) := by rw [show 8 * n - (k + 1) = 8 * n - 1 - k by omega, hdv, ← hbr, if_neg (by simpa using hc1), Nat.add_zero]
     refine Sat.skip (bl_n (at_n ?_))
     refine ⟨(), trivial, weak_of (wk1 J (wk1 J (wk1 J (wk1 J (wk1 J wk0))))) (wh1 Z0 (wh1 (by (rw [hdb, ← dbl_mod]; exact mem1)) (wh1 Z2 wh0))) nD⟩
   ·
    intro _u hj
    skip
    refine Sat.region (Tr.move J J J (Tr.sub_i64 J J J J oM (Tr.assign J J J (Tr.nil (at_n ?_)))))
    exact ⟨k + 1, by omega, by omega, weak_of (wk1 rfl (wk1 rfl (wk1 rfl (wk1 rfl (wk1 (by rw [show (8 * (n : Int) - 1 - ((k + 1 : Nat) : Int)) = 8 * (n : Int) - 1 - (k : Int) - 1 by omega]; rfl) wk0))))) (wh1 Z0 (wh1 Z1 (wh1 Z2 wh0))) nD⟩
  ·
   obtain rfl : k = 8 * n := by omega
   refine Sat.exit (at_x (at_x (bl_h (at_n (Sat.seq (Sat.region (Tr.loadAll J J J Y77 J Sz77 Z1 (by (simp [leb_length]; done)) ?_)))))))
   refine Tr.storeAll J J J J zB Sz77 (by (simp [leb_length]; done)) Z2 sP (by exact upd2) ?_
   refine Tr.nil (at_n (Sat.ret (en_r ?_)))
   refine ⟨_, [], res_cell J J Y77 J Sz77 Z2 (by simp [leb_length]), sP, sP, ?_, rfl⟩
   rw [Nat.sub_self, Nat.pow_zero, Nat.div_one]

theorem ref_Rest (b o c n : Nat) (xs : List UInt8) (hx : xs.length = n) (hn : n ≤ 64) : Meets Tryz.prog 137 [.slice (some ⟨b, o, none⟩) n c] [] (fun W => Sees W b o (bytesV xs)) (fun v out => v = .tuple #[agg (bytesV (leb 32 (le xs % L))), i64 0] ∧ out = []) := by
 intro W hW
 refine calls_of (hp0 := []) Tryz.func137 J 10 Tryz.ntmps137 J (HRep.nil _) (Sat.seq (Sat.region (Tr.alloc (cs := (bytesV (List.replicate 32 0))) J Zr77 J ?_)))
 intro n2 hn2 hf2
 refine Tr.assign J J J (Tr.nil (at_n (Sat.seq (Sat.seq (Sat.region (Tr.move J J J (Tr.lenSl J J J Y39 (Tr.gtr J J J J (decide_eq_false oM) (Tr.nil (at_n (Sat.cond_f J (rfl) (Sat.skip (at_n (Sat.seq (Sat.region (Tr.move J J J (Tr.callV J J J J Body209 (ref_rest _ _ _ n xs hx oM) (fun W h => sees_ext h sP hW) (Tr.storeAll J J J J zB Sz77 (by (simp [leb_length]; done)) Z0 sP zU ?_))))))))))))))))))
 refine Tr.assign J J J (Tr.nil (at_n (Sat.ret (en_r ?_))))
 refine ⟨_, [], res_cell_tmp J J J Y77 J Sz77 Z0 (by simp [leb_length]), sP, sP, ?_, rfl⟩
 rfl

theorem ref_canon (a : List UInt8) (ha : a.length = 32)  : Meets Tryz.prog 113 [agg (bytesV a)] [] (fun _ => True) (fun v out => v = .bool (decide (le a < L)) ∧ out = []) := by
 intro W hW
 refine calls_of (hp0 := []) Tryz.func113 J 6 Tryz.ntmps113 J (HRep.nil _) (Sat.seq (Sat.region (Tr.boxA J J ?_)))
 intro n1 hn1 hf1
 refine Tr.assign J J J (Tr.nil (at_n (Sat.seq (Sat.draw [(1, 0), (3, 1), (3, 2), (0, 3)] Mixed zK (Tr.loadAll J J J Y77 J Sz77 Z0 (by (simp [ha]; done)) ?_)))))
 refine Tr.callV J J J J Body187 (ref_L) (fun _ _ => trivial) (Tr.callV J J J J Body186 (ref_below _ _ (by simp [ha]) (by simp [leb_length])) (fun _ _ => trivial) ?_)
 refine Tr.assign J J J (Tr.nil (at_n (Sat.ret (en_r ?_))))
 refine ⟨_, [], res_tmp J J, sP, sP, ?_, rfl⟩
 rw [le_leb32 L_lt]

theorem ref_bit_at (a : List UInt8) (ha : a.length = 32) (k : Nat) (hk : k < 256) : Meets Tryz.prog 192 [agg (bytesV a), i64 (k : Int)] [] (fun _ => True) (fun v out => v = .bool ((le a).testBit k) ∧ out = []) := by
 intro W hW
 refine calls_of (hp0 := []) Tryz.func192 J 23 Tryz.ntmps192 J (HRep.nil _) (Sat.seq (Sat.region (Tr.boxA J J ?_)))
 intro n2 hn2 hf2
 refine Tr.assign J J J (Tr.nil (at_n (Sat.seq (Sat.region (Tr.move J J J (Tr.geq J J J J (decide_eq_true oM) (Tr.move J J J (Tr.move J J J (Tr.lss J J J J (decide_eq_true oM) (Tr.pick J J J J J J (Tr.move J J J (Tr.move J J J (Tr.quo_i64 J J J J oM (Tr.idxArr1 J J J J Y77 Sz5 (k / 8) oM oM (Tr.load1 J J J Y5 J Z0 zG ?_)))))))))))))))
 refine Tr.move J J J (Tr.rem_i64 J J J J oM (Tr.conv J J J Y3 Y35 (cv_i64_u64 _) (Tr.shr_u8 J J J J (k % 8) (by rw [wordOf_id _ oM]; omega) oM ?_)))
 refine Tr.rem_u8 J J J J 2 J dE (Tr.eqi J J J J J (Tr.pick J J J J J J (Tr.assign J J J (Tr.nil (at_n (Sat.ret (en_r ?_)))))))
 refine ⟨_, [], res_tmp J J, sP, sP, ?_, rfl⟩
 rw [← bit_rem a k]; rfl

end Go.Proofs.YtpacobmjjjillaaGreat
end

section
namespace Go.Proofs.YtpacobmjjjillaaGreat
open Go Hw
set_option linter.unusedVariables false
set_option linter.unusedSimpArgs false

open Ed

theorem r_mul (x y : Fp) : Meets Tryz.prog 122 [agg (bytesV (fb x)), agg (bytesV (fb y))] [] (fun _ => True) (fun v out => v = agg (bytesV (fb (x * y))) ∧ out = []) := by
  have h := r3_Mul (fb x) (fb y) (fb_length x) (fb_length y)
  rwa [fe_fb x, fe_fb y] at h

theorem r_sub (x y : Fp) : Meets Tryz.prog 194 [agg (bytesV (fb x)), agg (bytesV (fb y))] [] (fun _ => True) (fun v out => v = agg (bytesV (fb (x - y))) ∧ out = []) := by
  have h := r3_Sub (fb x) (fb y) (fb_length x) (fb_length y)
  rwa [fe_fb x, fe_fb y] at h

theorem r_neg (x : Fp) : Meets Tryz.prog 185 [agg (bytesV (fb x))] [] (fun _ => True) (fun v out => v = agg (bytesV (fb (-x))) ∧ out = []) := by
  have h := r3_Neg (fb x) (fb_length x)
  rwa [fe_fb x] at h

theorem r_inv (x : Fp) : Meets Tryz.prog 124 [agg (bytesV (fb x))] [] (fun _ => True) (fun v out => v = agg (bytesV (fb (finv x))) ∧ out = []) := by
  have h := r3_Inv (fb x) (fb_length x)
  rwa [fe_fb x] at h

theorem r_odd (x : Fp) : Meets Tryz.prog 119 [agg (bytesV (fb x))] [] (fun _ => True) (fun v out => v = .bool (decide (x.val % 2 = 1)) ∧ out = []) := by
  have h := r3_Odd (fb x) (fb_length x)
  rwa [fe_fb x] at h

theorem r_canon (x : Fp) : Meets Tryz.prog 184 [agg (bytesV (fb x))] [] (fun _ => True) (fun v out => v = .bool true ∧ out = []) := by
  have h := r3_Canon (fb x) (fb_length x)
  rw [fe_fb x] at h
  rwa [decide_eq_true rfl] at h
theorem r_same_raw (x : Fp) (a : List UInt8) (ha : a.length = 32) : Meets Tryz.prog 234 [agg (bytesV (fb x)), agg (bytesV a)] [] (fun _ => True) (fun v out => v = .bool (decide (x = fe (le a))) ∧ out = []) := by
  have h := r3_Same (fb x) a (fb_length x) ha
  rwa [fe_fb x] at h
theorem r_of (x : UInt64) (X : Fp) (h : fe x.toNat = X) : Meets Tryz.prog 123 [u64 x] [] (fun _ => True) (fun v out => v = agg (bytesV (fb X)) ∧ out = []) := by
  rw [← h]; exact r3_Of x
theorem r_one : Meets Tryz.prog 123 [u64 1] [] (fun _ => True) (fun v out => v = agg (bytesV (fb 1)) ∧ out = []) := r_of 1 1 rfl
theorem r_cA : Meets Tryz.prog 123 [u64 121666] [] (fun _ => True) (fun v out => v = agg (bytesV (fb cA)) ∧ out = []) := r_of 121666 cA rfl
theorem r_cB : Meets Tryz.prog 123 [u64 121665] [] (fun _ => True) (fun v out => v = agg (bytesV (fb cB)) ∧ out = []) := r_of 121665 cB rfl
theorem r_pow_root (a : List UInt8) (ha : a.length = 32) (X : Fp) (hX : fe (le a) = X) : Meets Tryz.prog 198 [agg (bytesV a), agg (bytesV (expT 5 3))] [] (fun _ => True) (fun v out => v = agg (bytesV (fb (fpow X ((PF - 5) / 8)))) ∧ out = []) := r3_Pow_e a _ ha (expT_length _ _) _ X expT_root hX
theorem r_pow_unit : Meets Tryz.prog 198 [agg (bytesV (fb (fe 2))), agg (bytesV (expT 1 2))] [] (fun _ => True) (fun v out => v = agg (bytesV (fb (fpow (fe 2) ((PF - 1) / 4)))) ∧ out = []) := r3_Pow_e _ _ (fb_length _) (expT_length _ _) _ _ expT_unit (fe_fb _)
theorem r_mul_a (p r : Fp) (a : List UInt8) (ha : a.length = 32) (h : p * fe (le a) = r) : Meets Tryz.prog 122 [agg (bytesV (fb p)), agg (bytesV a)] [] (fun _ => True) (fun v out => v = agg (bytesV (fb r)) ∧ out = []) := by
  have h1 := r3_Mul (fb p) a (fb_length p) ha
  rwa [fe_fb p, h] at h1

theorem r3_Root (a : List UInt8) (X : Fp) (ha : a.length = 32) (hX : fe (le a) = X) : Meets Tryz.prog 200 [agg (bytesV a)] [] (fun _ => True) (fun v out => v = .tuple #[agg (bytesV (fb (fRoot X).1)), .bool (fRoot X).2] ∧ out = []) := by
 intro W hW
 obtain ⟨r0, hr0⟩ : ∃ r, fpow X ((PF + 3) / 8) = r := ⟨_, rfl⟩
 obtain ⟨un, hun⟩ : ∃ r, fpow (fe 2) ((PF - 1) / 4) = r := ⟨_, rfl⟩
 obtain ⟨r1, hr1⟩ : ∃ r, fRoot1 X = r := ⟨_, rfl⟩
 have hp0 := r_pow_root a ha X hX
 have hstep := root_step X
 obtain ⟨p0, hpp⟩ : ∃ r, fpow X ((PF - 5) / 8) = r := ⟨_, rfl⟩
 rw [hpp] at hp0 hstep
 rw [hr0] at hstep
 have hm0 := r_mul_a p0 r0 a ha (by rw [hX]; exact hstep)
 have hpu := r_pow_unit
 rw [hun] at hpu
 have hm := fun y => r_same_raw y a ha
 rw [hX] at hm
 have hr1' : r1 = if r0 * r0 = X then r0 else r0 * un := by rw [← hr1, fRoot1, hr0, hun]
 have hR : fRoot X = if r1 * r1 = X then ((if r1.val % 2 = 1 then -r1 else r1), true) else (0, false) := by rw [fRoot, hr1]
 clear hr1 hstep
 have hs53 := r3_shifted 5 3 dE dE
 have hs12 := r3_shifted 1 2 dE dE
 obtain ⟨E, hE⟩ : ∃ E, Hid (expT 5 3 = E) := ⟨_, ⟨rfl⟩⟩
 obtain ⟨G, hG⟩ : ∃ E, Hid (expT 1 2 = E) := ⟨_, ⟨rfl⟩⟩
 have hEl : E.length = 32 := by rw [← hE.out]; exact expT_length _ _
 have hGl : G.length = 32 := by rw [← hG.out]; exact expT_length _ _
 rw [hE.out] at hs53 hp0
 rw [hG.out] at hs12 hpu
 refine calls_of (hp0 := []) Tryz.func200 J 33 Tryz.ntmps200 J (HRep.nil _) (Sat.seq (Sat.region (Tr.boxA J J ?_)))
 intro n1 hn1 hf1
 refine Tr.alloc (cs := (bytesV (List.replicate 32 0))) J Zr77 J ?_
 intro n2 hn2 hf2
 refine Tr.assign J J J (Tr.nil (at_n (Sat.seq (Sat.draw [(1, 0), (1, 3), (3, 1), (3, 2), (3, 4), (2, 5), (4, 6)] Mixed zK (Tr.loadAll J J J Y77 J Sz77 Z1 (by (simp [ha]; done)) ?_)))))
 refine Tr.loadAll J J J Y77 J Sz77 Z1 (by (simp [ha]; done)) ?_
 refine Tr.callV J J J J Body199 (hs53) (fun _ _ => trivial) (Tr.callV J J J J Body198 (hp0) (fun _ _ => trivial) (Tr.callV J J J J Body122 (hm0) (fun _ _ => trivial) (Tr.alloc (cs := (bytesV (List.replicate 32 0))) J Zr77 J ?_)))
 intro n4 hn4 hf4
 refine Tr.storeAll J J J J zE Sz77 zF Z0 sP zU ?_
 refine Tr.nil (at_n (Sat.join (ι := Unit) (fun _u => ⟨[(1, ptr n1 0), (2, ptr n2 0), (4, ptr n4 0)], [⟨n4, bytesV (fb r1), 77, 32⟩, ⟨n2, bytesV (List.replicate 32 0), 77, 32⟩, ⟨n1, bytesV a, 77, (bytesV a).length⟩]⟩) (fun _u => True) ?_ ?_))
 ·
  refine Sat.seq (Sat.draw [(1, 0), (1, 1), (1, 3), (3, 2), (3, 4), (0, 5)] Mixed zK (Tr.loadAll J J J Y77 J Sz77 Z0 zF ?_))
  refine Tr.loadAll J J J Y77 J Sz77 Z0 zF ?_
  refine Tr.loadAll J J J Y77 J Sz77 Z2 (by (simp [ha]; done)) ?_
  refine Tr.callV J J J J Body122 (r_mul r0 r0) (fun _ _ => trivial) (Tr.callV J J J J Body234 (hm (r0 * r0)) (fun _ _ => trivial) (Tr.not J J J (Tr.nil (at_n (Sat.condNP J (fun hc0 => ?_) (fun hc0 => ?_))))))
  ·
   refine Sat.draw [(1, 0), (3, 1), (3, 2), (3, 3), (3, 4), (4, 5)] Mixed zK (Tr.loadAll J J J Y77 J Sz77 Z0 zF ?_)
   refine Tr.callV J J J J Body123 (r_of 2 (fe 2) J) (fun _ _ => trivial) (Tr.callV J J J J Body199 (hs12) (fun _ _ => trivial) (Tr.callV J J J J Body198 (hpu) (fun _ _ => trivial) (Tr.callV J J J J Body122 (r_mul r0 un) (fun _ _ => trivial) (Tr.storeAll J J J J zE Sz77 zF Z0 zF zU ?_))))
   refine Tr.nil (at_n ?_)
   (rw [hr1', if_neg hc0]; exact ⟨(), trivial, weak_of (wk1 rfl (wk1 rfl (wk1 rfl wk0))) (wh1 Z0 (wh1 Z1 (wh1 Z2 wh0))) nD⟩)
  ·
   refine Sat.skip (at_n ?_)
   (rw [hr1', if_pos hc0]; exact ⟨(), trivial, weak_of (wk1 rfl (wk1 rfl (wk1 rfl wk0))) (wh1 Z0 (wh1 Z1 (wh1 Z2 wh0))) nD⟩)
 ·
  intro _u hj
  skip
  refine Sat.seq (Sat.seq (Sat.draw [(1, 0), (1, 1), (1, 3), (3, 2), (3, 4), (0, 5)] Mixed zK (Tr.loadAll J J J Y77 J Sz77 Z0 zF ?_)))
  refine Tr.loadAll J J J Y77 J Sz77 Z0 zF ?_
  refine Tr.loadAll J J J Y77 J Sz77 Z2 (by (simp [ha]; done)) ?_
  refine Tr.callV J J J J Body122 (r_mul r1 r1) (fun _ _ => trivial) (Tr.callV J J J J Body234 (hm (r1 * r1)) (fun _ _ => trivial) (Tr.not J J J (Tr.nil (at_n (Sat.condNP J (fun hc1 => ?_) (fun hc1 => ?_))))))
  ·
   refine Sat.seq (Sat.region (Tr.build (cs := bytesV (List.replicate 32 0)) J J J (fun w => by kernel_rfl) ?_))
   refine Tr.storeAll J J J J zE Sz77 sP Z1 sP zV ?_
   refine Tr.assign J J J (Tr.nil (at_n (Sat.ret (at_r (en_r ?_)))))
   refine ⟨_, [], res_cell_tmp J J J Y77 J Sz77 Z1 sP, sP, sP, ?_, rfl⟩
   (rw [hR, if_neg hc1, fb_zero]; done)
  ·
   refine Sat.skip (at_n (Sat.join (ι := Unit) (fun _u => ⟨[(2, ptr n2 0), (4, ptr n4 0)], [⟨n4, bytesV (fb (if r1.val % 2 = 1 then -r1 else r1)), 77, 32⟩, ⟨n2, bytesV (List.replicate 32 0), 77, 32⟩]⟩) (fun _u => True) ?_ ?_))
   ·
    refine Sat.seq (Sat.region (Tr.loadAll J J J Y77 J Sz77 Z0 zF ?_))
    refine Tr.callV J J J J Body119 (r_odd r1) (fun _ _ => trivial) (Tr.nil (at_n (Sat.condP J (fun hc2 => ?_) (fun hc2 => ?_))))
    ·
     refine Sat.region (Tr.loadAll J J J Y77 J Sz77 Z0 zF ?_)
     refine Tr.callV J J J J Body185 (r_neg r1) (fun _ _ => trivial) (Tr.storeAll J J J J zE Sz77 zF Z0 zF zU ?_)
     refine Tr.nil (at_n ?_)
     (rw [if_pos hc2]; exact ⟨(), trivial, weak_of (wk1 rfl (wk1 rfl wk0)) (wh1 Z0 (wh1 Z1 wh0)) nD⟩)
    ·
     refine Sat.skip (at_n ?_)
     (rw [if_neg hc2]; exact ⟨(), trivial, weak_of (wk1 rfl (wk1 rfl wk0)) (wh1 Z0 (wh1 Z1 wh0)) nD⟩)
   ·
    intro _u hj
    skip
    refine Sat.seq (Sat.region (Tr.loadAll J J J Y77 J Sz77 Z0 zF ?_))
    refine Tr.storeAll J J J J zE Sz77 zF Z1 sP zV ?_
    refine Tr.assign J J J (Tr.nil (at_n (Sat.ret (en_r ?_))))
    refine ⟨_, [], res_cell_tmp J J J Y77 J Sz77 Z1 (by simp [fb_length]), sP, sP, ?_, rfl⟩
    (rw [hR, if_pos hc1]; done)

theorem check_eq {P : Pt Fp} (h : cv.on P) : cA * (P.y * P.y - P.x * P.x - 1) = -(cB * (P.x * P.x * (P.y * P.y))) := by
  have h1 := (cv.on_iff P).1 h
  have h2 : P.y * P.y - P.x * P.x = 1 + fD * (P.x * P.x * (P.y * P.y)) := h1
  have h3 := fD_cA
  rw [h2]
  generalize P.x * P.x * (P.y * P.y) = q at *
  generalize cA = a at *
  generalize cB = b at *
  generalize fD = d at *
  grind

theorem r5_D  : Meets Tryz.prog 189 [] [] (fun _ => True) (fun v out => v = agg (bytesV (fb fD)) ∧ out = []) := by
 intro W hW
 have hm := r_mul (-cB) (finv cA)
 rw [ref_D] at hm
 have hi := r_inv cA
 revert hm hi
 generalize finv cA = ia
 intro hm hi
 refine calls_of (hp0 := []) Tryz.func189 J 6 Tryz.ntmps189 J (HRep.nil _) (Sat.seq (Sat.region (Tr.alloc (cs := (bytesV (List.replicate 32 0))) J Zr77 J ?_)))
 intro n0 hn0 hf0
 refine Tr.nil (at_n (Sat.seq (Sat.region (Tr.callV J J J J Body123 (r_cB) (fun _ _ => trivial) (Tr.callV J J J J Body185 (r_neg cB) (fun _ _ => trivial) ?_)))))
 refine Tr.callV J J J J Body123 (r_cA) (fun _ _ => trivial) (Tr.callV J J J J Body124 (hi) (fun _ _ => trivial) (Tr.callV J J J J Body122 (hm) (fun _ _ => trivial) (Tr.storeAll J J J J zE Sz77 zF Z0 sP zU ?_)))
 refine Tr.nil (at_n (Sat.ret (en_r ?_)))
 refine ⟨_, [], res_cell J J Y77 J Sz77 Z0 (by simp [fb_length]), sP, sP, ?_, rfl⟩
 rfl

theorem r5_Zero  : Meets Tryz.prog 120 [] [] (fun _ => True) (fun v out => v = agg (ptc (zero : Pt Fp)).cells ∧ out = []) := by
 intro W hW
 refine calls_of (hp0 := []) Tryz.func120 J 3 Tryz.ntmps120 J (HRep.nil _) (Sat.seq (Sat.region (Tr.alloc (cs := Point.zero.cells) J Point.zr J ?_)))
 intro n0 hn0 hf0
 refine Tr.nil (at_n (Sat.seq (Sat.region (Tr.callV J J J J Body123 (r_one) (fun _ _ => trivial) (Tr.build (cs := (⟨fb 0, fb 1⟩ : Point).cells) J J J (fun w => by kernel_rfl) ?_)))))
 refine Tr.storeAll J J J J (Point.isCell (by exact ⟨fb32 _, fb32 _⟩)) Sz79 (Point.length (by exact ⟨fb32 _, fb32 _⟩)) Z0 (Point.length zZ) zU ?_
 refine Tr.nil (at_n (Sat.ret (en_r ?_)))
 refine ⟨_, [], res_cell J J Y79 J Sz79 Z0 (by exact Point.length (by exact ⟨fb32 _, fb32 _⟩)), sP, sP, ?_, rfl⟩
 rfl

theorem r5_root (Y : Fp) : Meets Tryz.prog 125 [agg (bytesV (fb Y))] [] (fun _ => True) (fun v out => v = .tuple #[agg (bytesV (fb (xOf Y).1)), .bool (xOf Y).2] ∧ out = []) := by
 intro W hW
 have hq := ref_quot Y
 have hxo : xOf Y = fRoot ((Y * Y - 1) * finv (fD * (Y * Y) + 1)) := rfl
 rw [← hq] at hxo
 have hinv := r_inv (cA - cB * (Y * Y))
 revert hinv hxo
 clear hq
 generalize finv (cA - cB * (Y * Y)) = iz
 intro hxo hinv
 have hroot := r3_Root (fb (cA * (Y * Y - 1) * iz)) (cA * (Y * Y - 1) * iz) (fb_length _) (fe_fb _)
 rw [← hxo] at hroot
 clear hxo
 revert hroot
 generalize xOf Y = xr
 intro hroot
 refine calls_of (hp0 := []) Tryz.func125 J 27 Tryz.ntmps125 J (HRep.nil _) (Sat.seq (Sat.region (Tr.boxA J J ?_)))
 intro n1 hn1 hf1
 refine Tr.alloc (cs := (bytesV (List.replicate 32 0))) J Zr77 J ?_
 intro n2 hn2 hf2
 refine Tr.assign J J J (Tr.nil (at_n (Sat.seq (Sat.region (Tr.loadAll J J J Y77 J Sz77 Z1 zF ?_)))))
 refine Tr.loadAll J J J Y77 J Sz77 Z1 zF ?_
 refine Tr.callV J J J J Body122 (r_mul Y Y) (fun _ _ => trivial) (Tr.alloc (cs := (bytesV (List.replicate 32 0))) J Zr77 J ?_)
 intro n4 hn4 hf4
 refine Tr.storeAll J J J J zE Sz77 zF Z0 sP zU ?_
 refine Tr.nil (at_n (Sat.seq (Sat.draw [(1, 1), (3, 0), (3, 2), (3, 3), (3, 4), (2, 5), (4, 6)] Mixed zK (Tr.loadAll J J J Y77 J Sz77 Z0 zF ?_))))
 refine Tr.callV J J J J Body123 (r_cA) (fun _ _ => trivial) (Tr.callV J J J J Body123 (r_one) (fun _ _ => trivial) (Tr.callV J J J J Body194 (r_sub (Y * Y) 1) (fun _ _ => trivial) (Tr.callV J J J J Body122 (r_mul cA (Y * Y - 1)) (fun _ _ => trivial) (Tr.alloc (cs := (bytesV (List.replicate 32 0))) J Zr77 J ?_))))
 intro n5 hn5 hf5
 refine Tr.storeAll J J J J zE Sz77 zF Z0 sP zU ?_
 refine Tr.nil (at_n (Sat.seq (Sat.draw [(1, 2), (3, 0), (3, 1), (3, 3), (3, 4), (2, 5), (4, 6)] Mixed zK (Tr.loadAll J J J Y77 J Sz77 Z1 zF ?_))))
 refine Tr.callV J J J J Body123 (r_cA) (fun _ _ => trivial) (Tr.callV J J J J Body123 (r_cB) (fun _ _ => trivial) (Tr.callV J J J J Body122 (r_mul cB (Y * Y)) (fun _ _ => trivial) ?_))
 refine Tr.callV J J J J Body194 (r_sub cA (cB * (Y * Y))) (fun _ _ => trivial) ?_
 refine Tr.alloc (cs := (bytesV (List.replicate 32 0))) J Zr77 J ?_
 intro n6 hn6 hf6
 refine Tr.storeAll J J J J zE Sz77 zF Z0 sP zU ?_
 refine Tr.nil (at_n (Sat.seq (Sat.draw [(1, 0), (1, 1), (3, 2), (3, 3), (3, 4), (0, 5), (0, 6), (4, 7), (0, 8)] Mixed zK (Tr.loadAll J J J Y77 J Sz77 Z1 zF ?_))))
 refine Tr.loadAll J J J Y77 J Sz77 Z0 zF ?_
 refine Tr.callV J J J J Body124 (hinv) (fun _ _ => trivial) (Tr.callV J J J J Body122 (r_mul (cA * (Y * Y - 1)) iz) (fun _ _ => trivial) (Tr.callV J J J J Body200 (hroot) (fun _ _ => trivial) (Tr.extract J J J J (Tr.extract J J J J (Tr.storeAll J J J J zE Sz77 zF Z3 sP (by exact upd3) ?_)))))
 refine Tr.assign J J J (Tr.nil (at_n (Sat.ret (en_r ?_))))
 refine ⟨_, [], res_cell_tmp J J J Y77 J Sz77 Z3 (by simp [fb_length]), sP, sP, ?_, rfl⟩
 rfl

theorem bP_four : fe 4 * finv (fe 5) = bP.y := by
  have h1 : bP.y * fe 5 = fe 4 := by kernel_rfl
  have h2 : fe 5 * finv (fe 5) = 1 := finv_mul (by
    intro h
    have := congrArg Fin.val h
    revert this
    decide)
  generalize finv (fe 5) = v at *
  generalize fe 5 = f at *
  rw [← h1]
  generalize bP.y = y at *
  grind
theorem bP_even : (decide (bP.x.val % 2 = 1)) = false := by kernel_rfl
theorem bP_root : xOf bP.y = (bP.x, true) := by
  have h := xOf_eq (x := bP.x) (y := bP.y) bP_on
  rw [h, if_neg (of_decide_eq_false bP_even)]

theorem r5_Base  : Meets Tryz.prog 67 [] [] (fun _ => True) (fun v out => v = agg (ptc bP).cells ∧ out = []) := by
 intro W hW
 have hm := r_mul (fe 4) (finv (fe 5))
 rw [bP_four] at hm
 have hi := r_inv (fe 5)
 have hr := r5_root bP.y
 rw [bP_root] at hr
 have hb : bP = ⟨bP.x, bP.y⟩ := rfl
 rw [hb]
 clear hb
 revert hm hi hr
 generalize finv (fe 5) = iv
 generalize bP.x = bx
 generalize bP.y = bY
 intro hm hi hr
 refine calls_of (hp0 := []) Tryz.func67 J 16 Tryz.ntmps67 J (HRep.nil _) (Sat.seq (Sat.region (Tr.alloc (cs := Point.zero.cells) J Point.zr J ?_)))
 intro n0 hn0 hf0
 refine Tr.nil (at_n (Sat.seq (Sat.region (Tr.callV J J J J Body123 (r_of 4 (fe 4) J) (fun _ _ => trivial) (Tr.callV J J J J Body123 (r_of 5 (fe 5) J) (fun _ _ => trivial) (Tr.callV J J J J Body124 (hi) (fun _ _ => trivial) (Tr.callV J J J J Body122 (hm) (fun _ _ => trivial) (Tr.alloc (cs := (bytesV (List.replicate 32 0))) J Zr77 J ?_))))))))
 intro n1 hn1 hf1
 refine Tr.storeAll J J J J zE Sz77 zF Z0 sP zU ?_
 refine Tr.nil (at_n (Sat.seq (Sat.region (Tr.loadAll J J J Y77 J Sz77 Z0 zF ?_))))
 refine Tr.callV J J J J Body125 (hr) (fun _ _ => trivial) (Tr.move J J J (Tr.extract J J J J (Tr.extract J J J J (Tr.alloc (cs := (bytesV (List.replicate 32 0))) J Zr77 J ?_))))
 intro n2 hn2 hf2
 refine Tr.storeAll J J J J zE Sz77 zF Z0 sP zU ?_
 refine Tr.assign J J J (Tr.nil (at_n (Sat.seq (Sat.region (Tr.loadAll J J J Y77 J Sz77 Z0 zF ?_)))))
 refine Tr.loadAll J J J Y77 J Sz77 Z1 zF ?_
 refine Tr.build (cs := (ptc (⟨bx, bY⟩ : Pt Fp)).cells) J J J (fun w => by kernel_rfl) ?_
 refine Tr.storeAll J J J J (Point.isCell zP) Sz79 (Point.length zP) Z2 (Point.length zZ) (by exact upd2) ?_
 refine Tr.nil (at_n (Sat.ret (en_r ?_)))
 refine ⟨_, [], res_cell J J Y79 J Sz79 Z2 (by exact Point.length zP), sP, sP, ?_, rfl⟩
 rfl

theorem r5_Check (P : Pt Fp) (hP : cv.on P) : Meets Tryz.prog 118 [agg (ptc P).cells] [] (fun _ => True) (fun v out => v = i64 0 ∧ out = []) := by
 intro W hW
 refine calls_of (hp0 := []) Tryz.func118 J 41 Tryz.ntmps118 J (HRep.nil _) (Sat.seq (Sat.region (Tr.boxA J J ?_)))
 intro n1 hn1 hf1
 refine Tr.assign J J J (Tr.nil (at_n (Sat.seq (Sat.seq (Sat.region (Tr.fld J J J Y79 J Sz77 dE _ J (Tr.loadN (bytesV _) J J J Y77 J Sz77 Z0 (Point.row_fX zP) (Point.rl_fX zP) ?_)))))))
 refine Tr.callV J J J J Body184 (r_canon P.x) (fun _ _ => trivial) (Tr.not J J J (Tr.move J J J (Tr.fld J J J Y79 J Sz77 dE _ J (Tr.loadN (bytesV _) J J J Y77 J Sz77 Z0 (Point.row_fY zP) (Point.rl_fY zP) ?_))))
 refine Tr.callV J J J J Body184 (r_canon P.y) (fun _ _ => trivial) (Tr.not J J J (Tr.pick J J J J J J (Tr.nil (at_n (Sat.cond_f J J (Sat.skip (at_n (Sat.seq (Sat.draw [(0, 0), (1, 1), (0, 2), (1, 3), (0, 5), (1, 6), (0, 7), (1, 8), (3, 4), (3, 9), (2, 10), (2, 11), (4, 12), (4, 13)] Mixed zK (Tr.fld J J J Y79 J Sz77 dE _ J (Tr.loadN (bytesV _) J J J Y77 J Sz77 Z0 (Point.row_fX zP) (Point.rl_fX zP) ?_)))))))))))
 refine Tr.fld J J J Y79 J Sz77 dE _ J (Tr.loadN (bytesV _) J J J Y77 J Sz77 Z0 (Point.row_fX zP) (Point.rl_fX zP) ?_)
 refine Tr.fld J J J Y79 J Sz77 dE _ J (Tr.loadN (bytesV _) J J J Y77 J Sz77 Z0 (Point.row_fY zP) (Point.rl_fY zP) ?_)
 refine Tr.fld J J J Y79 J Sz77 dE _ J (Tr.loadN (bytesV _) J J J Y77 J Sz77 Z0 (Point.row_fY zP) (Point.rl_fY zP) ?_)
 refine Tr.callV J J J J Body122 (r_mul P.x P.x) (fun _ _ => trivial) (Tr.callV J J J J Body122 (r_mul P.y P.y) (fun _ _ => trivial) (Tr.alloc (cs := (bytesV (List.replicate 32 0))) J Zr77 J ?_))
 intro n3 hn3 hf3
 refine Tr.alloc (cs := (bytesV (List.replicate 32 0))) J Zr77 J ?_
 intro n4 hn4 hf4
 refine Tr.storeAll J J J J zE Sz77 zF Z1 sP zV ?_
 refine Tr.storeAll J J J J zE Sz77 zF Z0 sP zU ?_
 refine Tr.nil (at_n (Sat.seq (Sat.draw [(1, 1), (1, 2), (3, 0), (3, 3), (3, 4), (3, 5), (3, 6), (2, 7), (4, 8)] Mixed zK (Tr.loadAll J J J Y77 J Sz77 Z0 zF ?_))))
 refine Tr.loadAll J J J Y77 J Sz77 Z1 zF ?_
 refine Tr.callV J J J J Body123 (r_cA) (fun _ _ => trivial) (Tr.callV J J J J Body194 (r_sub (P.y * P.y) (P.x * P.x)) (fun _ _ => trivial) (Tr.callV J J J J Body123 (r_one) (fun _ _ => trivial) (Tr.callV J J J J Body194 (r_sub (P.y * P.y - P.x * P.x) 1) (fun _ _ => trivial) (Tr.callV J J J J Body122 (r_mul cA (P.y * P.y - P.x * P.x - 1)) (fun _ _ => trivial) (Tr.alloc (cs := (bytesV (List.replicate 32 0))) J Zr77 J ?_)))))
 intro n5 hn5 hf5
 refine Tr.storeAll J J J J zE Sz77 zF Z0 sP zU ?_
 refine Tr.nil (at_n (Sat.seq (Sat.seq (Sat.draw [(1, 0), (1, 2), (1, 3), (3, 1), (3, 4), (3, 5), (3, 6), (0, 7)] Mixed zK (Tr.loadAll J J J Y77 J Sz77 Z0 zF ?_)))))
 refine Tr.loadAll J J J Y77 J Sz77 Z2 zF ?_
 refine Tr.loadAll J J J Y77 J Sz77 Z1 zF ?_
 refine Tr.callV J J J J Body123 (r_cB) (fun _ _ => trivial) (Tr.callV J J J J Body122 (r_mul (P.x * P.x) (P.y * P.y)) (fun _ _ => trivial) (Tr.callV J J J J Body122 (r_mul cB (P.x * P.x * (P.y * P.y))) (fun _ _ => trivial) ?_))
 refine Tr.callV J J J J Body185 (r_neg (cB * (P.x * P.x * (P.y * P.y)))) (fun _ _ => trivial) ?_
 refine Tr.neq_bytes J J J J Tryz.eqGuardType77 Y77 Y5 Sz5 zF zF (show (!decide _) = false from congrArg not (decide_eq_true (congrArg fb (check_eq hP)))) (Tr.nil (at_n (Sat.cond_f J (rfl) (Sat.skip (at_n (Sat.seq (Sat.region (Tr.assign J J J (Tr.nil (at_n (Sat.ret (en_r ?_))))))))))))
 refine ⟨_, [], res_tmp J J, sP, sP, ?_, rfl⟩
 rfl

end Go.Proofs.YtpacobmjjjillaaGreat
end

section
namespace Go.Proofs.YtpacobmjjjillaaGreat
open Go Hw
set_option linter.unusedVariables false
set_option linter.unusedSimpArgs false

open Ed

/-- three words of ten that fit, and what they mean -/
structure FarFit (u : far) : Prop where
  x : Fit10 u.fX
  y : Fit10 u.fY
  z : Fit10 u.fZ
theorem FarFit.ok {x : far} (h : FarFit x) : x.ok := ⟨h.x.len, h.y.len, h.z.len⟩
def farV (x : far) : Fr Fp := ⟨fe (v10 x.fX), fe (v10 x.fY), fe (v10 x.fZ)⟩
structure FarRep (x : far) (P : Pt Fp) : Prop where
  fit : FarFit x
  rep : (farV x).rep P
def frA (p q : far) : List Nat := mulT p.fZ q.fZ
def frM (d : List Nat) (p q : far) : List Nat := mulT d (mulT (mulT p.fX q.fX) (mulT p.fY q.fY))
def frB (p q : far) : List Nat := plusT (mulT p.fX q.fX) (mulT p.fY q.fY)
def frC (p q : far) : List Nat := minusT (mulT (plusT p.fX p.fY) (plusT q.fX q.fY)) (frB p q)
def frF (d : List Nat) (p q : far) : List Nat := minusT (mulT (frA p q) (frA p q)) (frM d p q)
def frG (d : List Nat) (p q : far) : List Nat := plusT (mulT (frA p q) (frA p q)) (frM d p q)
def frT (d : List Nat) (p q : far) : far := ⟨mulT (frA p q) (mulT (frF d p q) (frC p q)), mulT (frA p q) (mulT (frG d p q) (frB p q)), mulT (frF d p q) (frG d p q)⟩
section
variable {d : List Nat} {p q : far}
theorem frA_fit (hp : FarFit p) (hq : FarFit q) : Fit10 (frA p q) := mulT_fit hp.z hq.z
theorem frM_fit (hd : Fit10 d) (hp : FarFit p) (hq : FarFit q) : Fit10 (frM d p q) := mulT_fit hd (mulT_fit (mulT_fit hp.x hq.x) (mulT_fit hp.y hq.y))
theorem frB_fit (hp : FarFit p) (hq : FarFit q) : Fit10 (frB p q) := plusT_fit (mulT_fit hp.x hq.x) (mulT_fit hp.y hq.y)
theorem frC_fit (hp : FarFit p) (hq : FarFit q) : Fit10 (frC p q) := minusT_fit (mulT_fit (plusT_fit hp.x hp.y) (plusT_fit hq.x hq.y)) (frB_fit hp hq)
theorem frF_fit (hd : Fit10 d) (hp : FarFit p) (hq : FarFit q) : Fit10 (frF d p q) := minusT_fit (mulT_fit (frA_fit hp hq) (frA_fit hp hq)) (frM_fit hd hp hq)
theorem frG_fit (hd : Fit10 d) (hp : FarFit p) (hq : FarFit q) : Fit10 (frG d p q) := plusT_fit (mulT_fit (frA_fit hp hq) (frA_fit hp hq)) (frM_fit hd hp hq)
theorem frT_fit (hd : Fit10 d) (hp : FarFit p) (hq : FarFit q) : FarFit (frT d p q) :=
  ⟨mulT_fit (frA_fit hp hq) (mulT_fit (frF_fit hd hp hq) (frC_fit hp hq)), mulT_fit (frA_fit hp hq) (mulT_fit (frG_fit hd hp hq) (frB_fit hp hq)), mulT_fit (frF_fit hd hp hq) (frG_fit hd hp hq)⟩
theorem mv {x y : List Nat} (hx : Fit10 x) (hy : Fit10 y) : fe (v10 (mulT x y)) = fe (v10 x) * fe (v10 y) := mulT_v hx.len hy.len
theorem pv' {x y : List Nat} (hx : Fit10 x) (hy : Fit10 y) : fe (v10 (plusT x y)) = fe (v10 x) + fe (v10 y) := plusT_v hx.len hy.len
theorem nv {x y : List Nat} (hx : Fit10 x) (hy : Fit10 y) : fe (v10 (minusT x y)) = fe (v10 x) - fe (v10 y) := minusT_v hx.len hy
theorem frT_v (hd : Fit10 d) (hp : FarFit p) (hq : FarFit q) : farV (frT d p q) = Fr.add (fe (v10 d)) (farV p) (farV q) := by
  have a := frA_fit hp hq
  have m := frM_fit hd hp hq
  have b := frB_fit hp hq
  have c := frC_fit hp hq
  have f := frF_fit hd hp hq
  have g := frG_fit hd hp hq
  have c1 := mulT_fit hp.x hq.x
  have c2 := mulT_fit hp.y hq.y
  have va : fe (v10 (frA p q)) = fe (v10 p.fZ) * fe (v10 q.fZ) := mv hp.z hq.z
  have vm : fe (v10 (frM d p q)) = fe (v10 d) * (fe (v10 p.fX) * fe (v10 q.fX) * (fe (v10 p.fY) * fe (v10 q.fY))) := by rw [frM, mv hd (mulT_fit c1 c2), mv c1 c2, mv hp.x hq.x, mv hp.y hq.y]
  have vb : fe (v10 (frB p q)) = fe (v10 p.fX) * fe (v10 q.fX) + fe (v10 p.fY) * fe (v10 q.fY) := by rw [frB, pv' c1 c2, mv hp.x hq.x, mv hp.y hq.y]
  have vc : fe (v10 (frC p q)) = (fe (v10 p.fX) + fe (v10 p.fY)) * (fe (v10 q.fX) + fe (v10 q.fY)) - (fe (v10 p.fX) * fe (v10 q.fX) + fe (v10 p.fY) * fe (v10 q.fY)) := by
    rw [frC, nv (mulT_fit (plusT_fit hp.x hp.y) (plusT_fit hq.x hq.y)) b, mv (plusT_fit hp.x hp.y) (plusT_fit hq.x hq.y), pv' hp.x hp.y, pv' hq.x hq.y, vb]
  have vf : fe (v10 (frF d p q)) = fe (v10 (frA p q)) * fe (v10 (frA p q)) - fe (v10 (frM d p q)) := by rw [frF, nv (mulT_fit a a) m, mv a a]
  have vg : fe (v10 (frG d p q)) = fe (v10 (frA p q)) * fe (v10 (frA p q)) + fe (v10 (frM d p q)) := by rw [frG, pv' (mulT_fit a a) m, mv a a]
  unfold farV frT Fr.add
  simp only [mv a (mulT_fit f c), mv f c, mv a (mulT_fit g b), mv g b, mv f g, vf, vg, va, vm, vb, vc]
end
theorem FarRep.add {d : List Nat} {p q : far} {P Q : Pt Fp} (hd : Fit10 d) (hdv : fe (v10 d) = fD) (hp : FarRep p P) (hq : FarRep q Q) (hP : cv.on P) (hQ : cv.on Q) : FarRep (frT d p q) (cv.add P Q) := by
  refine ⟨frT_fit hd hp.fit hq.fit, ?_⟩
  rw [frT_v hd hp.fit hq.fit, hdv]
  exact cv.far_add hp.rep hq.rep hP hQ
/-- a point's words -/
def awT (P : Pt Fp) : far := ⟨openT (le (fb P.x)), openT (le (fb P.y)), openT (le (fb (1 : Fp)))⟩
theorem awT_fit (P : Pt Fp) : FarFit (awT P) := ⟨o_fit (fb_length _), o_fit (fb_length _), o_fit (fb_length _)⟩
theorem awT_rep (P : Pt Fp) : FarRep (awT P) P := by
  refine ⟨awT_fit P, ?_⟩
  have h : farV (awT P) = Fr.of P := by
    unfold farV awT Fr.of
    simp only [o_v (fb_length _), fe_fb]
  rw [h]
  exact cv.far_of P
def dT : List Nat := openT (le (fb fD))
theorem dT_fit : Fit10 dT := o_fit (fb_length _)
theorem dT_v : fe (v10 dT) = fD := by
  have h := o_v (fb_length fD)
  rw [fe_fb] at h
  exact h
theorem r5_openD : Meets Tryz.prog 188 [agg (bytesV (fb fD))] [] (fun _ => True) (fun v out => v = agg (wdsV dT) ∧ out = []) := r3_Open (fb fD) (fb_length _)

theorem r5_plus (d : List Nat) (p q : far) (hd : Fit10 d) (hp : FarFit p) (hq : FarFit q) : Meets Tryz.prog 191 [agg (wdsV d), agg (p).cells, agg (q).cells] [] (fun _ => True) (fun v out => v = agg (frT d p q).cells ∧ out = []) := by
 intro W hW
 have ldd := hd.len
 have hpo := hp.ok
 have hqo := hq.ok
 unfold frT frF frG frC frM frB frA
 have fa := mulT_fit hp.z hq.z
 have ca := r3_Times _ _ hp.z hq.z
 revert fa ca
 generalize mulT p.fZ q.fZ = a
 intro fa ca
 have la := fa.len
 have fb2 := mulT_fit fa fa
 have cb := r3_Times _ _ fa fa
 revert fb2 cb
 generalize mulT a a = b
 intro fb2 cb
 have lb := fb2.len
 have fc := mulT_fit hp.x hq.x
 have cc := r3_Times _ _ hp.x hq.x
 revert fc cc
 generalize mulT p.fX q.fX = c
 intro fc cc
 have lc := fc.len
 have fe2 := mulT_fit hp.y hq.y
 have ce := r3_Times _ _ hp.y hq.y
 revert fe2 ce
 generalize mulT p.fY q.fY = e
 intro fe2 ce
 have le := fe2.len
 have fce := mulT_fit fc fe2
 have cce := r3_Times _ _ fc fe2
 revert fce cce
 generalize mulT c e = ce2
 intro fce cce
 have lce2 := fce.len
 have fm := mulT_fit hd fce
 have cm := r3_Times _ _ hd fce
 revert fm cm
 generalize mulT d ce2 = m
 intro fm cm
 have lm := fm.len
 have ff := minusT_fit fb2 fm
 have cf := r3_Minus _ _ fb2 fm
 revert ff cf
 generalize minusT b m = f
 intro ff cf
 have lf := ff.len
 have fg := plusT_fit fb2 fm
 have cg := r3_Plus _ _ fb2 fm
 revert fg cg
 generalize plusT b m = g
 intro fg cg
 have lg := fg.len
 have fbo := plusT_fit fc fe2
 have cbo := r3_Plus _ _ fc fe2
 revert fbo cbo
 generalize plusT c e = both
 intro fbo cbo
 have lboth := fbo.len
 have fpp := plusT_fit hp.x hp.y
 have cpp := r3_Plus _ _ hp.x hp.y
 revert fpp cpp
 generalize plusT p.fX p.fY = pp
 intro fpp cpp
 have lpp := fpp.len
 have fqq := plusT_fit hq.x hq.y
 have cqq := r3_Plus _ _ hq.x hq.y
 revert fqq cqq
 generalize plusT q.fX q.fY = qq
 intro fqq cqq
 have lqq := fqq.len
 have fpq := mulT_fit fpp fqq
 have cpq := r3_Times _ _ fpp fqq
 revert fpq cpq
 generalize mulT pp qq = pq
 intro fpq cpq
 have lpq := fpq.len
 have fcr := minusT_fit fpq fbo
 have ccr := r3_Minus _ _ fpq fbo
 revert fcr ccr
 generalize minusT pq both = cr
 intro fcr ccr
 have lcr := fcr.len
 have ffc := mulT_fit ff fcr
 have cfc := r3_Times _ _ ff fcr
 revert ffc cfc
 generalize mulT f cr = fcr2
 intro ffc cfc
 have lfcr2 := ffc.len
 have fgb := mulT_fit fg fbo
 have cgb := r3_Times _ _ fg fbo
 revert fgb cgb
 generalize mulT g both = gb
 intro fgb cgb
 have lgb := fgb.len
 have fX := mulT_fit fa ffc
 have cX := r3_Times _ _ fa ffc
 revert fX cX
 generalize mulT a fcr2 = X
 intro fX cX
 have lX := fX.len
 have fY := mulT_fit fa fgb
 have cY := r3_Times _ _ fa fgb
 revert fY cY
 generalize mulT a gb = Y
 intro fY cY
 have lY := fY.len
 have fZ := mulT_fit ff fg
 have cZ := r3_Times _ _ ff fg
 revert fZ cZ
 generalize mulT f g = Z
 intro fZ cZ
 have lZ := fZ.len
 refine calls_of (hp0 := []) Tryz.func191 J 75 Tryz.ntmps191 J (HRep.nil _) (Sat.seq (Sat.region (Tr.boxA J J ?_)))
 intro n3 hn3 hf3
 refine Tr.boxA J J ?_
 intro n4 hn4 hf4
 refine Tr.boxA J J ?_
 intro n5 hn5 hf5
 refine Tr.alloc (cs := far.zero.cells) J far.zr J ?_
 intro n6 hn6 hf6
 refine Tr.nil (at_n (Sat.seq (Sat.region (Tr.fld J J J Tryz.underlying180 J Sz177 dE _ J (Tr.loadN (wdsV _) J J J Y177 J Sz177 Z2 (far.row_fZ (by exact hpo)) (far.rl_fZ (by exact hpo)) ?_)))))
 refine Tr.fld J J J Tryz.underlying180 J Sz177 dE _ J (Tr.loadN (wdsV _) J J J Y177 J Sz177 Z1 (far.row_fZ (by exact hqo)) (far.rl_fZ (by exact hqo)) ?_)
 refine Tr.callV J J J J Body197 (ca) (fun _ _ => trivial) (Tr.alloc (cs := (intsV (List.replicate 10 0))) J Zr177 J ?_)
 intro n7 hn7 hf7
 refine Tr.storeAll J J J J (by exact wdsV_cell _) Sz177 (by (simp [wdsV_length, la]; done)) Z0 sP zU ?_
 refine Tr.nil (at_n (Sat.seq (Sat.region (Tr.loadAll J J J Y177 J Sz177 Z0 (by (simp [wdsV_length, la]; done)) ?_))))
 refine Tr.loadAll J J J Y177 J Sz177 Z0 (by (simp [wdsV_length, la]; done)) ?_
 refine Tr.callV J J J J Body197 (cb) (fun _ _ => trivial) (Tr.alloc (cs := (intsV (List.replicate 10 0))) J Zr177 J ?_)
 intro n8 hn8 hf8
 refine Tr.storeAll J J J J (by exact wdsV_cell _) Sz177 (by (simp [wdsV_length, lb]; done)) Z0 sP zU ?_
 refine Tr.nil (at_n (Sat.seq (Sat.draw [(0, 0), (1, 1), (0, 2), (1, 3), (0, 5), (1, 6), (0, 7), (1, 8), (3, 4), (3, 9), (2, 10), (2, 11), (4, 12), (4, 13)] Mixed zK (Tr.fld J J J Tryz.underlying180 J Sz177 dE _ J (Tr.loadN (wdsV _) J J J Y177 J Sz177 Z4 (far.row_fX (by exact hpo)) (far.rl_fX (by exact hpo)) ?_)))))
 refine Tr.fld J J J Tryz.underlying180 J Sz177 dE _ J (Tr.loadN (wdsV _) J J J Y177 J Sz177 Z3 (far.row_fX (by exact hqo)) (far.rl_fX (by exact hqo)) ?_)
 refine Tr.fld J J J Tryz.underlying180 J Sz177 dE _ J (Tr.loadN (wdsV _) J J J Y177 J Sz177 Z4 (far.row_fY (by exact hpo)) (far.rl_fY (by exact hpo)) ?_)
 refine Tr.fld J J J Tryz.underlying180 J Sz177 dE _ J (Tr.loadN (wdsV _) J J J Y177 J Sz177 Z3 (far.row_fY (by exact hqo)) (far.rl_fY (by exact hqo)) ?_)
 refine Tr.callV J J J J Body197 (cc) (fun _ _ => trivial) (Tr.callV J J J J Body197 (ce) (fun _ _ => trivial) (Tr.alloc (cs := (intsV (List.replicate 10 0))) J Zr177 J ?_))
 intro n9 hn9 hf9
 refine Tr.alloc (cs := (intsV (List.replicate 10 0))) J Zr177 J ?_
 intro n10 hn10 hf10
 refine Tr.storeAll J J J J (by exact wdsV_cell _) Sz177 (by (simp [wdsV_length, lc]; done)) Z1 sP zV ?_
 refine Tr.storeAll J J J J (by exact wdsV_cell _) Sz177 (by (simp [wdsV_length, le]; done)) Z0 sP zU ?_
 refine Tr.nil (at_n (Sat.seq (Sat.draw [(1, 0), (1, 1), (1, 2), (3, 3), (3, 4), (2, 5), (4, 6)] Mixed zK (Tr.loadAll J J J Y177 J Sz177 (by exact mem7) (by (simp [wdsV_length, ldd]; done)) ?_))))
 refine Tr.loadAll J J J Y177 J Sz177 Z1 (by (simp [wdsV_length, lc]; done)) ?_
 refine Tr.loadAll J J J Y177 J Sz177 Z0 (by (simp [wdsV_length, le]; done)) ?_
 refine Tr.callV J J J J Body197 (cce) (fun _ _ => trivial) (Tr.callV J J J J Body197 (cm) (fun _ _ => trivial) (Tr.alloc (cs := (intsV (List.replicate 10 0))) J Zr177 J ?_))
 intro n11 hn11 hf11
 refine Tr.storeAll J J J J (by exact wdsV_cell _) Sz177 (by (simp [wdsV_length, lm]; done)) Z0 sP zU ?_
 refine Tr.nil (at_n (Sat.seq (Sat.draw [(1, 0), (1, 1), (1, 3), (1, 4), (3, 2), (3, 5), (2, 6), (2, 7), (4, 8), (4, 9)] Mixed zK (Tr.loadAll J J J Y177 J Sz177 Z3 (by (simp [wdsV_length, lb]; done)) ?_))))
 refine Tr.loadAll J J J Y177 J Sz177 Z0 (by (simp [wdsV_length, lm]; done)) ?_
 refine Tr.loadAll J J J Y177 J Sz177 Z3 (by (simp [wdsV_length, lb]; done)) ?_
 refine Tr.loadAll J J J Y177 J Sz177 Z0 (by (simp [wdsV_length, lm]; done)) ?_
 refine Tr.callV J J J J Body231 (cf) (fun _ _ => trivial) (Tr.callV J J J J Body232 (cg) (fun _ _ => trivial) (Tr.alloc (cs := (intsV (List.replicate 10 0))) J Zr177 J ?_))
 intro n12 hn12 hf12
 refine Tr.alloc (cs := (intsV (List.replicate 10 0))) J Zr177 J ?_
 intro n13 hn13 hf13
 refine Tr.storeAll J J J J (by exact wdsV_cell _) Sz177 (by (simp [wdsV_length, lf]; done)) Z1 sP zV ?_
 refine Tr.storeAll J J J J (by exact wdsV_cell _) Sz177 (by (simp [wdsV_length, lg]; done)) Z0 sP zU ?_
 refine Tr.nil (at_n (Sat.seq (Sat.region (Tr.loadAll J J J Y177 J Sz177 Z4 (by (simp [wdsV_length, lc]; done)) ?_))))
 refine Tr.loadAll J J J Y177 J Sz177 Z3 (by (simp [wdsV_length, le]; done)) ?_
 refine Tr.callV J J J J Body232 (cbo) (fun _ _ => trivial) (Tr.alloc (cs := (intsV (List.replicate 10 0))) J Zr177 J ?_)
 intro n14 hn14 hf14
 refine Tr.storeAll J J J J (by exact wdsV_cell _) Sz177 (by (simp [wdsV_length, lboth]; done)) Z0 sP zU ?_
 refine Tr.nil (at_n (Sat.seq (Sat.draw [(0, 0), (1, 1), (0, 2), (1, 3), (0, 5), (1, 6), (0, 7), (1, 8), (1, 11), (3, 4), (3, 9), (3, 10), (3, 12), (2, 13), (4, 14)] Mixed zK (Tr.fld J J J Tryz.underlying180 J Sz177 dE _ J (Tr.loadN (wdsV _) J J J Y177 J Sz177 (by (repeat (first | exact List.mem_cons_self | refine List.mem_cons_of_mem _ ?_))) (far.row_fX (by exact hpo)) (far.rl_fX (by exact hpo)) ?_)))))
 refine Tr.fld J J J Tryz.underlying180 J Sz177 dE _ J (Tr.loadN (wdsV _) J J J Y177 J Sz177 (by (repeat (first | exact List.mem_cons_self | refine List.mem_cons_of_mem _ ?_))) (far.row_fY (by exact hpo)) (far.rl_fY (by exact hpo)) ?_)
 refine Tr.fld J J J Tryz.underlying180 J Sz177 dE _ J (Tr.loadN (wdsV _) J J J Y177 J Sz177 (by (repeat (first | exact List.mem_cons_self | refine List.mem_cons_of_mem _ ?_))) (far.row_fX (by exact hqo)) (far.rl_fX (by exact hqo)) ?_)
 refine Tr.fld J J J Tryz.underlying180 J Sz177 dE _ J (Tr.loadN (wdsV _) J J J Y177 J Sz177 (by (repeat (first | exact List.mem_cons_self | refine List.mem_cons_of_mem _ ?_))) (far.row_fY (by exact hqo)) (far.rl_fY (by exact hqo)) ?_)
 refine Tr.loadAll J J J Y177 J Sz177 Z0 (by (simp [wdsV_length, lboth]; done)) ?_
 refine Tr.callV J J J J Body232 (cpp) (fun _ _ => trivial) (Tr.callV J J J J Body232 (cqq) (fun _ _ => trivial) (Tr.callV J J J J Body197 (cpq) (fun _ _ => trivial) (Tr.callV J J J J Body231 (ccr) (fun _ _ => trivial) (Tr.alloc (cs := (intsV (List.replicate 10 0))) J Zr177 J ?_))))
 intro n15 hn15 hf15
 refine Tr.storeAll J J J J (by exact wdsV_cell _) Sz177 (by (simp [wdsV_length, lcr]; done)) Z0 sP zU ?_
 refine Tr.nil (at_n (Sat.seq (Sat.draw [(1, 0), (1, 1), (1, 2), (1, 5), (1, 6), (1, 7), (1, 10), (1, 11), (3, 3), (3, 4), (3, 8), (3, 9), (3, 12), (0, 13), (4, 14)] Mixed zK (Tr.loadAll J J J Y177 J Sz177 (by (repeat (first | exact List.mem_cons_self | refine List.mem_cons_of_mem _ ?_))) (by (simp [wdsV_length, la]; done)) ?_))))
 refine Tr.loadAll J J J Y177 J Sz177 Z3 (by (simp [wdsV_length, lf]; done)) ?_
 refine Tr.loadAll J J J Y177 J Sz177 Z0 (by (simp [wdsV_length, lcr]; done)) ?_
 refine Tr.loadAll J J J Y177 J Sz177 (by (repeat (first | exact List.mem_cons_self | refine List.mem_cons_of_mem _ ?_))) (by (simp [wdsV_length, la]; done)) ?_
 refine Tr.loadAll J J J Y177 J Sz177 Z2 (by (simp [wdsV_length, lg]; done)) ?_
 refine Tr.loadAll J J J Y177 J Sz177 Z1 (by (simp [wdsV_length, lboth]; done)) ?_
 refine Tr.loadAll J J J Y177 J Sz177 Z3 (by (simp [wdsV_length, lf]; done)) ?_
 refine Tr.loadAll J J J Y177 J Sz177 Z2 (by (simp [wdsV_length, lg]; done)) ?_
 refine Tr.callV J J J J Body197 (cfc) (fun _ _ => trivial) (Tr.callV J J J J Body197 (cX) (fun _ _ => trivial) (Tr.callV J J J J Body197 (cgb) (fun _ _ => trivial) (Tr.callV J J J J Body197 (cY) (fun _ _ => trivial) (Tr.callV J J J J Body197 (cZ) (fun _ _ => trivial) (Tr.build (cs := (⟨X, Y, Z⟩ : far).cells) J J J (fun w => by kernel_rfl) ?_)))))
 refine Tr.storeAll J J J J (far.isCell (by exact ⟨lX, lY, lZ⟩)) Sz180 (far.length (by exact ⟨lX, lY, lZ⟩)) (by (repeat (first | exact List.mem_cons_self | refine List.mem_cons_of_mem _ ?_))) (far.length (by exact far.zero_ok)) (by (repeat (first | exact upd0 | apply Upd.tail))) ?_
 refine Tr.nil (at_n (Sat.ret (en_r ?_)))
 refine ⟨_, [], res_cell J J Tryz.underlying180 J Sz180 (by (repeat (first | exact List.mem_cons_self | refine List.mem_cons_of_mem _ ?_))) (by exact far.length (by exact ⟨lX, lY, lZ⟩)), sP, sP, ?_, rfl⟩
 rfl

theorem r5_near (p : far) (P : Pt Fp) (hp : FarRep p P) : Meets Tryz.prog 193 [agg (p).cells] [] (fun _ => True) (fun v out => v = agg (ptc P).cells ∧ out = []) := by
 intro W hW
 have hpo := hp.fit.ok
 have hpt := cv.far_pt hp.rep
 have h1 := r3_Close_v p.fZ hp.fit.z _ rfl
 have h2 := r3_Close_v p.fX hp.fit.x _ rfl
 have h3 := r3_Close_v p.fY hp.fit.y _ rfl
 have hi := r_inv (fe (v10 p.fZ))
 have e : P = ⟨fe (v10 p.fX) * finv (fe (v10 p.fZ)), fe (v10 p.fY) * finv (fe (v10 p.fZ))⟩ := hpt.symm
 rw [e]
 clear e hpt
 revert h1 h2 h3 hi
 generalize finv (fe (v10 p.fZ)) = iz
 generalize fe (v10 p.fZ) = z
 generalize fe (v10 p.fX) = x
 generalize fe (v10 p.fY) = y
 intro h1 h2 h3 hi
 refine calls_of (hp0 := []) Tryz.func193 J 19 Tryz.ntmps193 J (HRep.nil _) (Sat.seq (Sat.region (Tr.boxA J J ?_)))
 intro n1 hn1 hf1
 refine Tr.alloc (cs := Point.zero.cells) J Point.zr J ?_
 intro n2 hn2 hf2
 refine Tr.nil (at_n (Sat.seq (Sat.region (Tr.fld J J J Tryz.underlying180 J Sz177 dE _ J (Tr.loadN (wdsV _) J J J Y177 J Sz177 Z1 (far.row_fZ (by exact hpo)) (far.rl_fZ (by exact hpo)) ?_)))))
 refine Tr.callV J J J J Body196 (h1) (fun _ _ => trivial) (Tr.callV J J J J Body124 (hi) (fun _ _ => trivial) (Tr.alloc (cs := (bytesV (List.replicate 32 0))) J Zr77 J ?_))
 intro n3 hn3 hf3
 refine Tr.storeAll J J J J zE Sz77 zF Z0 sP zU ?_
 refine Tr.nil (at_n (Sat.seq (Sat.draw [(0, 0), (1, 1), (1, 3), (0, 5), (1, 6), (1, 8), (3, 2), (3, 4), (3, 7), (3, 9), (0, 10), (4, 11)] Mixed zK (Tr.fld J J J Tryz.underlying180 J Sz177 dE _ J (Tr.loadN (wdsV _) J J J Y177 J Sz177 Z2 (far.row_fX (by exact hpo)) (far.rl_fX (by exact hpo)) ?_)))))
 refine Tr.loadAll J J J Y77 J Sz77 Z0 zF ?_
 refine Tr.fld J J J Tryz.underlying180 J Sz177 dE _ J (Tr.loadN (wdsV _) J J J Y177 J Sz177 Z2 (far.row_fY (by exact hpo)) (far.rl_fY (by exact hpo)) ?_)
 refine Tr.loadAll J J J Y77 J Sz77 Z0 zF ?_
 refine Tr.callV J J J J Body196 (h2) (fun _ _ => trivial) (Tr.callV J J J J Body122 (r_mul x iz) (fun _ _ => trivial) (Tr.callV J J J J Body196 (h3) (fun _ _ => trivial) (Tr.callV J J J J Body122 (r_mul y iz) (fun _ _ => trivial) (Tr.build (cs := (ptc (⟨x * iz, y * iz⟩ : Pt Fp)).cells) J J J (fun w => by kernel_rfl) ?_))))
 refine Tr.storeAll J J J J (Point.isCell zP) Sz79 (Point.length zP) Z1 (Point.length zZ) zV ?_
 refine Tr.nil (at_n (Sat.ret (en_r ?_)))
 refine ⟨_, [], res_cell J J Y79 J Sz79 Z1 (by exact Point.length zP), sP, sP, ?_, rfl⟩
 rfl

theorem r5_away (P : Pt Fp) : Meets Tryz.prog 190 [agg (ptc P).cells] [] (fun _ => True) (fun v out => v = agg (awT P).cells ∧ out = []) := by
 intro W hW
 have h1 := r3_Open (fb P.x) (fb_length _)
 have h2 := r3_Open (fb P.y) (fb_length _)
 have h3 := r3_Open (fb 1) (fb_length _)
 have lX := openT_length (le (fb P.x))
 have lY := openT_length (le (fb P.y))
 have lZ := openT_length (le (fb 1))
 unfold awT
 revert h1 h2 h3 lX lY lZ
 generalize openT (le (fb P.x)) = X
 generalize openT (le (fb P.y)) = Y
 generalize openT (le (fb 1)) = Z
 intro h1 h2 h3 lX lY lZ
 refine calls_of (hp0 := []) Tryz.func190 J 12 Tryz.ntmps190 J (HRep.nil _) (Sat.seq (Sat.region (Tr.boxA J J ?_)))
 intro n1 hn1 hf1
 refine Tr.alloc (cs := far.zero.cells) J far.zr J ?_
 intro n2 hn2 hf2
 refine Tr.nil (at_n (Sat.seq (Sat.draw [(0, 0), (1, 1), (0, 3), (1, 4), (3, 2), (3, 5), (3, 6), (3, 7), (0, 8), (4, 9)] Mixed zK (Tr.fld J J J Y79 J Sz77 dE _ J (Tr.loadN (bytesV _) J J J Y77 J Sz77 Z1 (Point.row_fX zP) (Point.rl_fX zP) ?_)))))
 refine Tr.fld J J J Y79 J Sz77 dE _ J (Tr.loadN (bytesV _) J J J Y77 J Sz77 Z1 (Point.row_fY zP) (Point.rl_fY zP) ?_)
 refine Tr.callV J J J J Body188 (h1) (fun _ _ => trivial) (Tr.callV J J J J Body188 (h2) (fun _ _ => trivial) (Tr.callV J J J J Body123 (r_one) (fun _ _ => trivial) (Tr.callV J J J J Body188 (h3) (fun _ _ => trivial) (Tr.build (cs := (⟨X, Y, Z⟩ : far).cells) J J J (fun w => by kernel_rfl) ?_))))
 refine Tr.storeAll J J J J (far.isCell (by exact ⟨lX, lY, lZ⟩)) Sz180 (far.length (by exact ⟨lX, lY, lZ⟩)) Z0 (far.length (by exact far.zero_ok)) zU ?_
 refine Tr.nil (at_n (Sat.ret (en_r ?_)))
 refine ⟨_, [], res_cell J J Tryz.underlying180 J Sz180 Z0 (by exact far.length (by exact ⟨lX, lY, lZ⟩)), sP, sP, ?_, rfl⟩
 rfl

theorem r5_Neg (P : Pt Fp) (hP : cv.on P) : Meets Tryz.prog 116 [agg (ptc P).cells] [] (fun _ => True) (fun v out => v = agg (ptc (neg P)).cells ∧ out = []) := by
 intro W hW
 refine calls_of (hp0 := []) Tryz.func116 J 13 Tryz.ntmps116 J (HRep.nil _) (Sat.seq (Sat.region (Tr.boxA J J ?_)))
 intro n1 hn1 hf1
 refine Tr.alloc (cs := Point.zero.cells) J Point.zr J ?_
 intro n2 hn2 hf2
 refine Tr.nil (at_n (Sat.seq (Sat.seq (Sat.region (Tr.loadAll J J J Y79 J Sz79 Z1 (Point.length zP) ?_)))))
 refine Tr.callV J J J J Body118 (r5_Check P hP) (fun _ _ => trivial) (Tr.nei J J J J (show (!decide _) = false from congrArg not (decide_eq_true (rfl))) (Tr.nil (at_n (Sat.cond_f J (rfl) (Sat.skip (at_n (Sat.seq (Sat.draw [(0, 0), (1, 1), (0, 3), (1, 4), (3, 2), (0, 5), (4, 6)] Mixed zK (Tr.fld J J J Y79 J Sz77 dE _ J (Tr.loadN (bytesV _) J J J Y77 J Sz77 Z1 (Point.row_fX zP) (Point.rl_fX zP) ?_))))))))))
 refine Tr.fld J J J Y79 J Sz77 dE _ J (Tr.loadN (bytesV _) J J J Y77 J Sz77 Z1 (Point.row_fY zP) (Point.rl_fY zP) ?_)
 refine Tr.callV J J J J Body185 (r_neg P.x) (fun _ _ => trivial) (Tr.build (cs := (ptc (neg P)).cells) J J J (fun w => by kernel_rfl) ?_)
 refine Tr.storeAll J J J J (Point.isCell zP) Sz79 (Point.length zP) Z0 (Point.length zZ) zU ?_
 refine Tr.nil (at_n (Sat.ret (en_r ?_)))
 refine ⟨_, [], res_cell J J Y79 J Sz79 Z0 (by exact Point.length zP), sP, sP, ?_, rfl⟩
 rfl

end Go.Proofs.YtpacobmjjjillaaGreat
end

section
namespace Go.Proofs.YtpacobmjjjillaaGreat
open Go Hw
set_option linter.unusedVariables false
set_option linter.unusedSimpArgs false

open Ed

theorem byte_low : ∀ b : UInt8, UInt8.ofNat (b.toNat % 128) = b &&& 127 ∧ ((128 ≤ b.toNat) ↔ ¬ ((b &&& 128).toNat : Int) = 0) := by
  intro b
  have h : ∀ n, n < 256 → UInt8.ofNat ((UInt8.ofNat n).toNat % 128) = UInt8.ofNat n &&& 127 ∧ ((128 ≤ (UInt8.ofNat n).toNat) ↔ ¬ ((UInt8.ofNat n &&& 128).toNat : Int) = 0) := by decide
  have h2 := h b.toNat b.toNat_lt
  rwa [UInt8.ofNat_toNat] at h2
theorem byte_plus : ∀ b : UInt8, b.toNat < 128 → b + 128 = b ||| 128 := by
  intro b hb
  have h : ∀ n, n < 128 → UInt8.ofNat n + 128 = UInt8.ofNat n ||| 128 := by decide
  have h2 := h b.toNat hb
  rwa [UInt8.ofNat_toNat] at h2
theorem top_t5 {b : List UInt8} (h : (128 : Int) ≤ ((b.getD 31 0).toNat : Int)) : topB b = true := by
  have h1 := (byte_low (b.getD 31 0)).2.1 oM
  rw [topB, decide_eq_false h1]; rfl
theorem top_f5 {b : List UInt8} (h : ¬ (128 : Int) ≤ ((b.getD 31 0).toNat : Int)) : topB b = false := by
  have h1 : ((b.getD 31 0 &&& 128).toNat : Int) = 0 := by
    by_cases e : ((b.getD 31 0 &&& 128).toNat : Int) = 0
    · exact e
    · exact absurd ((byte_low (b.getD 31 0)).2.2 e) oM
  rw [topB, decide_eq_true h1]; rfl

theorem r5_Read (b : List UInt8) (hb : b.length = 32) : Meets Tryz.prog 112 [agg (bytesV b)] [] (fun _ => True) (fun v out => v = rdV b ∧ out = []) := by
 intro W hW
 have hll := lowB_length hb
 obtain ⟨Y, hY⟩ : ∃ Y, fe (le (lowB b)) = Y := ⟨_, rfl⟩
 have hcan := r3_Canon (lowB b) hll
 have hroot := r5_root Y
 obtain ⟨xr, hxo⟩ : ∃ xr, xOf Y = xr := ⟨_, rfl⟩
 rw [hxo] at hroot
 rw [← hY] at hxo
 rw [hY] at hcan
 refine calls_of (hp0 := []) Tryz.func112 J 42 Tryz.ntmps112 J (HRep.nil _) (Sat.seq (Sat.region (Tr.boxA J J ?_)))
 intro n1 hn1 hf1
 refine Tr.alloc (cs := Point.zero.cells) J Point.zr J ?_
 intro n2 hn2 hf2
 refine Tr.assign J J J (Tr.nil (at_n (Sat.seq (Sat.region (Tr.loadAll J J J Y23 J Sz23 Z1 (by (simp [hb]; done)) ?_)))))
 refine Tr.alloc (cs := (bytesV (List.replicate 32 0))) J Zr77 J ?_
 intro n4 hn4 hf4
 refine Tr.storeAll J J J J zE Sz77 (by (simp [hb]; done)) Z0 sP zU ?_
 refine Tr.nil (at_n (Sat.seq (Sat.region (Tr.idxArr1 J J J J Y77 Sz5 31 J dE (Tr.load1 J J J Y5 J Z0 zG ?_)))))
 refine two (fun r hr k => Tr.geq J J J J hr k) (fun hs2_20 => ?_) (fun hs2_20 => ?_)
 ·
  have hs2_2 := of_decide_eq_true hs2_20
  refine Tr.assign J J J (Tr.nil (at_n (Sat.seq (Sat.region (Tr.idxArr1 J J J J Y77 Sz5 31 J dE (Tr.load1 J J J Y5 J Z0 zG ?_))))))
  refine Tr.rem_u8 J J J J 128 J dE (Tr.idxArr1 J J J J Y77 Sz5 31 J dE ?_)
  rw [(byte_low _).1]
  refine Tr.store1 J J J J J Sz5 Z0 (by (simp [hb]; done)) (by exact set_bytes _ _ _) zU ?_
  refine Tr.nil (at_n (Sat.seq (Sat.seq (Sat.region (Tr.loadAll J J J Y77 J Sz77 Z0 (by (simp [hb]; done)) ?_)))))
  refine Tr.callV J J J J Body184 (hcan) (fun _ _ => trivial) (Tr.not J J J (Tr.nil (at_n (Sat.cond J (fun hc0 => ?_) (fun hc0 => ?_)))))
  ·
   have hcn : ¬ fb Y = lowB b := of_decide_eq_false (by simpa using hc0)
   refine Sat.seq (Sat.region (Tr.build (cs := Point.zero.cells) J J J (fun w => by kernel_rfl) ?_))
   refine Tr.storeAll J J J J (Point.isCell zZ) Sz79 (Point.length zZ) Z1 (Point.length zZ) zV ?_
   refine Tr.assign J J J (Tr.nil (at_n (Sat.ret (at_r (en_r ?_)))))
   refine ⟨_, [], res_cell_tmp J J J Y79 J Sz79 Z1 (by exact Point.length zZ), sP, sP, ?_, rfl⟩
   exact (rdV_none (rd_n1 (by rw [hY]; exact hcn))).symm
  ·
   have hcy : fb Y = lowB b := of_decide_eq_true (by simpa using hc0)
   rw [show b.set 31 (b.getD 31 0 &&& 127) = fb Y from hcy.symm]
   refine Sat.skip (at_n (Sat.seq (Sat.region (Tr.loadAll J J J Y77 J Sz77 Z0 zF ?_))))
   refine Tr.callV J J J J Body125 (hroot) (fun _ _ => trivial) (Tr.move J J J (Tr.extract J J J J (Tr.extractB J J J J (fun hs6_40 => ?_) (fun hs6_40 => ?_))))
   ·
    have hs6_4 := hs6_40
    refine Tr.alloc (cs := (bytesV (List.replicate 32 0))) J Zr77 J ?_
    intro n6 hn6 hf6
    refine Tr.storeAll J J J J zE Sz77 zF Z0 sP zU ?_
    refine Tr.assign J J J (Tr.nil (at_n (Sat.seq (Sat.seq (Sat.region (Tr.move J J J (Tr.not J J J (Tr.move J J J (Tr.move J J J (Tr.move J J J (Tr.loadAll J J J Y77 J Sz77 Z0 zF ?_)))))))))))
    refine Tr.build (cs := bytesV (List.replicate 32 0)) J J J (fun w => by kernel_rfl) ?_
    refine two (fun r hr k => Tr.eql_bytes J J J J Tryz.eqGuardType77 Y77 Y5 Sz5 zF sP hr k) (fun hs7_70 => ?_) (fun hs7_70 => ?_)
    ·
     have hs7_7 := of_decide_eq_true hs7_70
     refine Tr.pick J J J J J J (Tr.pick J J J J J J (Tr.nil (at_n (Sat.cond_t J J (Sat.seq (Sat.region (Tr.build (cs := Point.zero.cells) J J J (fun w => by kernel_rfl) ?_)))))))
     refine Tr.storeAll J J J J (Point.isCell zZ) Sz79 (Point.length zZ) Z2 (Point.length zZ) (by exact upd2) ?_
     refine Tr.assign J J J (Tr.nil (at_n (Sat.ret (at_r (en_r ?_)))))
     refine ⟨_, [], res_cell_tmp J J J Y79 J Sz79 Z2 (by exact Point.length zZ), sP, sP, ?_, rfl⟩
     exact (rdV_none (rd_n3 hxo (top_t5 hs2_2) hs7_7)).symm
    ·
     have hs7_7 := of_decide_eq_false hs7_70
     refine Tr.pick J J J J J J (Tr.pick J J J J J J (Tr.nil (at_n (Sat.cond_f J J (Sat.skip (at_n (Sat.seq (Sat.seq (Sat.region (Tr.move J J J (Tr.nil (at_n (Sat.cond_t J J (Sat.region (Tr.loadAll J J J Y77 J Sz77 Z0 zF ?_)))))))))))))))
     refine Tr.callV J J J J Body185 (r_neg xr.1) (fun _ _ => trivial) (Tr.storeAll J J J J zE Sz77 zF Z0 zF zU ?_)
     refine Tr.nil (at_n (Sat.seq (Sat.region (Tr.loadAll J J J Y77 J Sz77 Z0 zF ?_))))
     refine Tr.loadAll J J J Y77 J Sz77 Z1 zF ?_
     refine Tr.build (cs := (⟨fb (-xr.1), fb Y⟩ : Point).cells) J J J (fun w => by kernel_rfl) ?_
     refine Tr.storeAll J J J J (Point.isCell (by exact ⟨fb32 _, fb32 _⟩)) Sz79 (Point.length (by exact ⟨fb32 _, fb32 _⟩)) Z2 (Point.length zZ) (by exact upd2) ?_
     refine Tr.assign J J J (Tr.nil (at_n (Sat.ret (en_r ?_))))
     refine ⟨_, [], res_cell_tmp J J J Y79 J Sz79 Z2 (by exact Point.length (by exact ⟨fb32 _, fb32 _⟩)), sP, sP, ?_, rfl⟩
     (rw [rdV_some (rd_s1 (by rw [hY]; exact hcy) hxo hs6_4 (top_t5 hs2_2) hs7_7), hY]; rfl)
   ·
    have hs6_4 := hs6_40
    refine Tr.alloc (cs := (bytesV (List.replicate 32 0))) J Zr77 J ?_
    intro n6 hn6 hf6
    refine Tr.storeAll J J J J zE Sz77 zF Z0 sP zU ?_
    refine Tr.assign J J J (Tr.nil (at_n (Sat.seq (Sat.seq (Sat.region (Tr.move J J J (Tr.not J J J (Tr.move J J J (Tr.skp J J (Tr.skp J J (Tr.skp J J (Tr.skp J J (Tr.skp J J (Tr.skp J J (Tr.pick J J J J J J (Tr.nil (at_n (Sat.cond_t J J (Sat.seq (Sat.region (Tr.build (cs := Point.zero.cells) J J J (fun w => by kernel_rfl) ?_)))))))))))))))))))))
    refine Tr.storeAll J J J J (Point.isCell zZ) Sz79 (Point.length zZ) Z2 (Point.length zZ) (by exact upd2) ?_
    refine Tr.assign J J J (Tr.nil (at_n (Sat.ret (at_r (en_r ?_)))))
    refine ⟨_, [], res_cell_tmp J J J Y79 J Sz79 Z2 (by exact Point.length zZ), sP, sP, ?_, rfl⟩
    exact (rdV_none (rd_n2 hxo hs6_4)).symm
 ·
  have hs2_2 := of_decide_eq_false hs2_20
  refine Tr.assign J J J (Tr.nil (at_n (Sat.seq (Sat.region (Tr.idxArr1 J J J J Y77 Sz5 31 J dE (Tr.load1 J J J Y5 J Z0 zG ?_))))))
  refine Tr.rem_u8 J J J J 128 J dE (Tr.idxArr1 J J J J Y77 Sz5 31 J dE ?_)
  rw [(byte_low _).1]
  refine Tr.store1 J J J J J Sz5 Z0 (by (simp [hb]; done)) (by exact set_bytes _ _ _) zU ?_
  refine Tr.nil (at_n (Sat.seq (Sat.seq (Sat.region (Tr.loadAll J J J Y77 J Sz77 Z0 (by (simp [hb]; done)) ?_)))))
  refine Tr.callV J J J J Body184 (hcan) (fun _ _ => trivial) (Tr.not J J J (Tr.nil (at_n (Sat.cond J (fun hc0 => ?_) (fun hc0 => ?_)))))
  ·
   have hcn : ¬ fb Y = lowB b := of_decide_eq_false (by simpa using hc0)
   refine Sat.seq (Sat.region (Tr.build (cs := Point.zero.cells) J J J (fun w => by kernel_rfl) ?_))
   refine Tr.storeAll J J J J (Point.isCell zZ) Sz79 (Point.length zZ) Z1 (Point.length zZ) zV ?_
   refine Tr.assign J J J (Tr.nil (at_n (Sat.ret (at_r (en_r ?_)))))
   refine ⟨_, [], res_cell_tmp J J J Y79 J Sz79 Z1 (by exact Point.length zZ), sP, sP, ?_, rfl⟩
   exact (rdV_none (rd_n1 (by rw [hY]; exact hcn))).symm
  ·
   have hcy : fb Y = lowB b := of_decide_eq_true (by simpa using hc0)
   rw [show b.set 31 (b.getD 31 0 &&& 127) = fb Y from hcy.symm]
   refine Sat.skip (at_n (Sat.seq (Sat.region (Tr.loadAll J J J Y77 J Sz77 Z0 zF ?_))))
   refine Tr.callV J J J J Body125 (hroot) (fun _ _ => trivial) (Tr.move J J J (Tr.extract J J J J (Tr.extractB J J J J (fun hs6_40 => ?_) (fun hs6_40 => ?_))))
   ·
    have hs6_4 := hs6_40
    refine Tr.alloc (cs := (bytesV (List.replicate 32 0))) J Zr77 J ?_
    intro n6 hn6 hf6
    refine Tr.storeAll J J J J zE Sz77 zF Z0 sP zU ?_
    refine Tr.assign J J J (Tr.nil (at_n (Sat.seq (Sat.seq (Sat.region (Tr.move J J J (Tr.not J J J (Tr.move J J J (Tr.move J J J (Tr.move J J J (Tr.skp J J (Tr.skp J J (Tr.skp J J (Tr.pick J J J J J J (Tr.pick J J J J J J (Tr.nil (at_n (Sat.cond_f J J (Sat.skip (at_n (Sat.seq (Sat.seq (Sat.region (Tr.move J J J (Tr.nil (at_n (Sat.cond_f J J (Sat.skip (at_n (Sat.seq (Sat.region (Tr.loadAll J J J Y77 J Sz77 Z0 zF ?_))))))))))))))))))))))))))))))))
    refine Tr.loadAll J J J Y77 J Sz77 Z1 zF ?_
    refine Tr.build (cs := (⟨fb xr.1, fb Y⟩ : Point).cells) J J J (fun w => by kernel_rfl) ?_
    refine Tr.storeAll J J J J (Point.isCell (by exact ⟨fb32 _, fb32 _⟩)) Sz79 (Point.length (by exact ⟨fb32 _, fb32 _⟩)) Z2 (Point.length zZ) (by exact upd2) ?_
    refine Tr.assign J J J (Tr.nil (at_n (Sat.ret (en_r ?_))))
    refine ⟨_, [], res_cell_tmp J J J Y79 J Sz79 Z2 (by exact Point.length (by exact ⟨fb32 _, fb32 _⟩)), sP, sP, ?_, rfl⟩
    (rw [rdV_some (rd_s2 (by rw [hY]; exact hcy) hxo hs6_4 (top_f5 hs2_2)), hY]; rfl)
   ·
    have hs6_4 := hs6_40
    refine Tr.alloc (cs := (bytesV (List.replicate 32 0))) J Zr77 J ?_
    intro n6 hn6 hf6
    refine Tr.storeAll J J J J zE Sz77 zF Z0 sP zU ?_
    refine Tr.assign J J J (Tr.nil (at_n (Sat.seq (Sat.seq (Sat.region (Tr.move J J J (Tr.not J J J (Tr.move J J J (Tr.skp J J (Tr.skp J J (Tr.skp J J (Tr.skp J J (Tr.skp J J (Tr.skp J J (Tr.pick J J J J J J (Tr.nil (at_n (Sat.cond_t J J (Sat.seq (Sat.region (Tr.build (cs := Point.zero.cells) J J J (fun w => by kernel_rfl) ?_)))))))))))))))))))))
    refine Tr.storeAll J J J J (Point.isCell zZ) Sz79 (Point.length zZ) Z2 (Point.length zZ) (by exact upd2) ?_
    refine Tr.assign J J J (Tr.nil (at_n (Sat.ret (at_r (en_r ?_)))))
    refine ⟨_, [], res_cell_tmp J J J Y79 J Sz79 Z2 (by exact Point.length zZ), sP, sP, ?_, rfl⟩
    exact (rdV_none (rd_n2 hxo hs6_4)).symm

end Go.Proofs.YtpacobmjjjillaaGreat
end

section
namespace Go.Proofs.YtpacobmjjjillaaGreat
open Go Hw
set_option linter.unusedVariables false
set_option linter.unusedSimpArgs false

open Ed

theorem lin_d {a b j : Nat} (hj : j < 256) : a / 2 ^ (256 - (j + 1)) = 2 * (a / 2 ^ (256 - j)) + a / 2 ^ (255 - j) % 2 := next_div a j hj
theorem frep_dbl {d : List Nat} {p : far} {P Q : Pt Fp} (hd : Fit10 d) (hdv : fe (v10 d) = fD) (hP : cv.on P) (hQ : cv.on Q) {A B : Nat} (h : FarRep p (cv.lin A B P Q)) : FarRep (frT d p p) (cv.lin (2 * A) (2 * B) P Q) := by
  rw [cv.lin_two hP hQ]
  exact FarRep.add hd hdv h h (cv.on_lin hP hQ _ _) (cv.on_lin hP hQ _ _)
theorem frep_l {d : List Nat} {p x : far} {P Q : Pt Fp} (hd : Fit10 d) (hdv : fe (v10 d) = fD) (hP : cv.on P) (hQ : cv.on Q) {A B t : Nat} (h : FarRep p (cv.lin A B P Q)) (hx : FarRep x P) (ht : t = 1) : FarRep (frT d p x) (cv.lin (A + t) B P Q) := by
  rw [ht, cv.lin_left hP hQ]
  exact FarRep.add hd hdv h hx (cv.on_lin hP hQ _ _) hP
theorem frep_r {d : List Nat} {p x : far} {P Q : Pt Fp} (hd : Fit10 d) (hdv : fe (v10 d) = fD) (hP : cv.on P) (hQ : cv.on Q) {A B t : Nat} (h : FarRep p (cv.lin A B P Q)) (hx : FarRep x Q) (ht : t = 1) : FarRep (frT d p x) (cv.lin A (B + t) P Q) := by
  rw [ht, cv.lin_right hP hQ]
  exact FarRep.add hd hdv h hx (cv.on_lin hP hQ _ _) hQ
theorem frep_first (a b : List UInt8) (ha : a.length = 32) (hb : b.length = 32) (P Q : Pt Fp) : FarRep (awT (zero : Pt Fp)) (cv.lin (le a / 2 ^ (256 - 0)) (le b / 2 ^ (256 - 0)) P Q) := by
  have h1 := le32 ha
  have h2 := le32 hb
  rw [show 256 - 0 = 256 from rfl, Nat.div_eq_of_lt h1, Nat.div_eq_of_lt h2, cv.lin_zero]
  exact awT_rep zero
theorem bit_one {E j : Nat} (h : E.testBit j = true) : E / 2 ^ j % 2 = 1 := by have := test_div E j true h; rwa [if_pos rfl] at this
theorem bit_nil {E j : Nat} (h : E.testBit j = false) : E / 2 ^ j % 2 = 0 := by have := test_div E j false h; rwa [if_neg dE] at this

theorem r5_Mul2 (a b : List UInt8) (P Q : Pt Fp) (ha : a.length = 32) (hb : b.length = 32) (hP : cv.on P) (hQ : cv.on Q) : Meets Tryz.prog 114 [agg (bytesV a), agg (ptc P).cells, agg (bytesV b), agg (ptc Q).cells] [] (fun _ => True) (fun v out => v = agg (ptc (cv.lin (le a) (le b) P Q)).cells ∧ out = []) := by
 intro W hW
 have hDf := dT_fit
 have hDv := dT_v
 have hod := r5_openD
 revert hDf hDv hod
 generalize dT = D
 intro hDf hDv hod
 have hDl := hDf.len
 have hAP := awT_rep P
 have hAQ := awT_rep Q
 have hAZ := frep_first a b ha hb P Q
 have cP := r5_away P
 have cQ := r5_away Q
 have cZ := r5_away (zero : Pt Fp)
 revert hAP hAQ hAZ cP cQ cZ
 generalize awT P = AP
 generalize awT Q = AQ
 generalize awT (zero : Pt Fp) = AZ
 intro hAP hAQ hAZ cP cQ cZ
 have hAPo := hAP.fit.ok
 have hAQo := hAQ.fit.ok
 have hAZo := hAZ.fit.ok
 have huo : True := trivial
 have hwo : True := trivial
 have hxo : True := trivial
 refine calls_of (hp0 := []) Tryz.func114 J 55 Tryz.ntmps114 J (HRep.nil _) (Sat.seq (Sat.region (Tr.boxA J J ?_)))
 intro n4 hn4 hf4
 refine Tr.boxA J J ?_
 intro n5 hn5 hf5
 refine Tr.boxA J J ?_
 intro n6 hn6 hf6
 refine Tr.boxA J J ?_
 intro n7 hn7 hf7
 refine Tr.alloc (cs := Point.zero.cells) J Point.zr J ?_
 intro n8 hn8 hf8
 refine Tr.nil (at_n (Sat.seq (Sat.seq (Sat.region (Tr.loadAll J J J Y79 J Sz79 Z3 (Point.length zP) ?_)))))
 refine Tr.callV J J J J Body118 (r5_Check P hP) (fun _ _ => trivial) (Tr.nei J J J J (show (!decide _) = false from congrArg not (decide_eq_true (rfl))) (Tr.move J J J (Tr.loadAll J J J Y79 J Sz79 Z1 (Point.length zP) ?_)))
 refine Tr.callV J J J J Body118 (r5_Check Q hQ) (fun _ _ => trivial) (Tr.nei J J J J (show (!decide _) = false from congrArg not (decide_eq_true (rfl))) (Tr.pick J J J J J J (Tr.nil (at_n (Sat.cond_f J J (Sat.skip (at_n (Sat.seq (Sat.draw [(1, 4), (1, 6), (3, 0), (3, 1), (3, 2), (3, 3), (3, 5), (3, 7), (2, 8), (2, 9), (2, 10), (2, 11), (4, 12), (4, 13), (4, 14), (4, 15)] Mixed zK (Tr.loadAll J J J Y79 J Sz79 Z3 (Point.length zP) ?_))))))))))
 refine Tr.loadAll J J J Y79 J Sz79 Z1 (Point.length zP) ?_
 refine Tr.callV J J J J Body189 (r5_D) (fun _ _ => trivial) (Tr.callV J J J J Body188 (hod) (fun _ _ => trivial) (Tr.callV J J J J Body120 (r5_Zero) (fun _ _ => trivial) (Tr.callV J J J J Body190 (cZ) (fun _ _ => trivial) (Tr.callV J J J J Body190 (cP) (fun _ _ => trivial) (Tr.callV J J J J Body190 (cQ) (fun _ _ => trivial) (Tr.alloc (cs := (intsV (List.replicate 10 0))) J Zr177 J ?_))))))
 intro n9 hn9 hf9
 refine Tr.alloc (cs := far.zero.cells) J far.zr J ?_
 intro n10 hn10 hf10
 refine Tr.alloc (cs := far.zero.cells) J far.zr J ?_
 intro n11 hn11 hf11
 refine Tr.alloc (cs := far.zero.cells) J far.zr J ?_
 intro n12 hn12 hf12
 refine Tr.storeAll J J J J (by exact wdsV_cell _) Sz177 (by (simp [wdsV_length, hDl]; done)) Z3 sP (by exact upd3) ?_
 refine Tr.storeAll J J J J (far.isCell (by exact hAZo)) Sz180 (far.length (by exact hAZo)) Z2 (far.length (by exact far.zero_ok)) (by exact upd2) ?_
 refine Tr.storeAll J J J J (far.isCell (by exact hAPo)) Sz180 (far.length (by exact hAPo)) Z1 (far.length (by exact far.zero_ok)) zV ?_
 refine Tr.storeAll J J J J (far.isCell (by exact hAQo)) Sz180 (far.length (by exact hAQo)) Z0 (far.length (by exact far.zero_ok)) zU ?_
 refine Tr.nil (at_n (Sat.seq (Sat.seq (Sat.region (Tr.assign J J J (Tr.nil (at_n (Sat.block (Sat.loop (ι := Nat × far) (fun p => ⟨[(4, ptr n4 0), (6, ptr n6 0), (8, ptr n8 0), (9, ptr n9 0), (10, ptr n10 0), (11, ptr n11 0), (12, ptr n12 0), (13, i64 (255 - (p.1 : Int)))], [⟨n12, (AQ).cells, 180, 30⟩, ⟨n11, (AP).cells, 180, 30⟩, ⟨n10, (p.2).cells, 180, 30⟩, ⟨n9, wdsV D, 177, 10⟩, ⟨n8, Point.zero.cells, 79, 64⟩, ⟨n6, bytesV b, 77, (bytesV b).length⟩, ⟨n4, bytesV a, 77, (bytesV a).length⟩]⟩) (fun p => p.1 ≤ 256 ∧ FarRep p.2 (cv.lin (le a / 2 ^ (256 - p.1)) (le b / 2 ^ (256 - p.1)) P Q)) (fun p => 256 - p.1) ((0, AZ)) ?_ ?_ ?_)))))))))
 · exact ⟨Nat.zero_le _, hAZ⟩
 · exact weak_of (wk1 rfl (wk1 rfl (wk1 rfl (wk1 rfl (wk1 rfl (wk1 rfl (wk1 rfl (wk1 rfl wk0)))))))) (wh1 Z0 (wh1 Z1 (wh1 Z2 (wh1 Z3 (wh1 Z4 (wh1 (by exact mem6) (wh1 (by (repeat (first | exact List.mem_cons_self | refine List.mem_cons_of_mem _ ?_))) wh0))))))) nD
 ·
  rintro p ⟨hj1, hw⟩
  have hwo := hw.fit.ok
  refine Sat.seq (Sat.seq (Sat.region (Tr.move J J J (Tr.geq J J J J J (Tr.nil (at_n (Sat.condP J (fun hc1 => ?_) (fun hc1 => ?_))))))))
  ·
   have hj3 : p.1 < 256 := by omega
   have hu := frep_dbl hDf hDv hP hQ hw
   have cd := r5_plus D p.2 p.2 hDf hw.fit hw.fit
   revert hu cd
   generalize frT D p.2 p.2 = F1
   intro hu cd
   have huo := hu.fit.ok
   rw [show (255 : Int) - (p.1 : Int) = ((255 - p.1 : Nat) : Int) by omega]
   refine Sat.skip (at_n (Sat.join (ι := far) (fun y => ⟨[(4, ptr n4 0), (6, ptr n6 0), (8, ptr n8 0), (9, ptr n9 0), (10, ptr n10 0), (11, ptr n11 0), (12, ptr n12 0), (13, i64 (((255 - p.1 : Nat) : Int)))], [⟨n12, (AQ).cells, 180, 30⟩, ⟨n11, (AP).cells, 180, 30⟩, ⟨n10, (y).cells, 180, 30⟩, ⟨n9, wdsV D, 177, 10⟩, ⟨n8, Point.zero.cells, 79, 64⟩, ⟨n6, bytesV b, 77, (bytesV b).length⟩, ⟨n4, bytesV a, 77, (bytesV a).length⟩]⟩) (fun y => FarRep y (cv.lin (le a / 2 ^ (256 - (p.1 + 1))) (le b / 2 ^ (256 - (p.1 + 1))) P Q)) ?_ ?_))
   ·
    refine Sat.block (Sat.seq (Sat.region (Tr.loadAll J J J Y177 J Sz177 Z3 (by (simp [wdsV_length, hDl]; done)) ?_)))
    refine Tr.loadAll J J J Tryz.underlying180 J Sz180 Z2 (far.length (by exact hwo)) ?_
    refine Tr.loadAll J J J Tryz.underlying180 J Sz180 Z2 (far.length (by exact hwo)) ?_
    refine Tr.callV J J J J Body191 (cd) (fun _ _ => trivial) (Tr.storeAll J J J J (far.isCell (by exact huo)) Sz180 (far.length (by exact huo)) Z2 (far.length (by exact hwo)) (by exact upd2) ?_)
    refine Tr.nil (at_n (Sat.join (ι := far) (fun x => ⟨[(4, ptr n4 0), (6, ptr n6 0), (8, ptr n8 0), (9, ptr n9 0), (10, ptr n10 0), (11, ptr n11 0), (12, ptr n12 0), (13, i64 (((255 - p.1 : Nat) : Int)))], [⟨n12, (AQ).cells, 180, 30⟩, ⟨n11, (AP).cells, 180, 30⟩, ⟨n10, (x).cells, 180, 30⟩, ⟨n9, wdsV D, 177, 10⟩, ⟨n8, Point.zero.cells, 79, 64⟩, ⟨n6, bytesV b, 77, (bytesV b).length⟩, ⟨n4, bytesV a, 77, (bytesV a).length⟩]⟩) (fun x => FarRep x (cv.lin (2 * (le a / 2 ^ (256 - p.1)) + le a / 2 ^ (255 - p.1) % 2) (2 * (le b / 2 ^ (256 - p.1))) P Q)) ?_ ?_))
    ·
     refine Sat.seq (Sat.region (Tr.loadAll J J J Y77 J Sz77 (by exact mem6) (by (simp [ha]; done)) ?_))
     refine Tr.move J J J (Tr.callV J J J J Body192 (ref_bit_at a ha (255 - p.1) oM) (fun _ _ => trivial) (Tr.nil (at_n (Sat.cond J (fun hc2 => ?_) (fun hc2 => ?_)))))
     ·
      have ca := r5_plus D F1 AP hDf hu.fit hAP.fit
      have hul := frep_l hDf hDv hP hQ hu hAP (bit_one hc2)
      revert ca hul
      generalize frT D F1 AP = F2
      intro ca hul
      have hulo := hul.fit.ok
      refine Sat.region (Tr.loadAll J J J Y177 J Sz177 Z3 (by (simp [wdsV_length, hDl]; done)) ?_)
      refine Tr.loadAll J J J Tryz.underlying180 J Sz180 Z2 (far.length (by exact huo)) ?_
      refine Tr.loadAll J J J Tryz.underlying180 J Sz180 Z1 (far.length (by exact hAPo)) ?_
      refine Tr.callV J J J J Body191 (ca) (fun _ _ => trivial) (Tr.storeAll J J J J (far.isCell (by exact hulo)) Sz180 (far.length (by exact hulo)) Z2 (far.length (by exact huo)) (by exact upd2) ?_)
      refine Tr.nil (at_n ?_)
      exact ⟨F2, hul, weak_of (wk1 rfl (wk1 rfl (wk1 rfl (wk1 rfl (wk1 rfl (wk1 rfl (wk1 rfl (wk1 rfl wk0)))))))) (wh1 Z0 (wh1 Z1 (wh1 Z2 (wh1 Z3 (wh1 Z4 (wh1 (by exact mem5) (wh1 (by exact mem6) wh0))))))) nD⟩
     ·
      refine Sat.skip (at_n ?_)
      exact ⟨F1, (by rw [bit_nil hc2, Nat.add_zero]; exact hu), weak_of (wk1 rfl (wk1 rfl (wk1 rfl (wk1 rfl (wk1 rfl (wk1 rfl (wk1 rfl (wk1 rfl wk0)))))))) (wh1 Z0 (wh1 Z1 (wh1 Z2 (wh1 Z3 (wh1 Z4 (wh1 (by exact mem5) (wh1 (by exact mem6) wh0))))))) nD⟩
    ·
     intro x hj
     have hx := hj
     have hxo := hx.fit.ok
     refine Sat.seq (Sat.region (Tr.loadAll J J J Y77 J Sz77 (by exact mem5) (by (simp [hb]; done)) ?_))
     refine Tr.move J J J (Tr.callV J J J J Body192 (ref_bit_at b hb (255 - p.1) oM) (fun _ _ => trivial) (Tr.nil (at_n (Sat.cond J (fun hc3 => ?_) (fun hc3 => ?_)))))
     ·
      have cx := r5_plus D x AQ hDf hx.fit hAQ.fit
      have hxr := frep_r hDf hDv hP hQ hx hAQ (bit_one hc3)
      revert cx hxr
      generalize frT D x AQ = F3
      intro cx hxr
      have hxro := hxr.fit.ok
      refine Sat.region (Tr.loadAll J J J Y177 J Sz177 Z3 (by (simp [wdsV_length, hDl]; done)) ?_)
      refine Tr.loadAll J J J Tryz.underlying180 J Sz180 Z2 (far.length (by exact hxo)) ?_
      refine Tr.loadAll J J J Tryz.underlying180 J Sz180 Z0 (far.length (by exact hAQo)) ?_
      refine Tr.callV J J J J Body191 (cx) (fun _ _ => trivial) (Tr.storeAll J J J J (far.isCell (by exact hxro)) Sz180 (far.length (by exact hxro)) Z2 (far.length (by exact hxo)) (by exact upd2) ?_)
      refine Tr.nil (bl_n (at_n ?_))
      exact ⟨F3, (by rw [lin_d (b := 0) hj3, lin_d (b := 0) hj3]; exact hxr), weak_of (wk1 rfl (wk1 rfl (wk1 rfl (wk1 rfl (wk1 rfl (wk1 rfl (wk1 rfl (wk1 rfl wk0)))))))) (wh1 Z0 (wh1 Z1 (wh1 Z2 (wh1 Z3 (wh1 Z4 (wh1 (by exact mem5) (wh1 (by exact mem6) wh0))))))) nD⟩
     ·
      refine Sat.skip (bl_n (at_n ?_))
      exact ⟨x, (by rw [lin_d (b := 0) hj3, lin_d (b := 0) hj3, bit_nil (E := le b) hc3, Nat.add_zero]; exact hx), weak_of (wk1 rfl (wk1 rfl (wk1 rfl (wk1 rfl (wk1 rfl (wk1 rfl (wk1 rfl (wk1 rfl wk0)))))))) (wh1 Z0 (wh1 Z1 (wh1 Z2 (wh1 Z3 (wh1 Z4 (wh1 (by exact mem5) (wh1 (by exact mem6) wh0))))))) nD⟩
   ·
    intro y hj
    have hy := hj
    have hyo := hy.fit.ok
    refine Sat.region (Tr.move J J J (Tr.sub_i64 J J J J oM (Tr.assign J J J (Tr.nil (at_n ?_)))))
    exact ⟨(p.1 + 1, y), ⟨by simp only []; omega, hy⟩, by simp only []; omega, weak_of (wk1 rfl (wk1 rfl (wk1 rfl (wk1 rfl (wk1 rfl (wk1 rfl (wk1 rfl (wk1 (congrArg (fun z => some (i64 z)) (show ((255 - p.1 : Nat) : Int) - 1 = 255 - ((p.1 + 1 : Nat) : Int) by omega)) wk0)))))))) (wh1 Z0 (wh1 Z1 (wh1 Z2 (wh1 Z3 (wh1 Z4 (wh1 (by exact mem5) (wh1 (by exact mem6) wh0))))))) nD⟩
  ·
   have hje : p.1 = 256 := by omega
   have hfin : FarRep p.2 (cv.lin (le a) (le b) P Q) := by rw [hje, lin_last] at hw; exact hw
   refine Sat.exit (at_x (at_x (bl_h (at_n (Sat.seq (Sat.region (Tr.loadAll J J J Tryz.underlying180 J Sz180 Z2 (far.length (by exact hwo)) ?_)))))))
   refine Tr.callV J J J J Body193 (r5_near p.2 _ hfin) (fun _ _ => trivial) (Tr.storeAll J J J J (Point.isCell zP) Sz79 (Point.length zP) Z4 (Point.length zZ) (by exact upd4) ?_)
   refine Tr.nil (at_n (Sat.ret (en_r ?_)))
   refine ⟨_, [], res_cell J J Y79 J Sz79 Z4 (by exact Point.length zP), sP, sP, ?_, rfl⟩
   rfl

theorem r5_Mul2z (a : List UInt8) (P : Pt Fp) (ha : a.length = 32) (hP : cv.on P) : Meets Tryz.prog 114 [agg (bytesV a), agg (ptc P).cells, agg (bytesV (List.replicate 32 0)), agg (ptc (zero : Pt Fp)).cells] [] (fun _ => True) (fun v out => v = agg (ptc (cv.mul (le a) P)).cells ∧ out = []) := by
  have h := r5_Mul2 a (List.replicate 32 0) P zero ha rfl hP cv.on_zero
  rwa [le_zero32, lin_one] at h

theorem r5_Mul (a : List UInt8) (P : Pt Fp) (ha : a.length = 32) (hP : cv.on P) : Meets Tryz.prog 65 [agg (bytesV a), agg (ptc P).cells] [] (fun _ => True) (fun v out => v = agg (ptc (cv.mul (le a) P)).cells ∧ out = []) := by
 intro W hW
 refine calls_of (hp0 := []) Tryz.func65 J 10 Tryz.ntmps65 J (HRep.nil _) (Sat.seq (Sat.region (Tr.boxA J J ?_)))
 intro n2 hn2 hf2
 refine Tr.boxA J J ?_
 intro n3 hn3 hf3
 refine Tr.alloc (cs := Point.zero.cells) J Point.zr J ?_
 intro n4 hn4 hf4
 refine Tr.nil (at_n (Sat.seq (Sat.draw [(1, 0), (1, 1), (0, 2), (3, 3), (3, 4), (4, 5)] Mixed zK (Tr.loadAll J J J Y77 J Sz77 Z2 (by (simp [ha]; done)) ?_))))
 refine Tr.loadAll J J J Y79 J Sz79 Z1 (Point.length zP) ?_
 refine Tr.build (cs := bytesV (List.replicate 32 0)) J J J (fun w => by kernel_rfl) ?_
 refine Tr.callV J J J J Body120 (r5_Zero) (fun _ _ => trivial) (Tr.callV J J J J Body114 (r5_Mul2z a P ha hP) (fun _ _ => trivial) (Tr.storeAll J J J J (Point.isCell zP) Sz79 (Point.length zP) Z0 (Point.length zZ) zU ?_))
 refine Tr.nil (at_n (Sat.ret (en_r ?_)))
 refine ⟨_, [], res_cell J J Y79 J Sz79 Z0 (by exact Point.length zP), sP, sP, ?_, rfl⟩
 rfl

theorem r5_Bytes (P : Pt Fp) (hP : cv.on P) : Meets Tryz.prog 64 [agg (ptc P).cells] [] (fun _ => True) (fun v out => v = .tuple #[agg (bytesV (pb P)), i64 0] ∧ out = []) := by
 intro W hW
 refine calls_of (hp0 := []) Tryz.func64 J 19 Tryz.ntmps64 J (HRep.nil _) (Sat.seq (Sat.region (Tr.boxA J J ?_)))
 intro n1 hn1 hf1
 refine Tr.alloc (cs := (bytesV (List.replicate 32 0))) J Zr23 J ?_
 intro n2 hn2 hf2
 refine Tr.assign J J J (Tr.nil (at_n (Sat.seq (Sat.seq (Sat.region (Tr.loadAll J J J Y79 J Sz79 Z1 (Point.length zP) ?_))))))
 refine Tr.callV J J J J Body118 (r5_Check P hP) (fun _ _ => trivial) (Tr.nei J J J J (show (!decide _) = false from congrArg not (decide_eq_true (rfl))) (Tr.nil (at_n (Sat.cond_f J (rfl) (Sat.skip (at_n (Sat.seq (Sat.region (Tr.fld J J J Y79 J Sz77 dE _ J (Tr.loadN (bytesV _) J J J Y77 J Sz77 Z1 (Point.row_fY zP) (Point.rl_fY zP) ?_))))))))))
 refine Tr.alloc (cs := (bytesV (List.replicate 32 0))) J Zr23 J ?_
 intro n4 hn4 hf4
 refine Tr.storeAll J J J J zE Sz23 (by (simp [fb_length, ptc_y]; done)) Z0 sP zU ?_
 refine Tr.nil (at_n (Sat.join (ι := Unit) (fun _u => ⟨[(2, ptr n2 0), (4, ptr n4 0)], [⟨n4, bytesV (pb P), 23, 32⟩, ⟨n2, bytesV (List.replicate 32 0), 23, 32⟩]⟩) (fun _u => True) ?_ ?_))
 ·
  refine Sat.seq (Sat.region (Tr.fld J J J Y79 J Sz77 dE _ J (Tr.loadN (bytesV _) J J J Y77 J Sz77 Z2 (Point.row_fX zP) (Point.rl_fX zP) ?_)))
  refine Tr.callV J J J J Body119 (r_odd P.x) (fun _ _ => trivial) (Tr.nil (at_n (Sat.condP J (fun hc1 => ?_) (fun hc1 => ?_))))
  ·
   refine Sat.region (Tr.idxArr1 J J J J Y23 Sz5 31 J dE (Tr.load1 J J J Y5 J Z0 (get_bytes (by show 31 < (fb P.y).length; rw [fb_length]; decide)) ?_))
   refine Tr.add_u8 J J J (show evIn _ _ = some (u8 128) from rfl) (Tr.idxArr1 J J J J Y23 Sz5 31 J dE ?_)
   rw [show ((ptc P).fY.getD 31 0 + 128 : UInt8) = (fb P.y).getD 31 0 ||| 128 from byte_plus _ (fb_top P.y)]
   refine Tr.store1 J J J J J Sz5 Z0 (by (simp [fb_length, ptc_y]; done)) (by exact set_bytes _ _ _) zU ?_
   refine Tr.nil (at_n ?_)
   (rw [show pb P = (fb P.y).set 31 ((fb P.y).getD 31 0 ||| 128) from if_pos hc1]; exact ⟨(), trivial, weak_of (wk1 rfl (wk1 rfl wk0)) (wh1 Z0 (wh1 Z1 wh0)) nD⟩)
  ·
   refine Sat.skip (at_n ?_)
   (rw [show pb P = fb P.y from if_neg hc1]; exact ⟨(), trivial, weak_of (wk1 rfl (wk1 rfl wk0)) (wh1 Z0 (wh1 Z1 wh0)) nD⟩)
 ·
  intro _u hj
  skip
  refine Sat.seq (Sat.region (Tr.loadAll J J J Y23 J Sz23 Z0 (by (simp [pb_length]; done)) ?_))
  refine Tr.storeAll J J J J zE Sz23 (by (simp [pb_length]; done)) Z1 sP zV ?_
  refine Tr.assign J J J (Tr.nil (at_n (Sat.ret (en_r ?_))))
  refine ⟨_, [], res_cell_tmp J J J Y23 J Sz23 Z1 (by simp [pb_length]), sP, sP, ?_, rfl⟩
  rfl

end Go.Proofs.YtpacobmjjjillaaGreat
end

section
namespace Hw
open Go
set_option linter.unusedSimpArgs false
set_option linter.unusedVariables false
set_option maxRecDepth 100000

def ev : List Nat → Nat
  | [] => 0
  | x :: l => x + 256 * ev l
def addC (l : List Nat) (k v : Nat) : List Nat := l.set k (l.getD k 0 + v)
theorem addC_length (l : List Nat) (k v : Nat) : (addC l k v).length = l.length := by simp [addC]
theorem ev_addC : ∀ (l : List Nat) (k v : Nat), k < l.length → ev (addC l k v) = ev l + v * 256 ^ k
  | [], _, _, h => by simp at h
  | x :: l, 0, v, _ => by simp [addC, ev]; omega
  | x :: l, k + 1, v, h => by
    have := ev_addC l k v (by simpa using h)
    simp only [addC, List.set_cons_succ, List.getD_cons_succ, ev] at this ⊢
    rw [this, Nat.pow_succ, Nat.mul_add, Nat.add_assoc, ← Nat.mul_assoc v, Nat.mul_comm (v * 256 ^ k) 256]
def inn (a b : List UInt8) (i : Nat) (l : List Nat) : Nat → List Nat
  | 0 => l
  | q + 1 => addC (inn a b i l q) (i + q) ((a.getD i 0).toNat * (b.getD q 0).toNat)
theorem inn_length (a b : List UInt8) (i : Nat) (l : List Nat) : ∀ q, (inn a b i l q).length = l.length
  | 0 => rfl
  | q + 1 => by rw [inn, addC_length, inn_length a b i l q]
def out (a b : List UInt8) : Nat → List Nat
  | 0 => List.replicate 64 0
  | p + 1 => inn a b p (out a b p) 32
theorem out_length (a b : List UInt8) : ∀ p, (out a b p).length = 64
  | 0 => by simp [out]
  | p + 1 => by rw [out, inn_length, out_length a b p]
theorem ev_inn (a b : List UInt8) (i : Nat) (l : List Nat) (hb : b.length = 32) (hi : i < 32) (hl : l.length = 64) : ∀ q, q ≤ 32 → ev (inn a b i l q) = ev l + (a.getD i 0).toNat * 256 ^ i * le (b.take q)
  | 0, _ => by simp [inn, le]
  | q + 1, h => by
    rw [inn, ev_addC _ _ _ (by rw [inn_length]; omega), ev_inn a b i l hb hi hl q oM, le_take_succ b q oM, Nat.mul_add, Nat.add_assoc, Nat.pow_add]
    congr 2
    rw [Nat.mul_assoc, Nat.mul_assoc, Nat.mul_comm (b.getD q 0).toNat, Nat.mul_assoc]
theorem ev_zeros : ∀ k, ev (List.replicate k 0) = 0
  | 0 => rfl
  | k + 1 => by simp [List.replicate, ev, ev_zeros k]
theorem ev_out (a b : List UInt8) (ha : a.length = 32) (hb : b.length = 32) : ∀ p, p ≤ 32 → ev (out a b p) = le (a.take p) * le b
  | 0, _ => by rw [out, ev_zeros, List.take_zero, le, Nat.zero_mul]
  | p + 1, h => by
    rw [out, ev_inn a b p _ hb oM (out_length a b p) 32 oM, ev_out a b ha hb p oM, le_take_succ a p oM, List.take_of_length_le (l := b) oM, Nat.add_mul, Nat.mul_comm (256 ^ p)]
/-- a bound for each column -/
theorem addC_le (l : List Nat) (k v M N : Nat) (h : ∀ j, l.getD j 0 ≤ M) (hv : v ≤ N) : ∀ j, (addC l k v).getD j 0 ≤ M + N := fun j => by
  have hj := h j
  have hk := h k
  simp only [addC, List.getD_eq_getElem?_getD, List.getElem?_set] at *
  by_cases e : k = j
  · subst e
    rw [if_pos rfl]
    split
    · simp only [Option.getD_some]; omega
    · simp
  · rw [if_neg e]; omega
theorem inn_le' (a b : List UInt8) (i : Nat) (l : List Nat) (M K : Nat) (hK : K = 255 * 255) (h : ∀ j, l.getD j 0 ≤ M) : ∀ q j, (inn a b i l q).getD j 0 ≤ M + K * q
  | 0, j => by simpa [inn] using h j
  | q + 1, j => by
    have hx := (a.getD i 0).toNat_lt
    have hy := (b.getD q 0).toNat_lt
    have hm : (a.getD i 0).toNat * (b.getD q 0).toNat ≤ K := by rw [hK]; exact Nat.mul_le_mul oM oM
    have := addC_le _ (i + q) _ _ _ (inn_le' a b i l M K hK h q) hm j
    rw [inn, Nat.mul_add, Nat.mul_one, ← Nat.add_assoc]
    exact this
theorem inn_le (a b : List UInt8) (i : Nat) (l : List Nat) (M : Nat) (h : ∀ j, l.getD j 0 ≤ M) (q j : Nat) : (inn a b i l q).getD j 0 ≤ M + 65025 * q := inn_le' a b i l M 65025 rfl h q j
theorem out_le' (a b : List UInt8) (K : Nat) (hK : K = 65025 * 32) : ∀ p j, (out a b p).getD j 0 ≤ K * p
  | 0, j => by
    rw [out, List.getD_eq_getElem?_getD, List.getElem?_replicate]
    split
    · rw [Option.getD_some]; exact Nat.zero_le _
    · rw [Option.getD_none]; exact Nat.zero_le _
  | p + 1, j => by
    have := inn_le a b p (out a b p) _ (out_le' a b K hK p) 32 j
    rw [out, Nat.mul_add, Nat.mul_one]
    rw [← hK] at this
    exact this
theorem out_le (a b : List UInt8) (p j : Nat) : (out a b p).getD j 0 ≤ 2080800 * p := out_le' a b 2080800 rfl p j
theorem ev_take_succ : ∀ (l : List Nat) (k : Nat), k < l.length → ev (l.take (k + 1)) = ev (l.take k) + 256 ^ k * l.getD k 0
  | [], _, h => by simp at h
  | x :: l, 0, _ => by simp [ev]
  | x :: l, k + 1, h => by
    have := ev_take_succ l k (by simpa using h)
    simp only [List.take_succ_cons, ev, List.getD_cons_succ] at this ⊢
    rw [this, Nat.mul_add, Nat.pow_succ, Nat.add_assoc, Nat.mul_comm (256 ^ k) 256, Nat.mul_assoc]
theorem ev_take_le (l : List Nat) (M : Nat) (h : ∀ j, l.getD j 0 ≤ M) : ∀ k, ev (l.take k) / 256 ^ k ≤ M
  | 0 => by simp [ev]
  | k + 1 => by
    rcases Nat.lt_or_ge k l.length with hk | hk
    · rw [ev_take_succ l k hk, Nat.pow_succ, ← Nat.div_div_eq_div_mul, Nat.add_mul_div_left _ _ (Nat.pow_pos dE)]
      have h1 := ev_take_le l M h k
      have h2 := h k
      omega
    · have h1 := ev_take_le l M h k
      rw [List.take_of_length_le oM, Nat.pow_succ, ← Nat.div_div_eq_div_mul]
      rw [List.take_of_length_le hk] at h1
      exact Nat.le_trans (Nat.div_le_self _ _) h1
def natsV (l : List Nat) : List Value := l.map fun (n : Nat) => i64 (n : Int)
theorem natsV_length (l : List Nat) : (natsV l).length = l.length := by simp [natsV]
theorem get_nats {l : List Nat} {o : Nat} (h : o < l.length) : (natsV l)[o]? = some (i64 ((l.getD o 0 : Nat) : Int)) := by
  simp [natsV, List.getElem?_map, List.getD, h]
theorem set_nats (l : List Nat) (o v : Nat) : (natsV l).set o (i64 (v : Int)) = natsV (l.set o v) := by simp [natsV, List.map_set]
theorem addC_set (l : List Nat) (k x y : Nat) : natsV (addC l k (x * y)) = (natsV l).set k (i64 (((l.getD k 0 : Nat) : Int) + (x : Int) * (y : Int))) := by
  rw [addC, ← set_nats, Int.natCast_add, Int.natCast_mul]
theorem natsV_zeros (n : Nat) : natsV (List.replicate n 0) = intsV (List.replicate n 0) := by simp [natsV, intsV]
theorem natCast_mul_le {x y : Nat} (hx : x < 256) (hy : y < 256) : (0 : Int) ≤ (x : Int) * (y : Int) ∧ (x : Int) * (y : Int) ≤ 65025 := by
  rw [← Int.natCast_mul]
  have : x * y ≤ 255 * 255 := Nat.mul_le_mul oM oM
  omega
theorem le512 {a b : List UInt8} (ha : a.length = 32) (hb : b.length = 32) : le a * le b < 256 ^ 64 := by
  have h1 := le_lt a
  have h2 := le_lt b
  rw [ha] at h1; rw [hb] at h2
  exact Nat.lt_of_lt_of_eq (Nat.mul_lt_mul'' h1 h2) (Nat.pow_add 256 32 32).symm
theorem ev_all (a b : List UInt8) (ha : a.length = 32) (hb : b.length = 32) : ev ((out a b 32).take 64) = le a * le b := by
  rw [List.take_of_length_le (by rw [out_length]; omega), ev_out a b ha hb 32 oM, List.take_of_length_le oM]
end Hw
end

section
namespace Go.Proofs.YtpacobmjjjillaaGreat
open Go Hw
set_option linter.unusedVariables false
set_option linter.unusedSimpArgs false

theorem ref_mul (a b : List UInt8) (ha : a.length = 32) (hb : b.length = 32) : Meets Tryz.prog 211 [agg (bytesV a), agg (bytesV b)] [] (fun _ => True) (fun v out => v = agg (bytesV (leb 32 (le a * le b % L))) ∧ out = []) := by
 intro W hW
 refine calls_of (hp0 := []) Tryz.func211 J 58 Tryz.ntmps211 J (HRep.nil _) (Sat.seq (Sat.region (Tr.boxA J J ?_)))
 intro n2 hn2 hf2
 refine Tr.boxA J J ?_
 intro n3 hn3 hf3
 refine Tr.alloc (cs := (bytesV (List.replicate 32 0))) J Zr77 J ?_
 intro n4 hn4 hf4
 refine Tr.nil (at_n (Sat.seq (Sat.region (Tr.alloc (cs := (intsV (List.replicate 64 0))) J Zr213 J ?_))))
 intro n5 hn5 hf5
 refine Tr.nil (at_n (Sat.join (ι := Unit) (fun _u => ⟨[(2, ptr n2 0), (3, ptr n3 0), (4, ptr n4 0), (5, ptr n5 0)], [⟨n5, natsV (out a b 32), 213, 64⟩, ⟨n4, bytesV (List.replicate 32 0), 77, 32⟩]⟩) (fun _u => True) ?_ ?_))
 ·
  refine Sat.seq (Sat.region (Tr.assign J J J (Tr.nil (at_n (Sat.block (Sat.loop (ι := Nat) (fun p => ⟨[(2, ptr n2 0), (3, ptr n3 0), (4, ptr n4 0), (5, ptr n5 0), (6, i64 (p : Int))], [⟨n5, natsV (out a b p), 213, 64⟩, ⟨n4, bytesV (List.replicate 32 0), 77, 32⟩, ⟨n3, bytesV b, 77, (bytesV b).length⟩, ⟨n2, bytesV a, 77, (bytesV a).length⟩]⟩) (fun p => p ≤ 32) (fun p => 32 - p) (0) ?_ ?_ ?_))))))
  · omega
  · exact weak_of (wk1 rfl (wk1 rfl (wk1 rfl (wk1 rfl (wk1 rfl wk0))))) (wh1 (by rw [out, natsV_zeros]; exact mem0) (wh1 Z1 (wh1 Z2 (wh1 Z3 wh0)))) nD
  ·
   rintro p hp
   refine Sat.seq (Sat.seq (Sat.region (Tr.move J J J (Tr.lss J J J J J (Tr.nil (at_n (Sat.condP J (fun hc0 => ?_) (fun hc0 => ?_))))))))
   ·
    have hp2 : p < 32 := by omega
    refine Sat.skip (at_n (Sat.seq (Sat.block (Sat.seq (Sat.region (Tr.assign J J J (Tr.nil (at_n (Sat.block (Sat.loop (ι := Nat) (fun q => ⟨[(2, ptr n2 0), (3, ptr n3 0), (4, ptr n4 0), (5, ptr n5 0), (6, i64 (p : Int)), (7, i64 (q : Int))], [⟨n5, natsV (inn a b p (out a b p) q), 213, 64⟩, ⟨n4, bytesV (List.replicate 32 0), 77, 32⟩, ⟨n3, bytesV b, 77, (bytesV b).length⟩, ⟨n2, bytesV a, 77, (bytesV a).length⟩]⟩) (fun q => q ≤ 32) (fun q => 32 - q) (0) ?_ ?_ ?_))))))))))
    · omega
    · exact weak_of (wk1 rfl (wk1 rfl (wk1 rfl (wk1 rfl (wk1 rfl (wk1 rfl wk0)))))) (wh1 Z0 (wh1 Z1 (wh1 Z2 (wh1 Z3 wh0)))) nD
    ·
     rintro q hq
     refine Sat.seq (Sat.seq (Sat.region (Tr.move J J J (Tr.lss J J J J J (Tr.nil (at_n (Sat.condP J (fun hc1 => ?_) (fun hc1 => ?_))))))))
     ·
      have hq2 : q < 32 := by omega
      obtain ⟨hm0, hm1⟩ := natCast_mul_le (a.getD p 0).toNat_lt (b.getD q 0).toNat_lt
      have hcl : (inn a b p (out a b p) q).getD (p + q) 0 ≤ 2080800 * p + 65025 * q := inn_le a b p _ _ (out_le a b p) q (p + q)
      refine Sat.skip (at_n (Sat.seq (Sat.block (Sat.draw [(0, 0), (0, 1), (0, 2), (0, 3), (0, 4), (0, 5), (0, 6), (1, 7), (0, 8), (0, 9), (1, 10), (0, 11), (0, 12), (0, 13), (1, 14), (0, 15), (0, 16), (0, 17), (0, 18), (4, 19)] Mixed zK (Tr.move J J J (Tr.move J J J (Tr.add_i64 J J J J oM (Tr.move J J J (Tr.move J J J (Tr.add_i64 J J J J oM (Tr.idxArr1 J J J J Tryz.underlying213 Sz3 (p + q) oM oM (Tr.load1 J J J Y3 J Z0 (get_nats (by simp [inn_length, out_length]; omega)) ?_))))))))))))
      refine Tr.move J J J (Tr.idxArr1 J J J J Y77 Sz5 _ J oM (Tr.load1 J J J Y5 J Z3 zG ?_))
      refine Tr.conv J J J Y5 Y3 (cv_u8_i64 _) (Tr.move J J J (Tr.idxArr1 J J J J Y77 Sz5 _ J oM (Tr.load1 J J J Y5 J Z2 zG ?_)))
      refine Tr.conv J J J Y5 Y3 (cv_u8_i64 _) (Tr.mul_i64 J J J J oM (Tr.add_i64 J J J J oM (Tr.idxArr1 J J J J Tryz.underlying213 Sz3 (p + q) oM oM (Tr.store1 J J J J J Sz3 Z0 (by (simp [natsV_length, inn_length, out_length]; omega)) (by rfl) zU ?_))))
      refine Tr.nil (bl_n (at_n (Sat.region (Tr.move J J J (Tr.add_i64 J J J J oM (Tr.assign J J J (Tr.nil (at_n ?_))))))))
      exact ⟨q + 1, by omega, by omega, weak_of (wk1 rfl (wk1 rfl (wk1 rfl (wk1 rfl (wk1 rfl (wk1 rfl wk0)))))) (wh1 (by rw [inn, addC_set]; exact mem0) (wh1 Z1 (wh1 Z2 (wh1 Z3 wh0)))) nD⟩
     ·
      obtain rfl : q = 32 := by omega
      refine Sat.exit (at_x (at_x (bl_h (bl_n (at_n (Sat.region (Tr.move J J J (Tr.add_i64 J J J J oM (Tr.assign J J J (Tr.nil (at_n ?_)))))))))))
      exact ⟨p + 1, by omega, by omega, weak_of (wk1 rfl (wk1 rfl (wk1 rfl (wk1 rfl (wk1 rfl wk0))))) (wh1 Z0 (wh1 Z1 (wh1 Z2 (wh1 Z3 wh0)))) nD⟩
   ·
    obtain rfl : p = 32 := by omega
    refine Sat.exit (at_x (at_x (bl_h (at_n ?_))))
    refine ⟨(), trivial, weak_of (wk1 J (wk1 J (wk1 J (wk1 J wk0)))) (wh1 Z0 (wh1 Z1 wh0)) nD⟩
 ·
  intro _u hj
  skip
  refine Sat.seq (Sat.region (Tr.mkSlice (z := u8 0) (by' := 1) 64 J J J J Y39 Sz5 Zr5 (by unfold By; kernel_rfl) J oM oM oM ?_))
  intro n38
  refine Tr.assign J J J (Tr.nil (at_n (Sat.seq (Sat.region (Tr.assign J J J (Tr.nil (at_n (Sat.join (ι := Unit) (fun _u => ⟨[(4, ptr n4 0), (8, .slice (some ⟨n38, 0, none⟩) 64 64)], [⟨n38, bytesV (leb 64 (le a * le b)), 5, 64⟩, ⟨n4, bytesV (List.replicate 32 0), 77, 32⟩]⟩) (fun _u => True) ?_ ?_))))))))
  ·
   refine Sat.seq (Sat.region (Tr.assign J J J (Tr.nil (at_n (Sat.block (Sat.loop (ι := Nat) (fun k => ⟨[(4, ptr n4 0), (5, ptr n5 0), (8, .slice (some ⟨n38, 0, none⟩) 64 64), (9, i64 ((ev ((out a b 32).take k) / 256 ^ k : Nat) : Int)), (10, i64 (k : Int))], [⟨n38, bytesV (padW 64 (ev ((out a b 32).take k)) k), 5, 64⟩, ⟨n5, natsV (out a b 32), 213, 64⟩, ⟨n4, bytesV (List.replicate 32 0), 77, 32⟩]⟩) (fun k => k ≤ 64) (fun k => 64 - k) (0) ?_ ?_ ?_))))))
   · omega
   · exact weak_of (wk1 rfl (wk1 rfl (wk1 rfl (wk1 (by rw [List.take_zero]; rfl) (wk1 rfl wk0))))) (wh1 (by rw [padW_zero]; exact mem0) (wh1 Z1 (wh1 Z2 wh0))) nD
   ·
    rintro k hk
    have hpl := padW_length 64 (ev ((out a b 32).take k)) k hk
    have hcb := ev_take_le (out a b 32) _ (out_le a b 32) k
    have hcn : (0 : Int) ≤ ((ev ((out a b 32).take k) / 256 ^ k : Nat) : Int) := Int.natCast_nonneg _
    have hcb2 : ((ev ((out a b 32).take k) / 256 ^ k : Nat) : Int) ≤ ((2080800 * 32 : Nat) : Int) := Int.ofNat_le.2 hcb
    refine Sat.seq (Sat.seq (Sat.region (Tr.move J J J (Tr.lss J J J J J (Tr.nil (at_n (Sat.condP J (fun hc2 => ?_) (fun hc2 => ?_))))))))
    ·
     have hk2 : k < 64 := by omega
     have hco := out_le a b 32 k
     have hs : ((ev ((out a b 32).take k) / 256 ^ k : Nat) : Int) + (((out a b 32).getD k 0 : Nat) : Int) = ((ev ((out a b 32).take k) / 256 ^ k + (out a b 32).getD k 0 : Nat) : Int) := by rw [Int.natCast_add]
     refine Sat.skip (at_n (Sat.seq (Sat.block (Sat.seq (Sat.region (Tr.move J J J (Tr.move J J J (Tr.idxArr1 J J J J Tryz.underlying213 Sz3 _ J oM (Tr.load1 J J J Y3 J Z1 (get_nats (by simp [out_length]; omega)) ?_)))))))))
     refine Tr.add_i64 J J J J oM (Tr.assign J J J (Tr.nil (at_n (Sat.seq (Sat.region (Tr.move J J J (Tr.move J J J (Tr.move J J J (Tr.rem_i64 J J J J oM (Tr.conv J J J Y3 Y5 (cv_i64_u8 _) (Tr.idxSl1 J J J J Y39 Sz5 _ J oM (Tr.store1 J J J J J Sz5 Z0 (by (simp; omega)) (by exact set_bytes _ _ _) zU ?_))))))))))))
     refine Tr.nil (at_n (Sat.region (Tr.move J J J (Tr.quo_i64 J J J J oM (Tr.assign J J J (Tr.nil (bl_n (at_n (Sat.region (Tr.move J J J (Tr.add_i64 J J J J oM (Tr.assign J J J (Tr.nil (at_n ?_))))))))))))))
     have hst := ev_take_succ (out a b 32) k (by rw [out_length]; omega)
     exact ⟨k + 1, by omega, by omega, weak_of (wk1 rfl (wk1 rfl (wk1 rfl (wk1 (by rw [hst, ← carry_step _ _ _ _ hs]; rfl) (wk1 rfl wk0))))) (wh1 (by rw [hst, ← padW_step 64 _ _ k oM _ hs, byteOf_mod]; exact mem0) (wh1 Z1 (wh1 Z2 wh0))) nD⟩
    ·
     obtain rfl : k = 64 := by omega
     refine Sat.exit (at_x (at_x (bl_h (at_n ?_))))
     refine ⟨(), trivial, weak_of (wk1 J (wk1 J wk0)) (wh1 (by rw [← padW_all, ← ev_all a b ha hb]; exact mem0) (wh1 Z2 wh0)) nD⟩
  ·
   intro _u hj
   skip
   refine Sat.seq (Sat.region (Tr.move J J J (Tr.callV J J J J Body209 (ref_rest _ 0 _ 64 (leb 64 (le a * le b)) (by simp [leb_length]) oM) (fun W h => sees_own h Z0) ?_)))
   refine Tr.storeAll J J J J zB Sz77 (by (simp [leb_length]; done)) Z1 sP zV ?_
   refine Tr.nil (at_n (Sat.ret (en_r ?_)))
   refine ⟨_, [], res_cell J J Y77 J Sz77 Z1 (by simp [leb_length]), sP, sP, ?_, rfl⟩
   rw [le_leb, Nat.mod_eq_of_lt (le512 ha hb)]

theorem ref_muladd (a b c : List UInt8) (ha : a.length = 32) (hb : b.length = 32) (hc : c.length = 32) : Meets Tryz.prog 138 [agg (bytesV a), agg (bytesV b), agg (bytesV c)] [] (fun _ => True) (fun v out => v = agg (bytesV (leb 32 ((le a * le b + le c) % L))) ∧ out = []) := by
 intro W hW
 refine calls_of (hp0 := []) Tryz.func138 J 13 Tryz.ntmps138 J (HRep.nil _) (Sat.seq (Sat.region (Tr.boxA J J ?_)))
 intro n3 hn3 hf3
 refine Tr.boxA J J ?_
 intro n4 hn4 hf4
 refine Tr.boxA J J ?_
 intro n5 hn5 hf5
 refine Tr.alloc (cs := (bytesV (List.replicate 32 0))) J Zr77 J ?_
 intro n6 hn6 hf6
 refine Tr.nil (at_n (Sat.seq (Sat.draw [(1, 0), (1, 1), (0, 3), (3, 2), (3, 4), (3, 5), (4, 6)] Mixed zK (Tr.loadAll J J J Y77 J Sz77 Z3 (by (simp [ha]; done)) ?_))))
 refine Tr.loadAll J J J Y77 J Sz77 Z2 (by (simp [hb]; done)) ?_
 refine Tr.sliceArr J J J Y77 Sz5 (Tr.callV J J J J Body211 (ref_mul a b ha hb) (fun _ _ => trivial) (Tr.callV J J J J Body209 (ref_rest _ 0 _ 32 c (by simp [hc]) oM) (fun W h => sees_own h Z1) ?_))
 refine Tr.callV J J J J Body210 (ref_plus_n _ _ (Nat.mod_lt _ L_pos) (Nat.mod_lt _ L_pos)) (fun _ _ => trivial) (Tr.storeAll J J J J zB Sz77 (by (simp [leb_length]; done)) Z0 sP zU ?_)
 refine Tr.nil (at_n (Sat.ret (en_r ?_)))
 refine ⟨_, [], res_cell J J Y77 J Sz77 Z0 (by simp [leb_length]), sP, sP, ?_, rfl⟩
 rw [← Nat.add_mod]

end Go.Proofs.YtpacobmjjjillaaGreat
end

section
namespace Go.Proofs.YtpacobmjjjillaaGreat
open Go Hw
set_option linter.unusedVariables false
set_option linter.unusedSimpArgs false

open Ed

theorem byte_8 : ∀ b : UInt8, b - UInt8.ofNat (b.toNat % 8) = b &&& 248 ∧ UInt8.ofNat (b.toNat % 64) + 64 = (b &&& 127) ||| 64 := by
  intro b
  have h : ∀ n, n < 256 → UInt8.ofNat n - UInt8.ofNat ((UInt8.ofNat n).toNat % 8) = UInt8.ofNat n &&& 248 ∧ UInt8.ofNat ((UInt8.ofNat n).toNat % 64) + 64 = (UInt8.ofNat n &&& 127) ||| 64 := by decide
  have h2 := h b.toNat b.toNat_lt
  rwa [UInt8.ofNat_toNat] at h2
theorem clamp_ref {l : List UInt8} (h : l.length = 32) : (l.set 0 (l.getD 0 0 - UInt8.ofNat ((l.getD 0 0).toNat % 8))).set 31 (UInt8.ofNat (((l.set 0 (l.getD 0 0 - UInt8.ofNat ((l.getD 0 0).toNat % 8))).getD 31 0).toNat % 64) + 64) = clampB l := by
  have g : (l.set 0 (l.getD 0 0 - UInt8.ofNat ((l.getD 0 0).toNat % 8))).getD 31 0 = l.getD 31 0 := by
    rw [List.getD_eq_getElem?_getD, List.getElem?_set_ne dE, ← List.getD_eq_getElem?_getD]
  rw [g, (byte_8 _).1, (byte_8 _).2]
  rfl
theorem upd_all {f : List UInt8} (h : f.length = 32) : upd (bytesV (List.replicate 32 0)) 0 (bytesV f) = bytesV f := by simp [upd, bytesV, h]
theorem sees_take {w : World} {b n : Nat} {l : List UInt8} (h : Sees w b 0 (bytesV l)) : SeesP w (some ⟨b, 0, none⟩) (bytesV (l.take n)) := SeesP.of (fun i v hv => h i v (take_sees hv))
theorem sees_drop {w : World} {b n : Nat} {l : List UInt8} (h : Sees w b 0 (bytesV l)) : SeesP w (some ⟨b, n, none⟩) (bytesV (l.drop n)) := SeesP.of (fun i v hv => by
  have e : (bytesV l)[n + i]? = some v := by rw [bytesV, List.map_drop, List.getElem?_drop] at hv; exact hv
  have := h _ v e
  rwa [Nat.zero_add] at this)

theorem r6_secret (seed : List UInt8) (h32 : seed.length = 32) (s : List UInt8) (hs : Hid (sha512 seed = s)) : Meets Tryz.prog 121 [agg (bytesV seed)] [] (fun _ => True) (fun v out => ∃ q c, v = .tuple #[agg (bytesV (clampB (s.take 32))), .slice (some ⟨q, 0, none⟩) 32 c] ∧ 32 ≤ c ∧ out = [⟨q, bytesV (s.drop 32), 5, c * 1⟩]) := by
 intro W hW
 have hs64 : s.length = 64 := by rw [← hs.out]; exact sha512_length seed
 have ht32 : (s.take 32).length = 32 := by rw [List.length_take, hs64]; rfl
 have hd32 : (s.drop 32).length = 32 := by rw [List.length_drop, hs64]
 have hcl := clampB_length ht32
 refine calls_of (hp0 := []) Tryz.func121 J 28 Tryz.ntmps121 J (HRep.nil _) (Sat.seq (Sat.region (Tr.boxA J J ?_)))
 intro n1 hn1 hf1
 refine Tr.alloc (cs := (bytesV (List.replicate 32 0))) J Zr77 J ?_
 intro n2 hn2 hf2
 refine Tr.assign J J J (Tr.nil (at_n (Sat.seq (Sat.region (Tr.sliceArr J J J Y23 Sz5 (Tr.mkRow2 (z := .slice none 0 0) [.slice (some ⟨n1, 0, none⟩) 32 32] [.slice (some ⟨n1, 0, none⟩) 32 32] rfl J Y133 Sz39 Zr39 J J (by intro v hv; rw [List.mem_singleton.1 hv]; rfl) dE J ?_))))))
 intro q7
 refine Tr.callV J J J J Body136 (r2_Sum512 (some ⟨q7, 0, none⟩) 1 1 [⟨some ⟨n1, 0, none⟩, 32, 32⟩] [seed] rfl J (fun j hj => (by
   rcases (show j = 0 by omega) with rfl
   · exact ⟨by show 32 = List.length _; exact h32.symm, fun e => by cases e⟩)) (seed) sP (by (simp [h32]; done)) dE s hs) (fun w h => ⟨SeesP.of (sees_own h Z0), (fun j hj => (by
   rcases (show j = 0 by omega) with rfl
   · exact SeesP.of (sees_own (cs := bytesV seed) h Z2)))⟩) ?_
 refine Tr.alloc (cs := (bytesV (List.replicate 64 0))) J Zr26 J ?_
 intro n4 hn4 hf4
 refine Tr.storeAll J J J J zE Sz26 (by (simp [hs64]; done)) Z0 sP zU ?_
 refine Tr.nil (at_n (Sat.seq (Sat.region (Tr.alloc (cs := (bytesV (List.replicate 32 0))) J Zr77 J ?_))))
 intro n5 hn5 hf5
 refine Tr.nil (at_n (Sat.seq (Sat.draw [(0, 0), (0, 1), (4, 2)] Mixed zK (Tr.sliceArr J J J Y77 Sz5 (Tr.sliceArrHi 32 J J J J J dE dE Y26 Sz5 (Tr.copyP (bytesV (s.take 32)) 32 J J J J J Y39 Sz5 (fun w h => sees_take (sees_own h Z1)) (fun e => by cases e) (by rw [bytesV, List.length_map]; exact ht32) J (by rw [bytesV, ← List.map_take, List.take_of_length_le (Nat.le_of_eq ht32)]) (bytesV_cell _) Z0 sP (by exact upd_all ht32) zU ?_))))))
 refine Tr.nil (at_n (Sat.seq (Sat.region (Tr.idxArr1 J J J J Y77 Sz5 0 J dE (Tr.load1 J J J Y5 J Z0 zG ?_)))))
 refine Tr.idxArr1 J J J J Y77 Sz5 0 J dE (Tr.load1 J J J Y5 J Z0 zG ?_)
 refine Tr.rem_u8 J J J J 8 J dE (Tr.sub_u8 J J J J (Tr.idxArr1 J J J J Y77 Sz5 0 J dE (Tr.store1 J J J J J Sz5 Z0 (by (simp [hs64]; done)) (by exact set_bytes _ _ _) zU ?_)))
 refine Tr.nil (at_n (Sat.seq (Sat.region (Tr.idxArr1 J J J J Y77 Sz5 31 J dE (Tr.load1 J J J Y5 J Z0 (by exact get_bytes (by (simp [ht32]; done))) ?_)))))
 refine Tr.rem_u8 J J J J 64 J dE (Tr.add_u8 J J J (show evIn _ _ = some (u8 64) from rfl) (Tr.idxArr1 J J J J Y77 Sz5 31 J dE (Tr.store1 J J J J J Sz5 Z0 (by (simp [hs64, ht32]; done)) (by exact set_bytes _ _ _) zU ?_)))
 refine Tr.nil (at_n (Sat.seq (Sat.withK (sp_k (sp_v (sp_v (sp_v (sp_v sp_n))))) J (Sat.draw [(0, 0), (0, 2), (2, 1), (4, 3), (4, 4), (0, 5)] Mixed zK ?_))))
 rw [clamp_ref ht32]
 refine Tr.kloadAll J J J Y77 J Sz77 Z0 (by (simp [hcl]; done)) ?_
 refine Tr.sliceArrLo 32 J J J J J dE Y26 Sz5 (Tr.mkRow2 (z := u8 0) [] [] rfl J Y39 Sz5 Zr5 J J (by intro v hv; cases hv) dE J ?_)
 intro q25
 refine Tr.appendSl (z := u8 0) (by' := 1) (bytesV (s.drop 32)) J J J J J Y39 Y39 Sz5 Zr5 (by unfold By; kernel_rfl) J (fun w h => sees_drop (sees_own h Z1)) (fun e => by cases e) (bytesV_cell _) rM J J oM oM oM (by rw [bytesV, List.length_map]; exact hd32) ?_
 intro q27 c27 hq27
 refine Tr.storeAll J J J J zE Sz77 (by (simp [hcl]; done)) Z3 sP (by exact upd3) ?_
 refine Tr.assign J J J (Tr.nil (at_n (Sat.ret (en_r ?_))))
 simp only [List.cons_append, List.nil_append, List.append_nil]
 refine end_perm (out := (⟨q27, [] ++ bytesV (s.drop 32), 5, c27 * 1⟩ :: [])) (res_cell_tmp J J J Y77 J Sz77 Z3 (by simp [hcl])) (pm_cons rM pm_nil) ?_
 exact ⟨q27, c27, rfl, by omega, rfl⟩

theorem r6_Secret (seed : List UInt8) (h32 : seed.length = 32) (s : List UInt8) (hs : Hid (sha512 seed = s)) : Meets Tryz.prog 66 [agg (bytesV seed)] [] (fun _ => True) (fun v out => v = agg (bytesV (clampB (s.take 32))) ∧ out = []) := by
 intro W hW
 have hs64 : s.length = 64 := by rw [← hs.out]; exact sha512_length seed
 have ht32 : (s.take 32).length = 32 := by rw [List.length_take, hs64]; rfl
 have hd32 : (s.drop 32).length = 32 := by rw [List.length_drop, hs64]
 have hcl := clampB_length ht32
 revert hcl
 have hsec := r6_secret seed h32 s hs
 revert hsec
 generalize clampB (s.take 32) = N
 intro hsec hcl
 refine calls_of (hp0 := []) Tryz.func66 J 11 Tryz.ntmps66 J (HRep.nil _) (Sat.seq (Sat.region (Tr.boxA J J ?_)))
 intro n1 hn1 hf1
 refine Tr.alloc (cs := (bytesV (List.replicate 32 0))) J Zr77 J ?_
 intro n2 hn2 hf2
 refine Tr.nil (at_n (Sat.seq (Sat.region (Tr.loadAll J J J Y23 J Sz23 Z1 (by (simp [h32]; done)) ?_))))
 refine Tr.call4 J J J J J Body121 (hsec) (fun _ _ => trivial) ?_
 rintro v7 out7 ⟨q7, c7, rfl, hc7, rfl⟩
 simp only [List.cons_append, List.nil_append]
 refine Tr.move J J J (Tr.extract J J J J (Tr.extract J J J J (Tr.alloc (cs := (bytesV (List.replicate 32 0))) J Zr77 J ?_)))
 intro n3 hn3 hf3
 refine Tr.storeAll J J J J zE Sz77 (by (simp [hcl]; done)) Z0 sP zU ?_
 refine Tr.assign J J J (Tr.nil (at_n (Sat.seq (Sat.region (Tr.loadAll J J J Y77 J Sz77 Z0 (by (simp [hcl]; done)) ?_)))))
 refine Tr.storeAll J J J J zE Sz77 (by (simp [hcl]; done)) Z2 sP (by exact upd2) ?_
 refine Tr.nil (at_n (Sat.ret (en_r ?_)))
 refine ⟨_, [], res_cell J J Y77 J Sz77 Z2 (by simp [hcl]), sP, sP, ?_, rfl⟩
 rfl

theorem r6_KeyQ (N : List UInt8) (hN : N.length = 32) (Q : Pt Fp) (hQ : cv.mul (le N) bP = Q) : cv.on Q ∧ Meets Tryz.prog 65 [agg (bytesV N), agg (ptc bP).cells] [] (fun _ => True) (fun v out => v = agg (ptc Q).cells ∧ out = []) := by
  rw [← hQ]; exact ⟨cv.on_mul bP_on _, r5_Mul N bP hN bP_on⟩

theorem r6_Key (seed : List UInt8) (h32 : seed.length = 32) (s : List UInt8) (hs : Hid (sha512 seed = s)) : Meets Tryz.prog 18 [agg (bytesV seed)] [] (fun _ => True) (fun v out => v = agg (bytesV (sgK s)) ∧ out = []) := by
 intro W hW
 have hs64 : s.length = 64 := by rw [← hs.out]; exact sha512_length seed
 have ht32 : (s.take 32).length = 32 := by rw [List.length_take, hs64]; rfl
 have hd32 : (s.drop 32).length = 32 := by rw [List.length_drop, hs64]
 have hcl := clampB_length ht32
 obtain ⟨Q, hQ⟩ : ∃ Q, cv.mul (le (clampB (s.take 32))) bP = Q := ⟨_, rfl⟩
 have hsec := r6_Secret seed h32 s hs
 have hkq := r6_KeyQ (clampB (s.take 32)) hcl Q hQ
 rw [show sgK s = pb Q from by rw [sgK, hQ]]
 clear hQ
 revert hcl hsec hkq
 generalize clampB (s.take 32) = N
 intro hcl hsec hkq
 obtain ⟨hQo, hmul⟩ := hkq
 refine calls_of (hp0 := []) Tryz.func18 J 14 Tryz.ntmps18 J (HRep.nil _) (Sat.seq (Sat.region (Tr.boxA J J ?_)))
 intro n1 hn1 hf1
 refine Tr.alloc (cs := (bytesV (List.replicate 32 0))) J Zr25 J ?_
 intro n2 hn2 hf2
 refine Tr.nil (at_n (Sat.seq (Sat.region (Tr.loadAll J J J Y23 J Sz23 Z1 (by (simp [h32]; done)) ?_))))
 refine Tr.callV J J J J Body66 (hsec) (fun _ _ => trivial) (Tr.callV J J J J Body67 (r5_Base) (fun _ _ => trivial) (Tr.callV J J J J Body65 (hmul) (fun _ _ => trivial) (Tr.callV J J J J Body64 (r5_Bytes Q hQo) (fun _ _ => trivial) (Tr.move J J J (Tr.extract J J J J (Tr.extract J J J J (Tr.alloc (cs := (bytesV (List.replicate 32 0))) J Zr23 J ?_)))))))
 intro n3 hn3 hf3
 refine Tr.storeAll J J J J zE Sz23 (by (simp [pb_length]; done)) Z0 sP zU ?_
 refine Tr.assign J J J (Tr.nil (at_n (Sat.seq (Sat.region (Tr.loadAll J J J Y23 J Sz23 Z0 (by (simp [pb_length]; done)) ?_)))))
 refine Tr.storeAll J J J J zE Sz25 (by (simp [pb_length]; done)) Z1 sP zV ?_
 refine Tr.nil (at_n (Sat.ret (en_r ?_)))
 refine ⟨_, [], res_cell J J Y25 J Sz25 Z1 (by simp [pb_length]), sP, sP, ?_, rfl⟩
 rfl

theorem r6_challenge (r k : List UInt8) (hr : r.length = 32) (hk : k.length = 32) (sb : Sl) (bb : List UInt8) (hbn : bb.length ≤ 80000) (s : List UInt8) (hs : Hid (sha512 (r ++ (k ++ bb)) = s)) : Meets Tryz.prog 115 [agg (bytesV r), agg (bytesV k), sb.v] [] (fun W => BytesAt W sb bb) (fun v out => v = agg (bytesV (sgR s)) ∧ out = []) := by
 intro W hW
 have hs64 : s.length = 64 := by rw [← hs.out]; exact sha512_length _
 obtain ⟨R, hR⟩ : ∃ R, Hid (sgR s = R) := ⟨_, ⟨rfl⟩⟩
 have hRl : R.length = 32 := by rw [← hR.out]; exact sgR_length s
 have hres := fun b => ref_Rest b 0 64 64 s hs64 dE
 rw [show leb 32 (le s % L) = R from hR.out] at hres
 rw [hR.out]
 refine calls_of (hp0 := []) Tryz.func115 J 21 Tryz.ntmps115 J (HRep.nil _) (Sat.seq (Sat.region (Tr.boxA J J ?_)))
 intro n3 hn3 hf3
 refine Tr.boxA J J ?_
 intro n4 hn4 hf4
 refine Tr.alloc (cs := (bytesV (List.replicate 32 0))) J Zr77 J ?_
 intro n6 hn6 hf6
 refine Tr.nil (at_n (Sat.seq (Sat.draw [(0, 0), (0, 1), (0, 2), (2, 3), (3, 4), (2, 5), (4, 6)] Mixed zK (Tr.sliceArr J J J Y23 Sz5 (Tr.sliceArr J J J Y25 Sz5 (Tr.move J J J (Tr.mkRow2 (z := .slice none 0 0) [.slice (some ⟨n3, 0, none⟩) 32 32, .slice (some ⟨n4, 0, none⟩) 32 32, sb.v] [.slice (some ⟨n3, 0, none⟩) 32 32, .slice (some ⟨n4, 0, none⟩) 32 32, sb.v] rfl J Y133 Sz39 Zr39 J J (by intro v hv; simp only [List.mem_cons, List.not_mem_nil, or_false] at hv; rcases hv with rfl | rfl | rfl <;> rfl) dE J ?_)))))))
 intro q13
 refine Tr.callV J J J J Body136 (r2_Sum512 (some ⟨q13, 0, none⟩) 3 3 [⟨some ⟨n3, 0, none⟩, 32, 32⟩, ⟨some ⟨n4, 0, none⟩, 32, 32⟩, sb] [r, k, bb] rfl J (fun j hj => (by
   rcases (show j = 0 ∨ j = 1 ∨ j = 2 by omega) with rfl | rfl | rfl
   · exact ⟨by show 32 = List.length _; exact hr.symm, fun e => by cases e⟩
   · exact ⟨by show 32 = List.length _; exact hk.symm, fun e => by cases e⟩
   · exact ⟨by show sb.n = bb.length; exact hW.len.symm, fun e => by have h1 := hW.nil e; have h2 := hW.cap; show sb.n = 0; omega⟩)) (r ++ (k ++ bb)) sP (by (simp [hr, hk]; omega)) dE s hs) (fun w h => ⟨SeesP.of (sees_own h Z0), (fun j hj => (by
   rcases (show j = 0 ∨ j = 1 ∨ j = 2 by omega) with rfl | rfl | rfl
   · exact SeesP.of (sees_own (cs := bytesV r) h Z3)
   · exact SeesP.of (sees_own (cs := bytesV k) h Z2)
   · exact seesP_ext h rfl hW.see))⟩) ?_
 refine Tr.alloc (cs := (bytesV (List.replicate 64 0))) J Zr26 J ?_
 intro n7 hn7 hf7
 refine Tr.storeAll J J J J zE Sz26 (by (simp [hs64]; done)) Z0 sP zU ?_
 refine Tr.nil (at_n (Sat.seq (Sat.region (Tr.sliceArr J J J Y26 Sz5 (Tr.callV J J J J Body137 (hres n7) (fun w h => sees_own h Z0) ?_)))))
 refine Tr.move J J J (Tr.extract J J J J (Tr.extract J J J J (Tr.alloc (cs := (bytesV (List.replicate 32 0))) J Zr77 J ?_)))
 intro n8 hn8 hf8
 refine Tr.storeAll J J J J zE Sz77 (by (simp [hRl]; done)) Z0 sP zU ?_
 refine Tr.assign J J J (Tr.nil (at_n (Sat.seq (Sat.region (Tr.loadAll J J J Y77 J Sz77 Z0 (by (simp [hRl]; done)) ?_)))))
 refine Tr.storeAll J J J J zE Sz77 (by (simp [hRl]; done)) Z3 sP (by exact upd3) ?_
 refine Tr.nil (at_n (Sat.ret (en_r ?_)))
 refine ⟨_, [], res_cell J J Y77 J Sz77 Z3 (by simp [hRl]), sP, sP, ?_, rfl⟩
 rfl

theorem r6_Sign (seed : List UInt8) (h32 : seed.length = 32) (sb : Sl) (bb : List UInt8) (hbn : bb.length ≤ 80000) (s s1 s2 : List UInt8) (hs : Hid (sha512 seed = s)) (hs1 : Hid (sha512 (s.drop 32 ++ bb) = s1)) (hs2 : Hid (sha512 (sgF s1 ++ (sgK s ++ bb)) = s2)) : Meets Tryz.prog 74 [agg (bytesV seed), sb.v] [] (fun W => BytesAt W sb bb) (fun v out => v = agg (bytesV (sgF s1 ++ sgS s s1 s2)) ∧ out = []) := by
 intro W hW
 have hs64 : s.length = 64 := by rw [← hs.out]; exact sha512_length seed
 have ht32 : (s.take 32).length = 32 := by rw [List.length_take, hs64]; rfl
 have hd32 : (s.drop 32).length = 32 := by rw [List.length_drop, hs64]
 have hcl := clampB_length ht32
 have h64 : s1.length = 64 := by rw [← hs1.out]; exact sha512_length _
 have csec := r6_secret seed h32 s hs
 have ckey := r6_Key seed h32 s hs
 have cch := r6_challenge (sgF s1) (sgK s) (sgF_length s1) (sgK_length s) sb bb hbn s2 hs2
 have cma := ref_muladd (sgR s2) (clampB (s.take 32)) (sgR s1) (sgR_length s2) hcl (sgR_length s1)
 rw [show leb 32 ((le (sgR s2) * le (clampB (s.take 32)) + le (sgR s1)) % L) = sgS s s1 s2 from rfl] at cma
 obtain ⟨Q, hQ⟩ : ∃ Q, cv.mul (le (sgR s1)) bP = Q := ⟨_, rfl⟩
 have hkq := r6_KeyQ (sgR s1) (sgR_length s1) Q hQ
 have hF : sgF s1 = pb Q := by rw [sgF, hQ]
 rw [hF] at cch ⊢
 clear hQ hs2 hF
 have hres := fun b => ref_Rest b 0 64 64 s1 h64 dE
 rw [show leb 32 (le s1 % L) = sgR s1 from rfl] at hres
 have lK := sgK_length s
 have lS := sgS_length s s1 s2
 have lR1 := sgR_length s1
 have lR2 := sgR_length s2
 revert hcl csec ckey cch cma hkq hres lK lS lR1 lR2
 generalize sgS s s1 s2 = S3
 generalize sgK s = K
 generalize sgR s1 = r1
 generalize sgR s2 = r2
 generalize clampB (s.take 32) = N
 intro hcl csec ckey cma cch hkq hres lK lS lR1 lR2
 obtain ⟨hQo, hmul⟩ := hkq
 have hpq := pb_length Q
 refine calls_of (hp0 := []) Tryz.func74 J 50 Tryz.ntmps74 J (HRep.nil _) (Sat.seq (Sat.region (Tr.boxA J J ?_)))
 intro n2 hn2 hf2
 refine Tr.alloc (cs := (bytesV (List.replicate 64 0))) J Zr27 J ?_
 intro n4 hn4 hf4
 refine Tr.nil (at_n (Sat.seq (Sat.region (Tr.loadAll J J J Y23 J Sz23 Z1 (by (simp [h32]; done)) ?_))))
 refine Tr.call4 J J J J J Body121 (csec) (fun _ _ => trivial) ?_
 rintro v7 out7 ⟨q7, c7, rfl, hc7, rfl⟩
 simp only [List.cons_append, List.nil_append]
 refine Tr.move J J J (Tr.extract J J J J (Tr.extract J J J J (Tr.alloc (cs := (bytesV (List.replicate 32 0))) J Zr77 J ?_)))
 intro n5 hn5 hf5
 refine Tr.storeAll J J J J zE Sz77 (by (simp [hcl]; done)) Z0 sP zU ?_
 refine Tr.assign J J J (Tr.nil (at_n (Sat.seq (Sat.region (Tr.move J J J (Tr.move J J J (Tr.mkRow2 (z := .slice none 0 0) [.slice (some ⟨q7, 0, none⟩) 32 c7, sb.v] [.slice (some ⟨q7, 0, none⟩) 32 c7, sb.v] rfl J Y133 Sz39 Zr39 J J (by intro v hv; simp only [List.mem_cons, List.not_mem_nil, or_false] at hv; rcases hv with rfl | rfl <;> rfl) dE J ?_)))))))
 intro q21
 refine Tr.callV J J J J Body136 (r2_Sum512 (some ⟨q21, 0, none⟩) 2 2 [⟨some ⟨q7, 0, none⟩, 32, c7⟩, sb] [s.drop 32, bb] rfl J (fun j hj => (by
   rcases (show j = 0 ∨ j = 1 by omega) with rfl | rfl
   · exact ⟨by show 32 = List.length _; exact hd32.symm, fun e => by cases e⟩
   · exact ⟨by show sb.n = bb.length; exact hW.len.symm, fun e => by have h1 := hW.nil e; have h2 := hW.cap; show sb.n = 0; omega⟩)) (s.drop 32 ++ bb) sP (by (simp [hd32]; omega)) dE s1 hs1) (fun w h => ⟨SeesP.of (sees_own h Z0), (fun j hj => (by
   rcases (show j = 0 ∨ j = 1 by omega) with rfl | rfl
   · exact SeesP.of (sees_own (cs := bytesV (s.drop 32)) h Z2)
   · exact seesP_ext h rfl hW.see))⟩) ?_
 refine Tr.alloc (cs := (bytesV (List.replicate 64 0))) J Zr26 J ?_
 intro n7 hn7 hf7
 refine Tr.storeAll J J J J zE Sz26 (by (simp [h64]; done)) Z0 sP zU ?_
 refine Tr.nil (at_n (Sat.seq (Sat.region (Tr.sliceArr J J J Y26 Sz5 (Tr.callV J J J J Body137 (hres n7) (fun w h => sees_own h Z0) ?_)))))
 refine Tr.move J J J (Tr.extract J J J J (Tr.extract J J J J (Tr.alloc (cs := (bytesV (List.replicate 32 0))) J Zr77 J ?_)))
 intro n8 hn8 hf8
 refine Tr.storeAll J J J J zE Sz77 (by (simp [lR1]; done)) Z0 sP zU ?_
 refine Tr.assign J J J (Tr.nil (at_n (Sat.seq (Sat.draw [(1, 0), (3, 1), (3, 2), (3, 3), (0, 4), (0, 5), (0, 6), (2, 7), (4, 8), (0, 9)] Mixed zK (Tr.loadAll J J J Y77 J Sz77 Z0 (by (simp [lR1]; done)) ?_)))))
 refine Tr.callV J J J J Body67 (r5_Base) (fun _ _ => trivial) (Tr.callV J J J J Body65 (hmul) (fun _ _ => trivial) (Tr.callV J J J J Body64 (r5_Bytes Q hQo) (fun _ _ => trivial) (Tr.move J J J (Tr.extract J J J J (Tr.extract J J J J (Tr.alloc (cs := (bytesV (List.replicate 32 0))) J Zr23 J ?_))))))
 intro n10 hn10 hf10
 refine Tr.storeAll J J J J zE Sz23 (by (simp [pb_length]; done)) Z0 sP zU ?_
 refine Tr.assign J J J (Tr.nil (at_n (Sat.seq (Sat.draw [(1, 0), (1, 1), (0, 3), (1, 5), (1, 6), (3, 2), (3, 4), (3, 7), (2, 8), (4, 9)] Mixed zK (Tr.loadAll J J J Y23 J Sz23 Z0 (by (simp [pb_length]; done)) ?_)))))
 refine Tr.loadAll J J J Y23 J Sz23 (by exact mem7) (by (simp [h32]; done)) ?_
 refine Tr.move J J J (Tr.loadAll J J J Y77 J Sz77 Z4 (by (simp [hcl]; done)) ?_)
 refine Tr.loadAll J J J Y77 J Sz77 Z1 (by (simp [lR1]; done)) ?_
 refine Tr.callV J J J J Body18 (ckey) (fun _ _ => trivial) (Tr.callV J J J J Body115 (cch) (fun w h => bytes_ext h J hW) (Tr.callV J J J J Body138 (cma) (fun _ _ => trivial) (Tr.alloc (cs := (bytesV (List.replicate 32 0))) J Zr77 J ?_)))
 intro n12 hn12 hf12
 refine Tr.storeAll J J J J zE Sz77 (by (simp [lS]; done)) Z0 sP zU ?_
 refine Tr.nil (at_n (Sat.seq (Sat.region (Tr.alloc (cs := (bytesV (List.replicate 64 0))) J Zr27 J ?_))))
 intro n13 hn13 hf13
 refine Tr.nil (at_n (Sat.seq (Sat.draw [(0, 0), (0, 1), (4, 2)] Mixed zK (Tr.sliceArr J J J Y27 Sz5 (Tr.sliceArr J J J Y23 Sz5 (Tr.copyP (bytesV (pb Q)) 32 J J J J J Y39 Sz5 (fun w h => SeesP.of (sees_own h Z2)) (fun e => by cases e) (by rw [bytesV, List.length_map]; exact (pb_length Q)) J (by rw [bytesV, ← List.map_take, List.take_of_length_le (Nat.le_of_eq (pb_length Q))]) (bytesV_cell _) Z0 sP (by exact upd_first (pb_length Q)) zU ?_))))))
 refine Tr.nil (at_n (Sat.seq (Sat.draw [(0, 0), (0, 1), (4, 2)] Mixed zK (Tr.sliceArrLo 32 J J J J J dE Y27 Sz5 (Tr.sliceArr J J J Y77 Sz5 (Tr.copyP (bytesV S3) 32 J J J J J Y39 Sz5 (fun w h => SeesP.of (sees_own h Z1)) (fun e => by cases e) (by rw [bytesV, List.length_map]; exact lS) J (by rw [bytesV, ← List.map_take, List.take_of_length_le (Nat.le_of_eq lS)]) (bytesV_cell _) Z0 (by (simp; omega)) (by exact upd_last (pb_length Q) lS) zU ?_))))))
 refine Tr.nil (at_n (Sat.seq (Sat.region (Tr.loadAll J J J Y27 J Sz27 Z0 (by (simp [pb_length, lS]; done)) ?_))))
 refine Tr.storeAll J J J J zE Sz27 (by (simp [pb_length, lS]; done)) (by (repeat (first | exact List.mem_cons_self | refine List.mem_cons_of_mem _ ?_))) sP (by (repeat (first | exact upd0 | apply Upd.tail))) ?_
 refine Tr.nil (at_n (Sat.ret (en_r ?_)))
 refine ⟨_, [], res_cell J J Y27 J Sz27 (by (repeat (first | exact List.mem_cons_self | refine List.mem_cons_of_mem _ ?_))) (by simp [pb_length, lS]), sP, sP, ?_, rfl⟩
 rfl

theorem r5_Read_none (b : List UInt8) (hb : b.length = 32) (h : rdP b = none) : Meets Tryz.prog 112 [agg (bytesV b)] [] (fun _ => True) (fun v out => v = .tuple #[agg Point.zero.cells, i64 4] ∧ out = []) := by
  have := r5_Read b hb
  rwa [rdV_none h] at this
theorem r5_Read_some (b : List UInt8) (P : Pt Fp) (hb : b.length = 32) (h : rdP b = some P) : Meets Tryz.prog 112 [agg (bytesV b)] [] (fun _ => True) (fun v out => v = .tuple #[agg (ptc P).cells, i64 0] ∧ out = []) := by
  have := r5_Read b hb
  rwa [rdV_some h] at this
theorem r6_Good_kr (k : List UInt8) (hk : k.length = 32) (sb : Sl) (bb : List UInt8) (hbn : bb.length ≤ 80000) (sg : List UInt8) (hsg : sg.length = 64) (h1 : rdP k = none) (h2 : rdP (sg.take 32) = none) : Meets Tryz.prog 61 [agg (bytesV k), sb.v, agg (bytesV sg)] [] (fun W => BytesAt W sb bb) (fun v out => v = .bool false ∧ out = []) := by
 intro W hW
 have hd32 : (sg.drop 32).length = 32 := by rw [List.length_drop, hsg]
 have ht32 : (sg.take 32).length = 32 := by rw [List.length_take, hsg]; rfl
 refine calls_of (hp0 := []) Tryz.func61 J 51 Tryz.ntmps61 J (HRep.nil _) (Sat.seq (Sat.region (Tr.boxA J J ?_)))
 intro n3 hn3 hf3
 refine Tr.boxA J J ?_
 intro n5 hn5 hf5
 refine Tr.assign J J J (Tr.nil (at_n (Sat.seq (Sat.region (Tr.alloc (cs := (bytesV (List.replicate 32 0))) J Zr23 J ?_)))))
 intro n7 hn7 hf7
 refine Tr.nil (at_n (Sat.seq (Sat.region (Tr.alloc (cs := (bytesV (List.replicate 32 0))) J Zr77 J ?_))))
 intro n8 hn8 hf8
 refine Tr.nil (at_n (Sat.seq (Sat.draw [(0, 0), (0, 1), (4, 2)] Mixed zK (Tr.sliceArr J J J Y23 Sz5 (Tr.sliceArrHi 32 J J J J J dE dE Y27 Sz5 (Tr.copyP (bytesV (sg.take 32)) 32 J J J J J Y39 Sz5 (fun w h => sees_take (sees_own h Z2)) (fun e => by cases e) (by rw [bytesV, List.length_map]; exact ht32) J (by rw [bytesV, ← List.map_take, List.take_of_length_le (Nat.le_of_eq ht32)]) (bytesV_cell _) Z1 sP (by exact upd_all ht32) zV ?_))))))
 refine Tr.nil (at_n (Sat.seq (Sat.draw [(0, 0), (0, 1), (4, 2)] Mixed zK (Tr.sliceArr J J J Y77 Sz5 (Tr.sliceArrLo 32 J J J J J dE Y27 Sz5 (Tr.copyP (bytesV (sg.drop 32)) 32 J J J J J Y39 Sz5 (fun w h => sees_drop (sees_own h Z2)) (fun e => by cases e) (by rw [bytesV, List.length_map]; exact hd32) J (by rw [bytesV, ← List.map_take, List.take_of_length_le (Nat.le_of_eq hd32)]) (bytesV_cell _) Z0 sP (by exact upd_all hd32) zU ?_))))))
 refine Tr.nil (at_n (Sat.seq (Sat.region (Tr.loadAll J J J Y25 J Sz25 Z3 (by (simp [hk]; done)) ?_))))
 refine Tr.callV J J J J Body112 (r5_Read_none k hk h1) (fun _ _ => trivial) (Tr.move J J J (Tr.extract J J J J (Tr.extract J J J J (Tr.alloc (cs := Point.zero.cells) J Point.zr J ?_))))
 intro n9 hn9 hf9
 refine Tr.storeAll J J J J (Point.isCell zZ) Sz79 (Point.length zZ) Z0 (Point.length zZ) zU ?_
 refine Tr.assign J J J (Tr.nil (at_n (Sat.seq (Sat.region (Tr.loadAll J J J Y23 J Sz23 Z2 (by (simp [hsg]; done)) ?_)))))
 refine Tr.callV J J J J Body112 (r5_Read_none (sg.take 32) ht32 h2) (fun _ _ => trivial) (Tr.move J J J (Tr.extract J J J J (Tr.extract J J J J (Tr.alloc (cs := Point.zero.cells) J Point.zr J ?_))))
 intro n11 hn11 hf11
 refine Tr.storeAll J J J J (Point.isCell zZ) Sz79 (Point.length zZ) Z0 (Point.length zZ) zU ?_
 refine Tr.assign J J J (Tr.nil (at_n (Sat.seq (Sat.seq (Sat.region (Tr.move J J J (Tr.nei J J J J (show (!decide _) = true from congrArg not (decide_eq_false dE)) (Tr.move J J J (Tr.skp J J (Tr.skp J J (Tr.pick J J J J J J (Tr.move J J J (Tr.skp J J (Tr.skp J J (Tr.skp J J (Tr.pick J J J J J J (Tr.nil (at_n (Sat.cond_t J J (Sat.seq (Sat.region (Tr.assign J J J (Tr.nil (at_n (Sat.ret (at_r (en_r ?_)))))))))))))))))))))))))))
 refine ⟨_, [], res_tmp J J, sP, sP, ?_, rfl⟩
 rfl

theorem r6_Good_k (k : List UInt8) (hk : k.length = 32) (sb : Sl) (bb : List UInt8) (hbn : bb.length ≤ 80000) (sg : List UInt8) (hsg : sg.length = 64) (R : Pt Fp) (h1 : rdP k = none) (h2 : rdP (sg.take 32) = some R) : Meets Tryz.prog 61 [agg (bytesV k), sb.v, agg (bytesV sg)] [] (fun W => BytesAt W sb bb) (fun v out => v = .bool false ∧ out = []) := by
 intro W hW
 have hd32 : (sg.drop 32).length = 32 := by rw [List.length_drop, hsg]
 have ht32 : (sg.take 32).length = 32 := by rw [List.length_take, hsg]; rfl
 refine calls_of (hp0 := []) Tryz.func61 J 51 Tryz.ntmps61 J (HRep.nil _) (Sat.seq (Sat.region (Tr.boxA J J ?_)))
 intro n3 hn3 hf3
 refine Tr.boxA J J ?_
 intro n5 hn5 hf5
 refine Tr.assign J J J (Tr.nil (at_n (Sat.seq (Sat.region (Tr.alloc (cs := (bytesV (List.replicate 32 0))) J Zr23 J ?_)))))
 intro n7 hn7 hf7
 refine Tr.nil (at_n (Sat.seq (Sat.region (Tr.alloc (cs := (bytesV (List.replicate 32 0))) J Zr77 J ?_))))
 intro n8 hn8 hf8
 refine Tr.nil (at_n (Sat.seq (Sat.draw [(0, 0), (0, 1), (4, 2)] Mixed zK (Tr.sliceArr J J J Y23 Sz5 (Tr.sliceArrHi 32 J J J J J dE dE Y27 Sz5 (Tr.copyP (bytesV (sg.take 32)) 32 J J J J J Y39 Sz5 (fun w h => sees_take (sees_own h Z2)) (fun e => by cases e) (by rw [bytesV, List.length_map]; exact ht32) J (by rw [bytesV, ← List.map_take, List.take_of_length_le (Nat.le_of_eq ht32)]) (bytesV_cell _) Z1 sP (by exact upd_all ht32) zV ?_))))))
 refine Tr.nil (at_n (Sat.seq (Sat.draw [(0, 0), (0, 1), (4, 2)] Mixed zK (Tr.sliceArr J J J Y77 Sz5 (Tr.sliceArrLo 32 J J J J J dE Y27 Sz5 (Tr.copyP (bytesV (sg.drop 32)) 32 J J J J J Y39 Sz5 (fun w h => sees_drop (sees_own h Z2)) (fun e => by cases e) (by rw [bytesV, List.length_map]; exact hd32) J (by rw [bytesV, ← List.map_take, List.take_of_length_le (Nat.le_of_eq hd32)]) (bytesV_cell _) Z0 sP (by exact upd_all hd32) zU ?_))))))
 refine Tr.nil (at_n (Sat.seq (Sat.region (Tr.loadAll J J J Y25 J Sz25 Z3 (by (simp [hk]; done)) ?_))))
 refine Tr.callV J J J J Body112 (r5_Read_none k hk h1) (fun _ _ => trivial) (Tr.move J J J (Tr.extract J J J J (Tr.extract J J J J (Tr.alloc (cs := Point.zero.cells) J Point.zr J ?_))))
 intro n9 hn9 hf9
 refine Tr.storeAll J J J J (Point.isCell zZ) Sz79 (Point.length zZ) Z0 (Point.length zZ) zU ?_
 refine Tr.assign J J J (Tr.nil (at_n (Sat.seq (Sat.region (Tr.loadAll J J J Y23 J Sz23 Z2 (by (simp [hsg]; done)) ?_)))))
 refine Tr.callV J J J J Body112 (r5_Read_some (sg.take 32) R ht32 h2) (fun _ _ => trivial) (Tr.move J J J (Tr.extract J J J J (Tr.extract J J J J (Tr.alloc (cs := Point.zero.cells) J Point.zr J ?_))))
 intro n11 hn11 hf11
 refine Tr.storeAll J J J J (Point.isCell zP) Sz79 (Point.length zP) Z0 (Point.length zZ) zU ?_
 refine Tr.assign J J J (Tr.nil (at_n (Sat.seq (Sat.seq (Sat.region (Tr.move J J J (Tr.nei J J J J (show (!decide _) = true from congrArg not (decide_eq_false dE)) (Tr.move J J J (Tr.skp J J (Tr.skp J J (Tr.pick J J J J J J (Tr.move J J J (Tr.skp J J (Tr.skp J J (Tr.skp J J (Tr.pick J J J J J J (Tr.nil (at_n (Sat.cond_t J J (Sat.seq (Sat.region (Tr.assign J J J (Tr.nil (at_n (Sat.ret (at_r (en_r ?_)))))))))))))))))))))))))))
 refine ⟨_, [], res_tmp J J, sP, sP, ?_, rfl⟩
 rfl

theorem r6_Good_r (k : List UInt8) (hk : k.length = 32) (sb : Sl) (bb : List UInt8) (hbn : bb.length ≤ 80000) (sg : List UInt8) (hsg : sg.length = 64) (A : Pt Fp) (h1 : rdP k = some A) (h2 : rdP (sg.take 32) = none) : Meets Tryz.prog 61 [agg (bytesV k), sb.v, agg (bytesV sg)] [] (fun W => BytesAt W sb bb) (fun v out => v = .bool false ∧ out = []) := by
 intro W hW
 have hd32 : (sg.drop 32).length = 32 := by rw [List.length_drop, hsg]
 have ht32 : (sg.take 32).length = 32 := by rw [List.length_take, hsg]; rfl
 refine calls_of (hp0 := []) Tryz.func61 J 51 Tryz.ntmps61 J (HRep.nil _) (Sat.seq (Sat.region (Tr.boxA J J ?_)))
 intro n3 hn3 hf3
 refine Tr.boxA J J ?_
 intro n5 hn5 hf5
 refine Tr.assign J J J (Tr.nil (at_n (Sat.seq (Sat.region (Tr.alloc (cs := (bytesV (List.replicate 32 0))) J Zr23 J ?_)))))
 intro n7 hn7 hf7
 refine Tr.nil (at_n (Sat.seq (Sat.region (Tr.alloc (cs := (bytesV (List.replicate 32 0))) J Zr77 J ?_))))
 intro n8 hn8 hf8
 refine Tr.nil (at_n (Sat.seq (Sat.draw [(0, 0), (0, 1), (4, 2)] Mixed zK (Tr.sliceArr J J J Y23 Sz5 (Tr.sliceArrHi 32 J J J J J dE dE Y27 Sz5 (Tr.copyP (bytesV (sg.take 32)) 32 J J J J J Y39 Sz5 (fun w h => sees_take (sees_own h Z2)) (fun e => by cases e) (by rw [bytesV, List.length_map]; exact ht32) J (by rw [bytesV, ← List.map_take, List.take_of_length_le (Nat.le_of_eq ht32)]) (bytesV_cell _) Z1 sP (by exact upd_all ht32) zV ?_))))))
 refine Tr.nil (at_n (Sat.seq (Sat.draw [(0, 0), (0, 1), (4, 2)] Mixed zK (Tr.sliceArr J J J Y77 Sz5 (Tr.sliceArrLo 32 J J J J J dE Y27 Sz5 (Tr.copyP (bytesV (sg.drop 32)) 32 J J J J J Y39 Sz5 (fun w h => sees_drop (sees_own h Z2)) (fun e => by cases e) (by rw [bytesV, List.length_map]; exact hd32) J (by rw [bytesV, ← List.map_take, List.take_of_length_le (Nat.le_of_eq hd32)]) (bytesV_cell _) Z0 sP (by exact upd_all hd32) zU ?_))))))
 refine Tr.nil (at_n (Sat.seq (Sat.region (Tr.loadAll J J J Y25 J Sz25 Z3 (by (simp [hk]; done)) ?_))))
 refine Tr.callV J J J J Body112 (r5_Read_some k A hk h1) (fun _ _ => trivial) (Tr.move J J J (Tr.extract J J J J (Tr.extract J J J J (Tr.alloc (cs := Point.zero.cells) J Point.zr J ?_))))
 intro n9 hn9 hf9
 refine Tr.storeAll J J J J (Point.isCell zP) Sz79 (Point.length zP) Z0 (Point.length zZ) zU ?_
 refine Tr.assign J J J (Tr.nil (at_n (Sat.seq (Sat.region (Tr.loadAll J J J Y23 J Sz23 Z2 (by (simp [hsg]; done)) ?_)))))
 refine Tr.callV J J J J Body112 (r5_Read_none (sg.take 32) ht32 h2) (fun _ _ => trivial) (Tr.move J J J (Tr.extract J J J J (Tr.extract J J J J (Tr.alloc (cs := Point.zero.cells) J Point.zr J ?_))))
 intro n11 hn11 hf11
 refine Tr.storeAll J J J J (Point.isCell zZ) Sz79 (Point.length zZ) Z0 (Point.length zZ) zU ?_
 refine Tr.assign J J J (Tr.nil (at_n (Sat.seq (Sat.seq (Sat.region (Tr.move J J J (Tr.nei J J J J (show (!decide _) = false from congrArg not (decide_eq_true (rfl))) (Tr.move J J J (Tr.move J J J (Tr.nei J J J J (show (!decide _) = true from congrArg not (decide_eq_false dE)) (Tr.pick J J J J J J (Tr.move J J J (Tr.skp J J (Tr.skp J J (Tr.skp J J (Tr.pick J J J J J J (Tr.nil (at_n (Sat.cond_t J J (Sat.seq (Sat.region (Tr.assign J J J (Tr.nil (at_n (Sat.ret (at_r (en_r ?_)))))))))))))))))))))))))))
 refine ⟨_, [], res_tmp J J, sP, sP, ?_, rfl⟩
 rfl

theorem r6_Good_c (k : List UInt8) (hk : k.length = 32) (sb : Sl) (bb : List UInt8) (hbn : bb.length ≤ 80000) (sg : List UInt8) (hsg : sg.length = 64) (A R : Pt Fp) (h1 : rdP k = some A) (h2 : rdP (sg.take 32) = some R) (hc : ¬ le (sg.drop 32) < L) : Meets Tryz.prog 61 [agg (bytesV k), sb.v, agg (bytesV sg)] [] (fun W => BytesAt W sb bb) (fun v out => v = .bool false ∧ out = []) := by
 intro W hW
 have hd32 : (sg.drop 32).length = 32 := by rw [List.length_drop, hsg]
 have ht32 : (sg.take 32).length = 32 := by rw [List.length_take, hsg]; rfl
 have hcan := ref_canon (sg.drop 32) hd32
 rw [decide_eq_false hc] at hcan
 refine calls_of (hp0 := []) Tryz.func61 J 51 Tryz.ntmps61 J (HRep.nil _) (Sat.seq (Sat.region (Tr.boxA J J ?_)))
 intro n3 hn3 hf3
 refine Tr.boxA J J ?_
 intro n5 hn5 hf5
 refine Tr.assign J J J (Tr.nil (at_n (Sat.seq (Sat.region (Tr.alloc (cs := (bytesV (List.replicate 32 0))) J Zr23 J ?_)))))
 intro n7 hn7 hf7
 refine Tr.nil (at_n (Sat.seq (Sat.region (Tr.alloc (cs := (bytesV (List.replicate 32 0))) J Zr77 J ?_))))
 intro n8 hn8 hf8
 refine Tr.nil (at_n (Sat.seq (Sat.draw [(0, 0), (0, 1), (4, 2)] Mixed zK (Tr.sliceArr J J J Y23 Sz5 (Tr.sliceArrHi 32 J J J J J dE dE Y27 Sz5 (Tr.copyP (bytesV (sg.take 32)) 32 J J J J J Y39 Sz5 (fun w h => sees_take (sees_own h Z2)) (fun e => by cases e) (by rw [bytesV, List.length_map]; exact ht32) J (by rw [bytesV, ← List.map_take, List.take_of_length_le (Nat.le_of_eq ht32)]) (bytesV_cell _) Z1 sP (by exact upd_all ht32) zV ?_))))))
 refine Tr.nil (at_n (Sat.seq (Sat.draw [(0, 0), (0, 1), (4, 2)] Mixed zK (Tr.sliceArr J J J Y77 Sz5 (Tr.sliceArrLo 32 J J J J J dE Y27 Sz5 (Tr.copyP (bytesV (sg.drop 32)) 32 J J J J J Y39 Sz5 (fun w h => sees_drop (sees_own h Z2)) (fun e => by cases e) (by rw [bytesV, List.length_map]; exact hd32) J (by rw [bytesV, ← List.map_take, List.take_of_length_le (Nat.le_of_eq hd32)]) (bytesV_cell _) Z0 sP (by exact upd_all hd32) zU ?_))))))
 refine Tr.nil (at_n (Sat.seq (Sat.region (Tr.loadAll J J J Y25 J Sz25 Z3 (by (simp [hk]; done)) ?_))))
 refine Tr.callV J J J J Body112 (r5_Read_some k A hk h1) (fun _ _ => trivial) (Tr.move J J J (Tr.extract J J J J (Tr.extract J J J J (Tr.alloc (cs := Point.zero.cells) J Point.zr J ?_))))
 intro n9 hn9 hf9
 refine Tr.storeAll J J J J (Point.isCell zP) Sz79 (Point.length zP) Z0 (Point.length zZ) zU ?_
 refine Tr.assign J J J (Tr.nil (at_n (Sat.seq (Sat.region (Tr.loadAll J J J Y23 J Sz23 Z2 (by (simp [hsg]; done)) ?_)))))
 refine Tr.callV J J J J Body112 (r5_Read_some (sg.take 32) R ht32 h2) (fun _ _ => trivial) (Tr.move J J J (Tr.extract J J J J (Tr.extract J J J J (Tr.alloc (cs := Point.zero.cells) J Point.zr J ?_))))
 intro n11 hn11 hf11
 refine Tr.storeAll J J J J (Point.isCell zP) Sz79 (Point.length zP) Z0 (Point.length zZ) zU ?_
 refine Tr.assign J J J (Tr.nil (at_n (Sat.seq (Sat.seq (Sat.region (Tr.move J J J (Tr.nei J J J J (show (!decide _) = false from congrArg not (decide_eq_true (rfl))) (Tr.move J J J (Tr.move J J J (Tr.nei J J J J (show (!decide _) = false from congrArg not (decide_eq_true (rfl))) (Tr.pick J J J J J J (Tr.move J J J (Tr.loadAll J J J Y77 J Sz77 Z2 (by (simp [hsg]; done)) ?_)))))))))))))
 refine Tr.callV J J J J Body113 (hcan) (fun _ _ => trivial) (Tr.not J J J (Tr.pick J J J J J J (Tr.nil (at_n (Sat.cond_t J J (Sat.seq (Sat.region (Tr.assign J J J (Tr.nil (at_n (Sat.ret (at_r (en_r ?_)))))))))))))
 refine ⟨_, [], res_tmp J J, sP, sP, ?_, rfl⟩
 rfl

theorem r6_Good_ok (k : List UInt8) (hk : k.length = 32) (sb : Sl) (bb : List UInt8) (hbn : bb.length ≤ 80000) (sg : List UInt8) (hsg : sg.length = 64) (A R : Pt Fp) (h1 : rdP k = some A) (h2 : rdP (sg.take 32) = some R) (hc : le (sg.drop 32) < L) (s r : List UInt8) (hs : Hid (sha512 (sg.take 32 ++ (k ++ bb)) = s)) (hr : Hid (sgR s = r)) (hrl : r.length = 32) : Meets Tryz.prog 61 [agg (bytesV k), sb.v, agg (bytesV sg)] [] (fun W => BytesAt W sb bb) (fun v out => v = .bool (goodB k bb sg) ∧ out = []) := by
 intro W hW
 have hd32 : (sg.drop 32).length = 32 := by rw [List.length_drop, hsg]
 have ht32 : (sg.take 32).length = 32 := by rw [List.length_take, hsg]; rfl
 have hcan := ref_canon (sg.drop 32) hd32
 rw [decide_eq_true hc] at hcan
 have hA := rdP_on h1
 obtain ⟨Q, hQ⟩ : ∃ Q, cv.lin (le (sg.drop 32)) (le (sgR (sha512 (sg.take 32 ++ (k ++ bb))))) bP (neg A) = Q := ⟨_, rfl⟩
 have hmul := r5_Mul2 (sg.drop 32) r bP (neg A) hd32 hrl bP_on (cv.on_neg hA)
 rw [show cv.lin (le (sg.drop 32)) (le r) bP (neg A) = Q from by rw [← hr.out, ← hs.out]; exact hQ] at hmul
 have hch := r6_challenge (sg.take 32) k ht32 hk sb bb hbn s hs
 rw [hr.out] at hch
 refine calls_of (hp0 := []) Tryz.func61 J 51 Tryz.ntmps61 J (HRep.nil _) (Sat.seq (Sat.region (Tr.boxA J J ?_)))
 intro n3 hn3 hf3
 refine Tr.boxA J J ?_
 intro n5 hn5 hf5
 refine Tr.assign J J J (Tr.nil (at_n (Sat.seq (Sat.region (Tr.alloc (cs := (bytesV (List.replicate 32 0))) J Zr23 J ?_)))))
 intro n7 hn7 hf7
 refine Tr.nil (at_n (Sat.seq (Sat.region (Tr.alloc (cs := (bytesV (List.replicate 32 0))) J Zr77 J ?_))))
 intro n8 hn8 hf8
 refine Tr.nil (at_n (Sat.seq (Sat.draw [(0, 0), (0, 1), (4, 2)] Mixed zK (Tr.sliceArr J J J Y23 Sz5 (Tr.sliceArrHi 32 J J J J J dE dE Y27 Sz5 (Tr.copyP (bytesV (sg.take 32)) 32 J J J J J Y39 Sz5 (fun w h => sees_take (sees_own h Z2)) (fun e => by cases e) (by rw [bytesV, List.length_map]; exact ht32) J (by rw [bytesV, ← List.map_take, List.take_of_length_le (Nat.le_of_eq ht32)]) (bytesV_cell _) Z1 sP (by exact upd_all ht32) zV ?_))))))
 refine Tr.nil (at_n (Sat.seq (Sat.draw [(0, 0), (0, 1), (4, 2)] Mixed zK (Tr.sliceArr J J J Y77 Sz5 (Tr.sliceArrLo 32 J J J J J dE Y27 Sz5 (Tr.copyP (bytesV (sg.drop 32)) 32 J J J J J Y39 Sz5 (fun w h => sees_drop (sees_own h Z2)) (fun e => by cases e) (by rw [bytesV, List.length_map]; exact hd32) J (by rw [bytesV, ← List.map_take, List.take_of_length_le (Nat.le_of_eq hd32)]) (bytesV_cell _) Z0 sP (by exact upd_all hd32) zU ?_))))))
 refine Tr.nil (at_n (Sat.seq (Sat.region (Tr.loadAll J J J Y25 J Sz25 Z3 (by (simp [hk]; done)) ?_))))
 refine Tr.callV J J J J Body112 (r5_Read_some k A hk h1) (fun _ _ => trivial) (Tr.move J J J (Tr.extract J J J J (Tr.extract J J J J (Tr.alloc (cs := Point.zero.cells) J Point.zr J ?_))))
 intro n9 hn9 hf9
 refine Tr.storeAll J J J J (Point.isCell zP) Sz79 (Point.length zP) Z0 (Point.length zZ) zU ?_
 refine Tr.assign J J J (Tr.nil (at_n (Sat.seq (Sat.region (Tr.loadAll J J J Y23 J Sz23 Z2 (by (simp [hsg]; done)) ?_)))))
 refine Tr.callV J J J J Body112 (r5_Read_some (sg.take 32) R ht32 h2) (fun _ _ => trivial) (Tr.move J J J (Tr.extract J J J J (Tr.extract J J J J (Tr.alloc (cs := Point.zero.cells) J Point.zr J ?_))))
 intro n11 hn11 hf11
 refine Tr.storeAll J J J J (Point.isCell zP) Sz79 (Point.length zP) Z0 (Point.length zZ) zU ?_
 refine Tr.assign J J J (Tr.nil (at_n (Sat.seq (Sat.seq (Sat.region (Tr.move J J J (Tr.nei J J J J (show (!decide _) = false from congrArg not (decide_eq_true (rfl))) (Tr.move J J J (Tr.move J J J (Tr.nei J J J J (show (!decide _) = false from congrArg not (decide_eq_true (rfl))) (Tr.pick J J J J J J (Tr.move J J J (Tr.loadAll J J J Y77 J Sz77 Z2 (by (simp [hsg]; done)) ?_)))))))))))))
 refine Tr.callV J J J J Body113 (hcan) (fun _ _ => trivial) (Tr.not J J J (Tr.pick J J J J J J (Tr.nil (at_n (Sat.cond_f J J (Sat.skip (at_n (Sat.seq (Sat.draw [(1, 0), (1, 2), (1, 3), (0, 4), (1, 6), (1, 9), (3, 1), (3, 5), (3, 7), (3, 8), (0, 10), (0, 11)] Mixed zK (Tr.loadAll J J J Y77 J Sz77 Z2 (by (simp [hsg]; done)) ?_))))))))))
 refine Tr.loadAll J J J Y23 J Sz23 Z3 (by (simp [hsg]; done)) ?_
 refine Tr.loadAll J J J Y25 J Sz25 (by exact mem5) (by (simp [hk]; done)) ?_
 refine Tr.move J J J (Tr.loadAll J J J Y79 J Sz79 Z1 (Point.length zP) ?_)
 refine Tr.loadAll J J J Y79 J Sz79 Z0 (Point.length zP) ?_
 refine Tr.callV J J J J Body67 (r5_Base) (fun _ _ => trivial) (Tr.callV J J J J Body115 (hch) (fun w h => bytes_ext h J hW) (Tr.callV J J J J Body116 (r5_Neg A hA) (fun _ _ => trivial) (Tr.callV J J J J Body114 (hmul) (fun _ _ => trivial) (Tr.eql_rec J J J J Point.eg (fun w => Point.eq_runC (ptc_ok _) (ptc_ok _) w) (good_dec hc h1 h2 hQ) (Tr.assign J J J (Tr.nil (at_n (Sat.ret (en_r ?_)))))))))
 refine ⟨_, [], res_tmp J J, sP, sP, ?_, rfl⟩
 rfl

theorem r6_Good (k : List UInt8) (hk : k.length = 32) (sb : Sl) (bb : List UInt8) (hbn : bb.length ≤ 80000) (sg : List UInt8) (hsg : sg.length = 64) : Meets Tryz.prog 61 [agg (bytesV k), sb.v, agg (bytesV sg)] [] (fun W => BytesAt W sb bb) (fun v out => v = .bool (goodB k bb sg) ∧ out = []) := by
  cases h1 : rdP k with
  | none =>
    rw [good_no (fun e => by obtain ⟨_, ⟨A, h⟩, _⟩ := e; rw [h1] at h; cases h)]
    cases h2 : rdP (sg.take 32) with
    | none => exact r6_Good_kr k hk sb bb hbn sg hsg h1 h2
    | some R => exact r6_Good_k k hk sb bb hbn sg hsg R h1 h2
  | some A =>
    cases h2 : rdP (sg.take 32) with
    | none =>
      rw [good_no (fun e => by obtain ⟨_, _, ⟨R, h⟩⟩ := e; rw [h2] at h; cases h)]
      exact r6_Good_r k hk sb bb hbn sg hsg A h1 h2
    | some R =>
      by_cases hc : le (sg.drop 32) < L
      · exact r6_Good_ok k hk sb bb hbn sg hsg A R h1 h2 hc _ _ ⟨rfl⟩ ⟨rfl⟩ (sgR_length _)
      · rw [good_no (fun e => hc e.1)]
        exact r6_Good_c k hk sb bb hbn sg hsg A R h1 h2 hc



end Go.Proofs.YtpacobmjjjillaaGreat
end

section
namespace Go.Proofs.YtpacobmjjjillaaGreat
open Go Hw
set_option linter.unusedVariables false
set_option linter.unusedSimpArgs false

theorem room_go {x : UInt64} {k : Nat} (hk : 1 ≤ k) (h9 : k < 9) (h : ¬ ((shr64 x (7 * k)).toNat : Int) = 0) : k + 1 ≤ szN x.toNat := by
  rcases Nat.lt_or_ge k (szN x.toNat) with h1 | h1
  · exact h1
  · exact absurd (show ((shr64 x (7 * k)).toNat : Int) = 0 by rw [shr64_toNat, Nat.div_eq_of_lt ((szN_le hk oM).1 h1)]; rfl) h
theorem room_end {x : UInt64} {k : Nat} (hk : 1 ≤ k) (h9 : k < 9) (h : ((shr64 x (7 * k)).toNat : Int) = 0) : szN x.toNat ≤ k := by
  refine (szN_le hk oM).2 ?_
  rw [shr64_toNat] at h
  rcases Nat.div_eq_zero_iff.1 (show x.toNat / 2 ^ (7 * k) = 0 by omega) with h1 | h1
  · exact absurd h1 (Nat.ne_of_gt (Nat.pow_pos dE))
  · exact h1
theorem head_or : ∀ r, r < 9 → 1 ≤ r → ∀ y, y < 2 ^ (8 - r) → UInt8.ofNat (256 - 2 ^ (9 - r)) + UInt8.ofNat y = shl8 255 (9 - r) ||| UInt8.ofNat y := by decide
theorem head_9 : shl8 255 0 = 255 := by decide
theorem headB_9 {x : UInt64} (h : szN x.toNat = 9) : headB x = 255 := by
  rw [headB, h, head_9]
  have : ∀ y : UInt8, 255 ||| y = 255 := by
    intro y
    have hh : ∀ n, n < 256 → (255 : UInt8) ||| UInt8.ofNat n = 255 := by decide
    have := hh y.toNat y.toNat_lt
    rwa [UInt8.ofNat_toNat] at this
  exact this _
theorem headB_lt {x : UInt64} (h : szN x.toNat < 9) : ((256 : UInt64) - shl64 1 (9 - szN x.toNat)).toUInt8 + (shr64 x (8 * (szN x.toNat - 1))).toUInt8 = headB x := by
  have hp := szN_pos x.toNat
  have hy : (shr64 x (8 * (szN x.toNat - 1))).toNat < 2 ^ (8 - szN x.toNat) := by
    rw [shr64_toNat, Nat.div_lt_iff_lt_mul (Nat.pow_pos dE), ← Nat.pow_add, show 8 - szN x.toNat + 8 * (szN x.toNat - 1) = 7 * szN x.toNat by omega]
    exact szN_hi oM
  have h1 : ((256 : UInt64) - shl64 1 (9 - szN x.toNat)).toUInt8 = UInt8.ofNat (256 - 2 ^ (9 - szN x.toNat)) := by
    have : ∀ r, r < 9 → 1 ≤ r → ((256 : UInt64) - shl64 1 (9 - r)).toUInt8 = UInt8.ofNat (256 - 2 ^ (9 - r)) := by decide
    exact this _ h hp.1
  have h2 : (shr64 x (8 * (szN x.toNat - 1))).toUInt8 = UInt8.ofNat (shr64 x (8 * (szN x.toNat - 1))).toNat := rfl
  rw [h1, headB, h2]
  exact head_or _ h hp.1 _ hy

theorem r1_room (x : UInt64) : Meets Tryz.prog 139 [u64 x] [] (fun _ => True) (fun v out => v = i64 ((szN x.toNat : Nat) : Int) ∧ out = []) := by
 intro W hW
 have hz := szN_pos x.toNat
 refine calls_of (hp0 := []) Tryz.func139 J 17 Tryz.ntmps139 J (HRep.nil _) (Sat.seq (Sat.region (Tr.assign J J J (Tr.nil (at_n (Sat.seq (Sat.region (Tr.assign J J J (Tr.nil (at_n (Sat.seq (Sat.block (Sat.loop (ι := Nat) (fun k => ⟨[(0, u64 x), (3, i64 (k : Int))], []⟩) (fun k => 1 ≤ k ∧ k ≤ szN x.toNat) (fun k => 9 - k) (1) ?_ ?_ ?_)))))))))))))
 · exact ⟨Nat.le_refl _, hz.1⟩
 · exact weak_of (wk1 rfl (wk1 rfl wk0)) wh0 (by repeat (exact ns_nil))
 ·
  rintro k ⟨hk1, hk2⟩
  refine Sat.seq (Sat.seq (Sat.region (Tr.move J J J (two (fun r hr k => Tr.lss J J J J hr k) (fun hs2_10 => ?_) (fun hs2_10 => ?_)))))
  ·
   have hs2_1 := of_decide_eq_true hs2_10
   refine Tr.move J J J (Tr.move J J J (Tr.move J J J (Tr.mul_i64 J J J J oM (Tr.conv J J J Y3 Y35 (cv_i64_u64 _) (Tr.shr_u64 J J J J (7 * k) (by rw [show (7 : Int) * (k : Int) = ((7 * k : Nat) : Int) by omega, wordOf_id _ oM]) oM ?_)))))
   refine Tr.nei J J J J J (Tr.pick J J J J J J (Tr.nil (at_n (Sat.condNP J (fun hc0 => ?_) (fun hc0 => ?_)))))
   ·
    refine Sat.skip (at_n (Sat.block (Sat.region (Tr.move J J J (Tr.add_i64 J J J J oM (Tr.assign J J J (Tr.nil (bl_n (at_n ?_)))))))))
    exact ⟨k + 1, ⟨by omega, room_go hk1 oM zA⟩, by omega, weak_of (wk1 rfl (wk1 (by rw [Int.natCast_add]; rfl) wk0)) wh0 (by repeat (exact ns_nil))⟩
   ·
    refine Sat.exit (at_x (at_x (bl_h (at_n (Sat.seq (Sat.region (Tr.move J J J (Tr.assign J J J (Tr.nil (at_n (Sat.ret (en_r ?_))))))))))))
    refine ⟨_, [], res_tmp J J, sP, sP, ?_, rfl⟩
    (have := room_end hk1 oM zA; congr 1; omega)
  ·
   have hs2_1 := of_decide_eq_false hs2_10
   refine Tr.move J J J (Tr.skp J J (Tr.skp J J (Tr.skp J J (Tr.skp J J (Tr.skp J J (Tr.skp J J (Tr.pick J J J J J J (Tr.nil (at_n (Sat.cond_f J J (Sat.exit (at_x (at_x (bl_h (at_n (Sat.seq (Sat.region (Tr.move J J J (Tr.assign J J J (Tr.nil (at_n (Sat.ret (en_r ?_)))))))))))))))))))))))
   refine ⟨_, [], res_tmp J J, sP, sP, ?_, rfl⟩
   (congr 1; omega)

theorem r1_Number (p0 : Option Addr) (n c : Nat) (l : List UInt8) (x : UInt64) (hl : l.length = n) (hp0 : p0 = none → n = 0) (hn : n ≤ 90000) : Meets Tryz.prog 101 [.slice p0 n c, u64 x] [] (fun W => SeesP W p0 (bytesV l)) (fun v out => FreshRow v out (bytesV (l ++ numB x)) 5 (n + szN x.toNat) 1) := by
 intro W hW
 have hz := szN_pos x.toNat
 refine calls_of (hp0 := []) Tryz.func101 J 51 Tryz.ntmps101 J (HRep.nil _) (Sat.seq (Sat.region (Tr.assign J J J (Tr.nil (at_n (Sat.seq (Sat.region (Tr.mkRow2 (z := u8 0) [] [] rfl J Y39 Sz5 Zr5 J J (by intro v hv; cases hv) dE J ?_))))))))
 intro q8
 refine Tr.move J J J (Tr.appendSl (z := u8 0) (by' := 1) (bytesV l) J J J J J Y39 Y39 Sz5 Zr5 (by unfold By; kernel_rfl) J (fun w h => seesP_ext h J hW) hp0 (by simp [bytesV, isCell, u8]) rem_here J J oM oM oM (by simp [bytesV, hl]) ?_)
 intro q10 c10 hq10
 rw [Nat.zero_add n] at hq10 ⊢
 refine Tr.assign J J J (Tr.nil (at_n (Sat.seq (Sat.region (Tr.move J J J (Tr.callV J J J J Body139 (r1_room _) (fun _ _ => trivial) (Tr.assign J J J (Tr.nil (at_n (Sat.join (ι := Nat × Nat) (fun p => ⟨[(1, u64 x), (5, .slice (some ⟨p.1, 0, none⟩) (n + 1) p.2), (6, i64 ((szN x.toNat : Nat) : Int))], [⟨p.1, bytesV (l ++ [headB x]), 5, p.2 * 1⟩]⟩) (fun p => n + 1 ≤ p.2) ?_ ?_))))))))))
 ·
  refine Sat.seq (Sat.region (Tr.move J J J (Tr.eqi J J J J J (Tr.nil (at_n (Sat.condP J (fun hc0 => ?_) (fun hc0 => ?_)))))))
  ·
   refine Sat.region (Tr.move J J J (Tr.mkRow (z := u8 0) [u8 (255)] (bytesV [255]) J J J Y39 Sz5 Zr5 J J (by intro v hv; rw [List.mem_singleton.1 hv]; rfl) dE J ?_))
   intro q16
   refine Tr.appendSl (z := u8 0) (by' := 1) (bytesV [255]) J J J J J Y39 Y39 Sz5 Zr5 (by unfold By; kernel_rfl) J (fun w h => SeesP.of (sees_own h mem0)) (fun e => by cases e) (by simp [bytesV, isCell, u8]) (rem_there rem_here) J (by simp [bytesV, hl]) oM oM oM (by rfl) ?_
   intro q17 c17 hq17
   refine Tr.assign J J J (Tr.nil (at_n ?_))
   exact ⟨(q17, c17), hq17, weak_of (wk1 rfl (wk1 rfl (wk1 rfl wk0))) (wh1 (by (rw [headB_9 (x := x) oM]; simp only [bytesV, List.map_append]; exact mem0)) wh0) nD⟩
  ·
   refine Sat.region (Tr.move J J J (Tr.move J J J (Tr.sub_i64 J J J J oM (Tr.conv J J J Y3 Y35 (cv_i64_u64 _) (Tr.shl_u64 J J (show evIn _ _ = some (u64 1) from rfl) J (9 - szN x.toNat) (by rw [show (9 : Int) - ((szN x.toNat : Nat) : Int) = ((9 - szN x.toNat : Nat) : Int) by omega, wordOf_id _ oM]) oM ?_)))))
   refine Tr.sub_u64 J J (show evIn _ _ = some (u64 256) from rfl) J (Tr.conv J J J Y22 Y5 (cv_u64_u8 _) (Tr.move J J J (Tr.move J J J (Tr.sub_i64 J J J J oM (Tr.mul_i64 J J J J oM (Tr.conv J J J Y3 Y35 (cv_i64_u64 _) (Tr.shr_u64 J J J J (8 * (szN x.toNat - 1)) (by rw [show (8 : Int) * (((szN x.toNat : Nat) : Int) - 1) = ((8 * (szN x.toNat - 1) : Nat) : Int) by omega, wordOf_id _ oM]) oM ?_)))))))
   refine Tr.conv J J J Y22 Y5 (cv_u64_u8 _) (Tr.add_u8 J J J J ?_)
   rw [headB_lt (x := x) oM]
   refine Tr.mkRow (z := u8 0) [u8 (headB x)] (bytesV [headB x]) J J J Y39 Sz5 Zr5 J J (by intro v hv; rw [List.mem_singleton.1 hv]; rfl) dE J ?_
   intro q33
   refine Tr.appendSl (z := u8 0) (by' := 1) (bytesV [headB x]) J J J J J Y39 Y39 Sz5 Zr5 (by unfold By; kernel_rfl) J (fun w h => SeesP.of (sees_own h mem0)) (fun e => by cases e) (by simp [bytesV, isCell, u8]) (rem_there rem_here) J (by simp [bytesV, hl]) oM oM oM (by rfl) ?_
   intro q17 c17 hq17
   refine Tr.assign J J J (Tr.nil (at_n ?_))
   exact ⟨(q17, c17), hq17, weak_of (wk1 rfl (wk1 rfl (wk1 rfl wk0))) (wh1 (by (simp only [bytesV, List.map_append]; exact mem0)) wh0) nD⟩
 ·
  intro p hj
  have hjp := hj
  refine Sat.seq (Sat.seq (Sat.region (Tr.move J J J (Tr.sub_i64 J J J J oM (Tr.assign J J J (Tr.nil (at_n (Sat.block (Sat.loop (ι := Nat × Nat × Nat) (fun r => ⟨[(1, u64 x), (5, .slice (some ⟨r.2.1, 0, none⟩) (n + 1 + r.1) r.2.2), (7, i64 (((szN x.toNat : Nat) : Int) - 2 - (r.1 : Int)))], [⟨r.2.1, bytesV (l ++ numUp x r.1), 5, r.2.2 * 1⟩]⟩) (fun r => r.1 ≤ szN x.toNat - 1 ∧ n + 1 + r.1 ≤ r.2.2) (fun r => szN x.toNat - 1 - r.1) ((0, p.1, p.2)) ?_ ?_ ?_)))))))))
  · exact ⟨Nat.zero_le _, hjp⟩
  · exact weak_of (wk1 rfl (wk1 rfl (wk1 (by rw [show (((szN x.toNat : Nat) : Int) - 2 - ((0 : Nat) : Int)) = ((szN x.toNat : Nat) : Int) - 2 by omega]; rfl) wk0))) (wh1 (by rw [numUp_zero]; exact mem0) wh0) nD
  ·
   rintro r ⟨hp1, hp2⟩
   refine Sat.seq (Sat.seq (Sat.region (Tr.move J J J (Tr.geq J J J J J (Tr.nil (at_n (Sat.condP J (fun hc1 => ?_) (fun hc1 => ?_))))))))
   ·
    have hp3 : r.1 < szN x.toNat - 1 := by omega
    refine Sat.skip (at_n (Sat.seq (Sat.block (Sat.region (Tr.move J J J (Tr.move J J J (Tr.move J J J (Tr.mul_i64 J J J J oM (Tr.conv J J J Y3 Y35 (cv_i64_u64 _) (Tr.shr_u64 J J J J (8 * (szN x.toNat - 2 - r.1)) (by rw [show (8 : Int) * (((szN x.toNat : Nat) : Int) - 2 - (r.1 : Int)) = ((8 * (szN x.toNat - 2 - r.1) : Nat) : Int) by omega, wordOf_id _ oM]) oM ?_))))))))))
    refine Tr.conv J J J Y22 Y5 (cv_u64_u8 _) (Tr.mkRow (z := u8 0) [u8 ((shr64 x (8 * (szN x.toNat - 2 - r.1))).toUInt8)] (bytesV [(shr64 x (8 * (szN x.toNat - 2 - r.1))).toUInt8]) J J J Y39 Sz5 Zr5 J J (by intro v hv; rw [List.mem_singleton.1 hv]; rfl) dE J ?_)
    intro q48
    refine Tr.appendSl (z := u8 0) (by' := 1) (bytesV [(shr64 x (8 * (szN x.toNat - 2 - r.1))).toUInt8]) J J J J J Y39 Y39 Sz5 Zr5 (by unfold By; kernel_rfl) J (fun w h => SeesP.of (sees_own h mem0)) (fun e => by cases e) (by simp [bytesV, isCell, u8]) (rem_there rem_here) J (by rw [bytesV, List.length_map, List.length_append, hl, numUp_length x r.1 oM]; omega) oM oM oM (by rfl) ?_
    intro q2 c2 hq2
    refine Tr.assign J J J (Tr.nil (bl_n (at_n (Sat.region (Tr.move J J J (Tr.sub_i64 J J J J oM (Tr.assign J J J (Tr.nil (at_n ?_)))))))))
    exact ⟨(r.1 + 1, q2, c2), ⟨by simp only []; omega, by simp only []; omega⟩, by simp only []; omega, weak_of (wk1 rfl (wk1 (by rw [show n + 1 + (r.1 + 1) = n + 1 + r.1 + 1 by omega]; rfl) (wk1 (by rw [show (((szN x.toNat : Nat) : Int) - 2 - ((r.1 + 1 : Nat) : Int)) = ((szN x.toNat : Nat) : Int) - 2 - (r.1 : Int) - 1 by omega]; rfl) wk0))) (wh1 (by rw [numUp_step x r.1 oM, ← List.append_assoc]; simp only [bytesV, List.map_append]; exact mem0) wh0) nD⟩
   ·
    have hp3 : r.1 = szN x.toNat - 1 := by omega
    refine Sat.exit (at_x (at_x (bl_h (at_n (Sat.seq (Sat.region (Tr.move J J J (Tr.assign J J J (Tr.nil (at_n (Sat.ret (en_r ?_))))))))))))
    refine ⟨_, [⟨r.2.1, bytesV (l ++ numB x), 5, r.2.2 * 1⟩], res_tmp J J, (by intro b hb; rw [List.mem_singleton.1 hb, ← numUp_all, ← hp3]; exact mem0), nodup1, ⟨r.2.1, r.2.2, by rw [show n + 1 + r.1 = n + szN x.toNat by omega], by omega, rfl⟩⟩

end Go.Proofs.YtpacobmjjjillaaGreat
end

section
namespace Go.Proofs.YtpacobmjjjillaaGreat
open Go Hw
set_option linter.unusedVariables false
set_option linter.unusedSimpArgs false

open Ed

theorem vcheck_2 {V : Vote} (h : ¬ vcheck V = 0) : vcheck V = 2 := by
  unfold vcheck at h ⊢
  by_cases h1 : vheadB V = true
  · rw [if_pos h1]
  · rw [if_neg h1] at h ⊢
    by_cases h2 : vokB V = true
    · rw [if_pos h2] at h; exact absurd rfl h
    · rw [if_neg h2]

theorem r20_body (V : Vote) (hV : V.ok) : Meets Tryz.prog 75 [agg V.cells] [] (fun _ => True) (fun v out => FreshRow v out (bytesV (voteT V)) 5 (voteN V) 1) := by
 intro W hW
 have z1 := szN_pos V.fHeight.toNat
 have z2 := szN_pos V.fRound.toNat
 have z3 := szN_pos (Hw.byteOf V.fPhase).toUInt64.toNat
 have z4 := szN_pos V.fProof.toNat
 refine calls_of (hp0 := []) Tryz.func75 J 29 Tryz.ntmps75 J (HRep.nil _) (Sat.seq (Sat.region (Tr.boxA J J ?_)))
 intro n1 hn1 hf1
 refine Tr.assign J J J (Tr.nil (at_n (Sat.seq (Sat.region (Tr.fld J J J Y29 J Sz22 dE _ J (Tr.load1 J J J Y22 J Z0 (by exact Vote.get_fHeight zA) ?_))))))
 refine Tr.call4 J J J J J Body101 (r1_Number none 0 0 [] V.fHeight J (fun _ => rfl) oM) (fun _ _ => SeesP.nil) ?_
 rintro v6 out6 ⟨q6, c6, rfl, hc6, rfl⟩
 simp only [Nat.zero_add, List.nil_append, List.cons_append] at hc6 ⊢
 refine Tr.assign J J J (Tr.nil (at_n (Sat.seq (Sat.region (Tr.move J J J (Tr.fld J J J Y29 J Sz22 dE _ J (Tr.load1 J J J Y22 J Z1 (by exact Vote.get_fRound zA) ?_)))))))
 refine Tr.call4 J J J J J Body101 (r1_Number (some ⟨q6, 0, none⟩) (szN V.fHeight.toNat) c6 (numB V.fHeight) (V.fRound) (by simp only [List.length_append, numB_length, hV.l_fValue]) (fun e => by cases e) oM) (fun w h => SeesP.of (sees_own (cs := bytesV (numB V.fHeight)) h Z0)) ?_
 rintro v10 out10 ⟨q10, c10, rfl, hc10, rfl⟩
 refine Tr.assign J J J (Tr.nil (at_n (Sat.seq (Sat.region (Tr.move J J J (Tr.fld J J J Y29 J Sz3 dE _ J (Tr.load1 J J J Y3 J Z2 (by exact Vote.get_fPhase zA) ?_)))))))
 refine Tr.conv J J J Y3 Y5 (cv_i64_u8 _) (Tr.conv J J J Y5 Y22 (cv_u8_u64 _) (Tr.call4 J J J J J Body101 (r1_Number (some ⟨q10, 0, none⟩) (szN V.fHeight.toNat + szN V.fRound.toNat) c10 (numB V.fHeight ++ numB V.fRound) ((Hw.byteOf V.fPhase).toUInt64) (by simp only [List.length_append, numB_length, hV.l_fValue]) (fun e => by cases e) oM) (fun w h => SeesP.of (sees_own (cs := bytesV (numB V.fHeight ++ numB V.fRound)) h Z0)) ?_))
 rintro v16 out16 ⟨q16, c16, rfl, hc16, rfl⟩
 refine Tr.assign J J J (Tr.nil (at_n (Sat.seq (Sat.region (Tr.move J J J (Tr.fld J J J Y29 J Sz24 dE _ J (Tr.sliceArr J J J Y24 Sz5 (Tr.appendSl (z := u8 0) (by' := 1) (bytesV V.fValue) J J J J J Y39 Y39 Sz5 Zr5 (by unfold By; kernel_rfl) J (fun w h => SeesP.of (sees_part h Z3 (Vote.see_fValue hV))) (fun e => by cases e) (bytesV_cell _) rM J (by rw [bytesV, List.length_map]; simp only [List.length_append, numB_length, hV.l_fValue]; omega) oM oM oM (by simp [hV.l_fValue]) ?_))))))))
 intro q20 c20 hq20
 rw [← bytesV_app]
 refine Tr.assign J J J (Tr.nil (at_n (Sat.seq (Sat.region (Tr.move J J J (Tr.fld J J J Y29 J Sz22 dE _ J (Tr.load1 J J J Y22 J Z3 (by exact Vote.get_fProof zA) ?_)))))))
 refine Tr.call4 J J J J J Body101 (r1_Number (some ⟨q20, 0, none⟩) (szN V.fHeight.toNat + szN V.fRound.toNat + szN (Hw.byteOf V.fPhase).toUInt64.toNat + 32) c20 (numB V.fHeight ++ numB V.fRound ++ numB (Hw.byteOf V.fPhase).toUInt64 ++ V.fValue) (V.fProof) (by simp only [List.length_append, numB_length, hV.l_fValue]) (fun e => by cases e) oM) (fun w h => SeesP.of (sees_own (cs := bytesV (numB V.fHeight ++ numB V.fRound ++ numB (Hw.byteOf V.fPhase).toUInt64 ++ V.fValue)) h Z0)) ?_
 rintro v24 out24 ⟨q24, c24, rfl, hc24, rfl⟩
 refine Tr.assign J J J (Tr.nil (at_n (Sat.seq (Sat.region (Tr.move J J J (Tr.fld J J J Y29 J Sz25 dE _ J (Tr.sliceArr J J J Y25 Sz5 (Tr.appendSl (z := u8 0) (by' := 1) (bytesV V.fVoter) J J J J J Y39 Y39 Sz5 Zr5 (by unfold By; kernel_rfl) J (fun w h => SeesP.of (sees_part h Z4 (Vote.see_fVoter hV))) (fun e => by cases e) (bytesV_cell _) rM J (by rw [bytesV, List.length_map]; simp only [List.length_append, numB_length, hV.l_fValue]; omega) oM oM oM (by simp [hV.l_fVoter]) ?_))))))))
 intro q28 c28 hq28
 rw [← bytesV_app]
 refine Tr.assign J J J (Tr.nil (at_n (Sat.ret (en_r (end_perm (out := (⟨q28, bytesV (numB V.fHeight ++ numB V.fRound ++ numB (Hw.byteOf V.fPhase).toUInt64 ++ V.fValue ++ numB V.fProof ++ V.fVoter), 5, c28 * 1⟩ :: [])) (res_tmp J J) (pm_cons rM pm_nil) ?_)))))
 exact ⟨q28, c28, rfl, by unfold voteN; omega, rfl⟩

theorem r20_Text (V : Vote) (hV : V.ok) : Meets Tryz.prog 29 [agg V.cells] [] (fun _ => True) (fun v out => FreshRow v out (bytesV (vtxt V)) 5 (vtxt V).length 1) := by
 intro W hW
 have hvl := vtxt_length hV
 have hvn := voteN_le V
 have htl := voteT_length hV
 refine calls_of (hp0 := []) Tryz.func29 J 8 Tryz.ntmps29 J (HRep.nil _) (Sat.seq (Sat.region (Tr.boxA J J ?_)))
 intro n1 hn1 hf1
 refine Tr.assign J J J (Tr.nil (at_n (Sat.seq (Sat.region (Tr.mkRow2 (z := u8 0) [u8 118, u8 111, u8 116, u8 101] (bytesV vtag) J J Y39 Sz5 Zr5 J J (by intro v hv; simp only [List.mem_cons, List.not_mem_nil, or_false] at hv; rcases hv with rfl | rfl | rfl | rfl <;> rfl) dE J ?_)))))
 intro q3
 refine Tr.constB J J J J Y39 Y5 Z0 ?_
 refine Tr.loadAll J J J Y29 J Sz29 Z1 (Vote.length zA) ?_
 refine Tr.call4 J J J J J Body75 (r20_body V hV) (fun _ _ => trivial) ?_
 rintro v6 out6 ⟨q6, c6, rfl, hc6, rfl⟩
 refine Tr.appendSl (z := u8 0) (by' := 1) (bytesV (voteT V)) J J J J J Y39 Y39 Sz5 Zr5 (by unfold By; kernel_rfl) J (fun w h => SeesP.of (sees_own (cs := bytesV (voteT V)) h Z0)) (fun e => by cases e) (bytesV_cell _) rM J J oM oM oM (by rw [bytesV, List.length_map, htl, Nat.mul_one]) ?_
 intro q7 c7 hq7
 rw [← bytesV_app]
 refine Tr.assign J J J (Tr.nil (at_n (Sat.ret (en_r (end_perm (out := (⟨q7, bytesV (vtag ++ voteT V), 5, c7 * 1⟩ :: [])) (res_tmp J J) (pm_cons rM pm_nil) ?_)))))
 exact ⟨q7, c7, by rw [hvl], by rw [hvl]; exact hq7, rfl⟩

theorem r20_Check (V : Vote) (hV : V.ok) : Meets Tryz.prog 28 [agg V.cells] [] (fun _ => True) (fun v out => v = i64 (vcheck V) ∧ out = []) := by
  intro W hW
  refine calls_of (hp0 := []) Tryz.func28 J 53 Tryz.ntmps28 J (HRep.nil _) (Sat.seq (Sat.region (Tr.boxA J J ?_)))
  intro n1 hn1 hf1
  refine Tr.assign J J J (Tr.nil (at_n (Sat.seq (Sat.region (Tr.alloc (cs := (bytesV (List.replicate 32 0))) J Zr24 J ?_)))))
  intro n3 hn3 hf3
  refine Tr.nil (at_n (Sat.seq (Sat.seq (Sat.region (Tr.fld J J J Y29 J Sz22 dE _ J (Tr.load1 J J J Y22 J Z1 (by exact Vote.get_fHeight zA) ?_))))))
  refine two (fun r hr k => Tr.lss J J J J hr k) (fun hs2_20 => ?_) (fun hs2_20 => ?_)
  ·
    have hs2_2 := of_decide_eq_true hs2_20
    refine Tr.move J J J (Tr.skp J J (Tr.skp J J (Tr.skp J J (Tr.pick J J J J J J (Tr.move J J J (Tr.skp J J (Tr.skp J J (Tr.skp J J (Tr.pick J J J J J J (Tr.move J J J (Tr.skp J J (Tr.skp J J (Tr.skp J J (Tr.pick J J J J J J (Tr.move J J J (Tr.skp J J (Tr.skp J J (Tr.skp J J (Tr.pick J J J J J J (Tr.nil (at_n (Sat.cond_t J J (Sat.seq (Sat.region (Tr.assign J J J (Tr.nil (at_n (Sat.ret (at_r (en_r ?_))))))))))))))))))))))))))))))
    refine ⟨_, [], res_tmp J J, sP, sP, ?_, rfl⟩
    first
      | (unfold vcheck vheadB vokB; simp_all; done)
      | (have e1 : ¬ V.fPhase = 1 := by omega
         have e2 : ¬ V.fPhase = 2 := by omega
         have e3 : ¬ V.fPhase = 3 := by omega
         unfold vcheck vheadB vokB; simp_all; done)
      | (unfold vcheck vheadB vokB; simp_all; omega)
  ·
    have hs2_2 := of_decide_eq_false hs2_20
    refine Tr.move J J J (Tr.fld J J J Y29 J Sz22 dE _ J (Tr.load1 J J J Y22 J Z1 (by exact Vote.get_fHeight zA) ?_))
    refine two (fun r hr k => Tr.geq J J J J hr k) (fun hs2_60 => ?_) (fun hs2_60 => ?_)
    ·
      have hs2_6 := of_decide_eq_true hs2_60
      refine Tr.pick J J J J J J (Tr.move J J J (Tr.skp J J (Tr.skp J J (Tr.skp J J (Tr.pick J J J J J J (Tr.move J J J (Tr.skp J J (Tr.skp J J (Tr.skp J J (Tr.pick J J J J J J (Tr.move J J J (Tr.skp J J (Tr.skp J J (Tr.skp J J (Tr.pick J J J J J J (Tr.nil (at_n (Sat.cond_t J J (Sat.seq (Sat.region (Tr.assign J J J (Tr.nil (at_n (Sat.ret (at_r (en_r ?_))))))))))))))))))))))))))
      refine ⟨_, [], res_tmp J J, sP, sP, ?_, rfl⟩
      first
        | (unfold vcheck vheadB vokB; simp_all; done)
        | (have e1 : ¬ V.fPhase = 1 := by omega
           have e2 : ¬ V.fPhase = 2 := by omega
           have e3 : ¬ V.fPhase = 3 := by omega
           unfold vcheck vheadB vokB; simp_all; done)
        | (unfold vcheck vheadB vokB; simp_all; omega)
    ·
      have hs2_6 := of_decide_eq_false hs2_60
      refine Tr.pick J J J J J J (Tr.move J J J (Tr.fld J J J Y29 J Sz22 dE _ J (Tr.load1 J J J Y22 J Z1 (by exact Vote.get_fRound zA) ?_)))
      refine two (fun r hr k => Tr.gtr J J J J hr k) (fun hs2_110 => ?_) (fun hs2_110 => ?_)
      ·
        have hs2_11 := of_decide_eq_true hs2_110
        refine Tr.pick J J J J J J (Tr.move J J J (Tr.skp J J (Tr.skp J J (Tr.skp J J (Tr.pick J J J J J J (Tr.move J J J (Tr.skp J J (Tr.skp J J (Tr.skp J J (Tr.pick J J J J J J (Tr.nil (at_n (Sat.cond_t J J (Sat.seq (Sat.region (Tr.assign J J J (Tr.nil (at_n (Sat.ret (at_r (en_r ?_)))))))))))))))))))))
        refine ⟨_, [], res_tmp J J, sP, sP, ?_, rfl⟩
        first
          | (unfold vcheck vheadB vokB; simp_all; done)
          | (have e1 : ¬ V.fPhase = 1 := by omega
             have e2 : ¬ V.fPhase = 2 := by omega
             have e3 : ¬ V.fPhase = 3 := by omega
             unfold vcheck vheadB vokB; simp_all; done)
          | (unfold vcheck vheadB vokB; simp_all; omega)
      ·
        have hs2_11 := of_decide_eq_false hs2_110
        refine Tr.pick J J J J J J (Tr.move J J J (Tr.fld J J J Y29 J Sz3 dE _ J (Tr.load1 J J J Y3 J Z1 (by exact Vote.get_fPhase zA) ?_)))
        refine two (fun r hr k => Tr.lss J J J J hr k) (fun hs2_160 => ?_) (fun hs2_160 => ?_)
        ·
          have hs2_16 := of_decide_eq_true hs2_160
          refine Tr.pick J J J J J J (Tr.move J J J (Tr.skp J J (Tr.skp J J (Tr.skp J J (Tr.pick J J J J J J (Tr.nil (at_n (Sat.cond_t J J (Sat.seq (Sat.region (Tr.assign J J J (Tr.nil (at_n (Sat.ret (at_r (en_r ?_))))))))))))))))
          refine ⟨_, [], res_tmp J J, sP, sP, ?_, rfl⟩
          first
            | (unfold vcheck vheadB vokB; simp_all; done)
            | (have e1 : ¬ V.fPhase = 1 := by omega
               have e2 : ¬ V.fPhase = 2 := by omega
               have e3 : ¬ V.fPhase = 3 := by omega
               unfold vcheck vheadB vokB; simp_all; done)
            | (unfold vcheck vheadB vokB; simp_all; omega)
        ·
          have hs2_16 := of_decide_eq_false hs2_160
          refine Tr.pick J J J J J J (Tr.move J J J (Tr.fld J J J Y29 J Sz3 dE _ J (Tr.load1 J J J Y3 J Z1 (by exact Vote.get_fPhase zA) ?_)))
          refine Tr.gtr J J J J J (Tr.pick J J J J J J (Tr.nil (at_n (Sat.condP J (fun hc0 => ?_) (fun hc0 => ?_)))))
          ·
            refine Sat.seq (Sat.region (Tr.assign J J J (Tr.nil (at_n (Sat.ret (at_r (en_r ?_)))))))
            refine ⟨_, [], res_tmp J J, sP, sP, ?_, rfl⟩
            first
              | (unfold vcheck vheadB vokB; simp_all; done)
              | (have e1 : ¬ V.fPhase = 1 := by omega
                 have e2 : ¬ V.fPhase = 2 := by omega
                 have e3 : ¬ V.fPhase = 3 := by omega
                 unfold vcheck vheadB vokB; simp_all; done)
              | (unfold vcheck vheadB vokB; simp_all; omega)
          ·
            refine Sat.skip (at_n (Sat.seq (Sat.seq (Sat.region (Tr.fld J J J Y29 J Sz3 dE _ J (Tr.load1 J J J Y3 J Z1 (by exact Vote.get_fPhase zA) ?_))))))
            refine two (fun r hr k => Tr.eqi J J J J hr k) (fun hs4_20 => ?_) (fun hs4_20 => ?_)
            ·
              have hs4_2 := of_decide_eq_true hs4_20
              refine Tr.move J J J (Tr.fld J J J Y29 J Sz24 dE _ J (Tr.loadN (bytesV _) J J J Y24 J Sz24 Z1 (Vote.row_fValue zA) (Vote.rl_fValue zA) ?_))
              refine Tr.loadAll J J J Y24 J Sz24 Z0 sP ?_
              refine two (fun r hr k => Tr.eql_bytes J J J J Tryz.eqGuardType24 Y24 Y5 Sz5 (by (simp [hV.l_fValue]; done)) sP hr k) (fun hs4_70 => ?_) (fun hs4_70 => ?_)
              ·
                have hs4_7 := of_decide_eq_true hs4_70
                refine Tr.move J J J (Tr.skp J J (Tr.skp J J (Tr.skp J J (Tr.skp J J (Tr.skp J J (Tr.pick J J J J J J (Tr.pick J J J J J J (Tr.move J J J (Tr.skp J J (Tr.skp J J (Tr.skp J J (Tr.skp J J (Tr.skp J J (Tr.skp J J (Tr.skp J J (Tr.skp J J (Tr.pick J J J J J J (Tr.nil (at_n (Sat.cond_t J J (Sat.seq (Sat.region (Tr.assign J J J (Tr.nil (at_n (Sat.ret (at_r (en_r ?_))))))))))))))))))))))))))))
                refine ⟨_, [], res_tmp J J, sP, sP, ?_, rfl⟩
                first
                  | (unfold vcheck vheadB vokB; simp_all; done)
                  | (have e1 : ¬ V.fPhase = 1 := by omega
                     have e2 : ¬ V.fPhase = 2 := by omega
                     have e3 : ¬ V.fPhase = 3 := by omega
                     unfold vcheck vheadB vokB; simp_all; done)
                  | (unfold vcheck vheadB vokB; simp_all; omega)
              ·
                have hs4_7 := of_decide_eq_false hs4_70
                refine Tr.move J J J (Tr.fld J J J Y29 J Sz22 dE _ J (Tr.load1 J J J Y22 J Z1 (by exact Vote.get_fProof zA) ?_))
                refine Tr.fld J J J Y29 J Sz22 dE _ J (Tr.load1 J J J Y22 J Z1 (by exact Vote.get_fRound zA) ?_)
                refine two (fun r hr k => Tr.gtr J J J J hr k) (fun hs4_130 => ?_) (fun hs4_130 => ?_)
                ·
                  have hs4_13 := of_decide_eq_true hs4_130
                  refine Tr.pick J J J J J J (Tr.pick J J J J J J (Tr.move J J J (Tr.skp J J (Tr.skp J J (Tr.skp J J (Tr.skp J J (Tr.skp J J (Tr.skp J J (Tr.skp J J (Tr.skp J J (Tr.pick J J J J J J (Tr.nil (at_n (Sat.cond_t J J (Sat.seq (Sat.region (Tr.assign J J J (Tr.nil (at_n (Sat.ret (at_r (en_r ?_))))))))))))))))))))))
                  refine ⟨_, [], res_tmp J J, sP, sP, ?_, rfl⟩
                  first
                    | (unfold vcheck vheadB vokB; simp_all; done)
                    | (have e1 : ¬ V.fPhase = 1 := by omega
                       have e2 : ¬ V.fPhase = 2 := by omega
                       have e3 : ¬ V.fPhase = 3 := by omega
                       unfold vcheck vheadB vokB; simp_all; done)
                    | (unfold vcheck vheadB vokB; simp_all; omega)
                ·
                  have hs4_13 := of_decide_eq_false hs4_130
                  refine Tr.pick J J J J J J (Tr.pick J J J J J J (Tr.move J J J (Tr.fld J J J Y29 J Sz3 dE _ J (Tr.load1 J J J Y3 J Z1 (by exact Vote.get_fPhase zA) ?_))))
                  refine two (fun r hr k => Tr.nei J J J J hr k) (fun hs4_190 => ?_) (fun hs4_190 => ?_)
                  ·
                    have hs4_19 := nd_t hs4_190
                    refine Tr.move J J J (Tr.fld J J J Y29 J Sz22 dE _ J (Tr.load1 J J J Y22 J Z1 (by exact Vote.get_fProof zA) ?_))
                    refine Tr.nei J J J J J (Tr.pick J J J J J J (Tr.pick J J J J J J (Tr.nil (at_n (Sat.condNP J (fun hc1 => ?_) (fun hc1 => ?_))))))
                    ·
                      refine Sat.seq (Sat.region (Tr.assign J J J (Tr.nil (at_n (Sat.ret (at_r (en_r ?_)))))))
                      refine ⟨_, [], res_tmp J J, sP, sP, ?_, rfl⟩
                      first
                        | (unfold vcheck vheadB vokB; simp_all; done)
                        | (have e1 : ¬ V.fPhase = 1 := by omega
                           have e2 : ¬ V.fPhase = 2 := by omega
                           have e3 : ¬ V.fPhase = 3 := by omega
                           unfold vcheck vheadB vokB; simp_all; done)
                        | (unfold vcheck vheadB vokB; simp_all; omega)
                    ·
                      refine Sat.skip (at_n (Sat.seq (Sat.region (Tr.assign J J J (Tr.nil (at_n (Sat.ret (en_r ?_))))))))
                      refine ⟨_, [], res_tmp J J, sP, sP, ?_, rfl⟩
                      first
                        | (unfold vcheck vheadB vokB; simp_all; done)
                        | (have e1 : ¬ V.fPhase = 1 := by omega
                           have e2 : ¬ V.fPhase = 2 := by omega
                           have e3 : ¬ V.fPhase = 3 := by omega
                           unfold vcheck vheadB vokB; simp_all; done)
                        | (unfold vcheck vheadB vokB; simp_all; omega)
                  ·
                    have hs4_19 := nd_f hs4_190
                    refine Tr.move J J J (Tr.skp J J (Tr.skp J J (Tr.skp J J (Tr.pick J J J J J J (Tr.pick J J J J J J (Tr.nil (at_n (Sat.cond_f J J (Sat.skip (at_n (Sat.seq (Sat.region (Tr.assign J J J (Tr.nil (at_n (Sat.ret (en_r ?_)))))))))))))))))
                    refine ⟨_, [], res_tmp J J, sP, sP, ?_, rfl⟩
                    first
                      | (unfold vcheck vheadB vokB; simp_all; done)
                      | (have e1 : ¬ V.fPhase = 1 := by omega
                         have e2 : ¬ V.fPhase = 2 := by omega
                         have e3 : ¬ V.fPhase = 3 := by omega
                         unfold vcheck vheadB vokB; simp_all; done)
                      | (unfold vcheck vheadB vokB; simp_all; omega)
            ·
              have hs4_2 := of_decide_eq_false hs4_20
              refine Tr.move J J J (Tr.skp J J (Tr.skp J J (Tr.skp J J (Tr.skp J J (Tr.skp J J (Tr.skp J J (Tr.skp J J (Tr.skp J J (Tr.skp J J (Tr.skp J J (Tr.skp J J (Tr.pick J J J J J J (Tr.move J J J (Tr.fld J J J Y29 J Sz3 dE _ J (Tr.load1 J J J Y3 J Z1 (by exact Vote.get_fPhase zA) ?_)))))))))))))))
              refine two (fun r hr k => Tr.nei J J J J hr k) (fun hs4_190 => ?_) (fun hs4_190 => ?_)
              ·
                have hs4_19 := nd_t hs4_190
                refine Tr.move J J J (Tr.fld J J J Y29 J Sz22 dE _ J (Tr.load1 J J J Y22 J Z1 (by exact Vote.get_fProof zA) ?_))
                refine Tr.nei J J J J J (Tr.pick J J J J J J (Tr.pick J J J J J J (Tr.nil (at_n (Sat.condNP J (fun hc1 => ?_) (fun hc1 => ?_))))))
                ·
                  refine Sat.seq (Sat.region (Tr.assign J J J (Tr.nil (at_n (Sat.ret (at_r (en_r ?_)))))))
                  refine ⟨_, [], res_tmp J J, sP, sP, ?_, rfl⟩
                  first
                    | (unfold vcheck vheadB vokB; simp_all; done)
                    | (have e1 : ¬ V.fPhase = 1 := by omega
                       have e2 : ¬ V.fPhase = 2 := by omega
                       have e3 : ¬ V.fPhase = 3 := by omega
                       unfold vcheck vheadB vokB; simp_all; done)
                    | (unfold vcheck vheadB vokB; simp_all; omega)
                ·
                  refine Sat.skip (at_n (Sat.seq (Sat.region (Tr.assign J J J (Tr.nil (at_n (Sat.ret (en_r ?_))))))))
                  refine ⟨_, [], res_tmp J J, sP, sP, ?_, rfl⟩
                  first
                    | (unfold vcheck vheadB vokB; simp_all; done)
                    | (have e1 : ¬ V.fPhase = 1 := by omega
                       have e2 : ¬ V.fPhase = 2 := by omega
                       have e3 : ¬ V.fPhase = 3 := by omega
                       unfold vcheck vheadB vokB; simp_all; done)
                    | (unfold vcheck vheadB vokB; simp_all; omega)
              ·
                have hs4_19 := nd_f hs4_190
                refine Tr.move J J J (Tr.skp J J (Tr.skp J J (Tr.skp J J (Tr.pick J J J J J J (Tr.pick J J J J J J (Tr.nil (at_n (Sat.cond_f J J (Sat.skip (at_n (Sat.seq (Sat.region (Tr.assign J J J (Tr.nil (at_n (Sat.ret (en_r ?_)))))))))))))))))
                refine ⟨_, [], res_tmp J J, sP, sP, ?_, rfl⟩
                first
                  | (unfold vcheck vheadB vokB; simp_all; done)
                  | (have e1 : ¬ V.fPhase = 1 := by omega
                     have e2 : ¬ V.fPhase = 2 := by omega
                     have e3 : ¬ V.fPhase = 3 := by omega
                     unfold vcheck vheadB vokB; simp_all; done)
                  | (unfold vcheck vheadB vokB; simp_all; omega)

theorem r20_Good (V : Vote) (hV : V.ok) : Meets Tryz.prog 15 [agg V.cells] [] (fun _ => True) (fun v out => v = i64 (vgood V) ∧ out = []) := by
 intro W hW
 have hvl := vtxt_length hV
 have hvn := voteN_le V
 refine calls_of (hp0 := []) Tryz.func15 J 14 Tryz.ntmps15 J (HRep.nil _) (Sat.seq (Sat.region (Tr.boxA J J ?_)))
 intro n1 hn1 hf1
 refine Tr.assign J J J (Tr.nil (at_n (Sat.seq (Sat.seq (Sat.region (Tr.loadAll J J J Y29 J Sz29 Z0 (Vote.length zA) ?_))))))
 refine Tr.callV J J J J Body28 (r20_Check V hV) (fun _ _ => trivial) (Tr.nei J J J J J (Tr.nil (at_n (Sat.condNP J (fun hc0 => ?_) (fun hc0 => ?_)))))
 ·
  refine Sat.seq (Sat.region (Tr.assign J J J (Tr.nil (at_n (Sat.ret (at_r (en_r ?_)))))))
  refine ⟨_, [], res_tmp J J, sP, sP, ?_, rfl⟩
  (unfold vgood; rw [if_neg hc0, vcheck_2 hc0]; done)
 ·
  refine Sat.skip (at_n (Sat.seq (Sat.seq (Sat.draw [(0, 0), (1, 1), (1, 2), (0, 4), (1, 5), (3, 3), (3, 6), (0, 7)] Mixed zK (Tr.fld J J J Y29 J Sz25 dE _ J (Tr.loadN (bytesV _) J J J Y25 J Sz25 Z0 (Vote.row_fVoter zA) (Vote.rl_fVoter zA) ?_))))))
  refine Tr.loadAll J J J Y29 J Sz29 Z0 (Vote.length zA) ?_
  refine Tr.fld J J J Y29 J Sz27 dE _ J (Tr.loadN (bytesV _) J J J Y27 J Sz27 Z0 (Vote.row_fSig zA) (Vote.rl_fSig zA) ?_)
  refine Tr.call J J J J Body29 (r20_Text V hV) (FreshRow.loose _ _ _ _) (fun _ _ => trivial) ?_
  rintro v12 out12 ⟨q12, c12, rfl, hc12, rfl⟩
  refine Tr.callV J J J J Body61 (r6_Good V.fVoter hV.l_fVoter ⟨some ⟨q12, 0, none⟩, _, c12⟩ (vtxt V) oM V.fSig hV.l_fSig) (fun w h => own_vtxt hV (SeesP.of (sees_own h Z0)) hc12) ?_
  refine Tr.not J J J (Tr.nil (at_n (Sat.cond J (fun hc1 => ?_) (fun hc1 => ?_))))
  ·
   refine Sat.seq (Sat.region (Tr.assign J J J (Tr.nil (at_n (Sat.ret (at_r (en_r ?_)))))))
   refine ⟨_, [], res_tmp J J, sP, sP, ?_, rfl⟩
   (unfold vgood; rw [if_pos oM, if_neg (by intro e; rw [e] at hc1; cases hc1)]; done)
  ·
   refine Sat.skip (at_n (Sat.seq (Sat.region (Tr.assign J J J (Tr.nil (at_n (Sat.ret (en_r ?_))))))))
   refine ⟨_, [], res_tmp J J, sP, sP, ?_, rfl⟩
   (unfold vgood; rw [if_pos oM, if_pos (by simpa using hc1)]; done)

end Go.Proofs.YtpacobmjjjillaaGreat
end

section
namespace Go.Proofs.YtpacobmjjjillaaGreat
open Go Hw
set_option linter.unusedVariables false
set_option linter.unusedSimpArgs false

def vcmp (a b : Vote) : Int := orI [cmpI (a.fHeight.toNat : Int) (b.fHeight.toNat : Int), cmpI (a.fRound.toNat : Int) (b.fRound.toNat : Int), cmpI a.fPhase b.fPhase, cmpB a.fVoter b.fVoter, cmpB a.fValue b.fValue, cmpI (a.fProof.toNat : Int) (b.fProof.toNat : Int)]
def same4 (a b : Vote) : Bool := decide (a.fVoter = b.fVoter) && (decide ((a.fHeight.toNat : Int) = (b.fHeight.toNat : Int)) && (decide ((a.fRound.toNat : Int) = (b.fRound.toNat : Int)) && decide (a.fPhase = b.fPhase)))
def against (a b : Vote) : Bool := same4 a b && (!decide (a.fValue = b.fValue) || !decide ((a.fProof.toNat : Int) = (b.fProof.toNat : Int)))

theorem vote_cmp (a b : Vote) (ha : a.ok) (hb : b.ok) : Meets Tryz.prog 32 [agg a.cells, agg b.cells] [] (fun _ => True) (fun v out => v = i64 (vcmp a b) ∧ out = []) := by
 intro W hW
 refine calls_of (hp0 := []) Tryz.func32 J 39 Tryz.ntmps32 J (HRep.nil _) (Sat.seq (Sat.region (Tr.boxA J J ?_)))
 intro n2 hn2 hf2
 refine Tr.boxA J J ?_
 intro n3 hn3 hf3
 refine Tr.assign J J J (Tr.nil (at_n (Sat.seq (Sat.draw [(0, 0), (1, 1), (0, 2), (1, 3), (0, 5), (1, 6), (0, 7), (1, 8), (0, 10), (1, 11), (0, 12), (1, 13), (0, 15), (0, 16), (0, 17), (0, 18), (0, 20), (0, 21), (0, 22), (0, 23), (0, 25), (1, 26), (0, 27), (1, 28), (3, 4), (3, 9), (3, 14), (3, 19), (3, 24), (3, 29), (0, 30), (2, 31), (4, 32)] Mixed zK (Tr.fld J J J Y29 J Sz22 dE _ J (Tr.load1 J J J Y22 J Z1 (by exact Vote.get_fHeight zA) ?_))))))
 refine Tr.fld J J J Y29 J Sz22 dE _ J (Tr.load1 J J J Y22 J Z0 (by exact Vote.get_fHeight zA) ?_)
 refine Tr.fld J J J Y29 J Sz22 dE _ J (Tr.load1 J J J Y22 J Z1 (by exact Vote.get_fRound zA) ?_)
 refine Tr.fld J J J Y29 J Sz22 dE _ J (Tr.load1 J J J Y22 J Z0 (by exact Vote.get_fRound zA) ?_)
 refine Tr.fld J J J Y29 J Sz3 dE _ J (Tr.load1 J J J Y3 J Z1 (by exact Vote.get_fPhase zA) ?_)
 refine Tr.fld J J J Y29 J Sz3 dE _ J (Tr.load1 J J J Y3 J Z0 (by exact Vote.get_fPhase zA) ?_)
 refine Tr.fld J J J Y29 J Sz25 dE _ J (Tr.sliceArr J J J Y25 Sz5 (Tr.fld J J J Y29 J Sz25 dE _ J (Tr.sliceArr J J J Y25 Sz5 (Tr.fld J J J Y29 J Sz24 dE _ J (Tr.sliceArr J J J Y24 Sz5 (Tr.fld J J J Y29 J Sz24 dE _ J (Tr.sliceArr J J J Y24 Sz5 (Tr.fld J J J Y29 J Sz22 dE _ J (Tr.load1 J J J Y22 J Z1 (by exact Vote.get_fProof zA) ?_)))))))))
 refine Tr.fld J J J Y29 J Sz22 dE _ J (Tr.load1 J J J Y22 J Z0 (by exact Vote.get_fProof zA) ?_)
 refine Tr.callV J J J J Body82 (cmp_uint64 _ _) (fun _ _ => trivial) (Tr.callV J J J J Body82 (cmp_uint64 _ _) (fun _ _ => trivial) (Tr.callV J J J J Body83 (cmp_int _ _) (fun _ _ => trivial) (Tr.callV J J J J Body84 (bytes_cmp _ _ _ _ _ _ a.fVoter b.fVoter ha.l_fVoter hb.l_fVoter) (fun W2 W2h => ⟨(SeesP.of (sees_part W2h Z1 (Vote.see_fVoter ha))), (SeesP.of (sees_part W2h Z0 (Vote.see_fVoter hb)))⟩) ?_)))
 refine Tr.callV J J J J Body84 (bytes_cmp _ _ _ _ _ _ a.fValue b.fValue ha.l_fValue hb.l_fValue) (fun W2 W2h => ⟨(SeesP.of (sees_part W2h Z1 (Vote.see_fValue ha))), (SeesP.of (sees_part W2h Z0 (Vote.see_fValue hb)))⟩) ?_
 refine Tr.callV J J J J Body82 (cmp_uint64 _ _) (fun _ _ => trivial) (Tr.build (cs := intsV [cmpI (a.fHeight.toNat : Int) (b.fHeight.toNat : Int), cmpI (a.fRound.toNat : Int) (b.fRound.toNat : Int), cmpI a.fPhase b.fPhase, cmpB a.fVoter b.fVoter, cmpB a.fValue b.fValue, cmpI (a.fProof.toNat : Int) (b.fProof.toNat : Int)]) J J J (fun w => by kernel_rfl) ?_)
 refine Tr.alloc (cs := (intsV (List.replicate 6 0))) J Zr94 J ?_
 intro n5 hn5 hf5
 refine Tr.storeAll J J J J zB Sz94 sP Z0 sP zU ?_
 refine Tr.nil (at_n (Sat.seq (Sat.region (Tr.sliceArr J J J Tryz.underlying94 Sz3 (Tr.callV J J J J Body85 (cmp_or _ _ _ 6 _ J dE) (fun W2 h => sees_own h Z0) ?_)))))
 refine Tr.assign J J J (Tr.nil (at_n (Sat.ret (en_r ?_))))
 refine ⟨_, [], res_tmp J J, sP, sP, ?_, rfl⟩
 rfl

theorem vote_against (a b : Vote) (ha : a.ok) (hb : b.ok) : Meets Tryz.prog 19 [agg a.cells, agg b.cells] [] (fun _ => True) (fun v out => v = .bool (against a b) ∧ out = []) := by
 intro W hW
 refine calls_of (hp0 := []) Tryz.func19 J 45 Tryz.ntmps19 J (HRep.nil _) (Sat.seq (Sat.region (Tr.boxA J J ?_)))
 intro n2 hn2 hf2
 refine Tr.boxA J J ?_
 intro n3 hn3 hf3
 refine Tr.assign J J J (Tr.nil (at_n (Sat.seq (Sat.region (Tr.fld J J J Y29 J Sz25 dE _ J (Tr.loadN (bytesV _) J J J Y25 J Sz25 Z1 (Vote.row_fVoter zA) (Vote.rl_fVoter zA) ?_))))))
 refine Tr.fld J J J Y29 J Sz25 dE _ J (Tr.loadN (bytesV _) J J J Y25 J Sz25 Z0 (Vote.row_fVoter zA) (Vote.rl_fVoter zA) ?_)
 refine two (fun r hr k => Tr.eql_bytes J J J J Tryz.eqGuardType25 Y25 Y5 Sz5 (by (simp [ha.l_fVoter]; done)) (by (simp [hb.l_fVoter]; done)) hr k) (fun hs1_40 => ?_) (fun hs1_40 => ?_)
 ·
  have hs1_4 := of_decide_eq_true hs1_40
  refine Tr.move J J J (Tr.fld J J J Y29 J Sz22 dE _ J (Tr.load1 J J J Y22 J Z1 (by exact Vote.get_fHeight zA) ?_))
  refine Tr.fld J J J Y29 J Sz22 dE _ J (Tr.load1 J J J Y22 J Z0 (by exact Vote.get_fHeight zA) ?_)
  refine two (fun r hr k => Tr.eqi J J J J hr k) (fun hs1_100 => ?_) (fun hs1_100 => ?_)
  ·
   have hs1_10 := of_decide_eq_true hs1_100
   refine Tr.pick J J J J J J (Tr.move J J J (Tr.fld J J J Y29 J Sz22 dE _ J (Tr.load1 J J J Y22 J Z1 (by exact Vote.get_fRound zA) ?_)))
   refine Tr.fld J J J Y29 J Sz22 dE _ J (Tr.load1 J J J Y22 J Z0 (by exact Vote.get_fRound zA) ?_)
   refine two (fun r hr k => Tr.eqi J J J J hr k) (fun hs1_170 => ?_) (fun hs1_170 => ?_)
   ·
    have hs1_17 := of_decide_eq_true hs1_170
    refine Tr.pick J J J J J J (Tr.move J J J (Tr.fld J J J Y29 J Sz3 dE _ J (Tr.load1 J J J Y3 J Z1 (by exact Vote.get_fPhase zA) ?_)))
    refine Tr.fld J J J Y29 J Sz3 dE _ J (Tr.load1 J J J Y3 J Z0 (by exact Vote.get_fPhase zA) ?_)
    refine two (fun r hr k => Tr.eqi J J J J hr k) (fun hs1_240 => ?_) (fun hs1_240 => ?_)
    ·
     have hs1_24 := of_decide_eq_true hs1_240
     refine Tr.pick J J J J J J (Tr.move J J J (Tr.fld J J J Y29 J Sz24 dE _ J (Tr.loadN (bytesV _) J J J Y24 J Sz24 Z1 (Vote.row_fValue zA) (Vote.rl_fValue zA) ?_)))
     refine Tr.fld J J J Y29 J Sz24 dE _ J (Tr.loadN (bytesV _) J J J Y24 J Sz24 Z0 (Vote.row_fValue zA) (Vote.rl_fValue zA) ?_)
     refine two (fun r hr k => Tr.neq_bytes J J J J Tryz.eqGuardType24 Y24 Y5 Sz5 (by (simp [ha.l_fValue]; done)) (by (simp [hb.l_fValue]; done)) hr k) (fun hs1_310 => ?_) (fun hs1_310 => ?_)
     ·
      have hs1_31 := nd_t hs1_310
      refine Tr.move J J J (Tr.skp J J (Tr.skp J J (Tr.skp J J (Tr.skp J J (Tr.skp J J (Tr.pick J J J J J J (Tr.pick J J J J J J (Tr.assign J J J (Tr.nil (at_n (Sat.ret (en_r ?_))))))))))))
      refine ⟨_, [], res_tmp J J, sP, sP, ?_, rfl⟩
      simp [against, same4, *]
     ·
      have hs1_31 := nd_f hs1_310
      refine Tr.move J J J (Tr.fld J J J Y29 J Sz22 dE _ J (Tr.load1 J J J Y22 J Z1 (by exact Vote.get_fProof zA) ?_))
      refine Tr.fld J J J Y29 J Sz22 dE _ J (Tr.load1 J J J Y22 J Z0 (by exact Vote.get_fProof zA) ?_)
      refine Tr.nei J J J J J (Tr.pick J J J J J J (Tr.pick J J J J J J (Tr.assign J J J (Tr.nil (at_n (Sat.ret (en_r ?_)))))))
      refine ⟨_, [], res_tmp J J, sP, sP, ?_, rfl⟩
      simp [against, same4, *]
    ·
     have hs1_24 := of_decide_eq_false hs1_240
     refine Tr.pick J J J J J J (Tr.move J J J (Tr.skp J J (Tr.skp J J (Tr.skp J J (Tr.skp J J (Tr.skp J J (Tr.skp J J (Tr.skp J J (Tr.skp J J (Tr.skp J J (Tr.skp J J (Tr.skp J J (Tr.skp J J (Tr.pick J J J J J J (Tr.assign J J J (Tr.nil (at_n (Sat.ret (en_r ?_)))))))))))))))))))
     refine ⟨_, [], res_tmp J J, sP, sP, ?_, rfl⟩
     simp [against, same4, *]
   ·
    have hs1_17 := of_decide_eq_false hs1_170
    refine Tr.pick J J J J J J (Tr.move J J J (Tr.skp J J (Tr.skp J J (Tr.skp J J (Tr.skp J J (Tr.skp J J (Tr.pick J J J J J J (Tr.move J J J (Tr.skp J J (Tr.skp J J (Tr.skp J J (Tr.skp J J (Tr.skp J J (Tr.skp J J (Tr.skp J J (Tr.skp J J (Tr.skp J J (Tr.skp J J (Tr.skp J J (Tr.skp J J (Tr.pick J J J J J J (Tr.assign J J J (Tr.nil (at_n (Sat.ret (en_r ?_))))))))))))))))))))))))))
    refine ⟨_, [], res_tmp J J, sP, sP, ?_, rfl⟩
    simp [against, same4, *]
  ·
   have hs1_10 := of_decide_eq_false hs1_100
   refine Tr.pick J J J J J J (Tr.move J J J (Tr.skp J J (Tr.skp J J (Tr.skp J J (Tr.skp J J (Tr.skp J J (Tr.pick J J J J J J (Tr.move J J J (Tr.skp J J (Tr.skp J J (Tr.skp J J (Tr.skp J J (Tr.skp J J (Tr.pick J J J J J J (Tr.move J J J (Tr.skp J J (Tr.skp J J (Tr.skp J J (Tr.skp J J (Tr.skp J J (Tr.skp J J (Tr.skp J J (Tr.skp J J (Tr.skp J J (Tr.skp J J (Tr.skp J J (Tr.skp J J (Tr.pick J J J J J J (Tr.assign J J J (Tr.nil (at_n (Sat.ret (en_r ?_)))))))))))))))))))))))))))))))))
   refine ⟨_, [], res_tmp J J, sP, sP, ?_, rfl⟩
   simp [against, same4, *]
 ·
  have hs1_4 := of_decide_eq_false hs1_40
  refine Tr.move J J J (Tr.skp J J (Tr.skp J J (Tr.skp J J (Tr.skp J J (Tr.skp J J (Tr.pick J J J J J J (Tr.move J J J (Tr.skp J J (Tr.skp J J (Tr.skp J J (Tr.skp J J (Tr.skp J J (Tr.pick J J J J J J (Tr.move J J J (Tr.skp J J (Tr.skp J J (Tr.skp J J (Tr.skp J J (Tr.skp J J (Tr.pick J J J J J J (Tr.move J J J (Tr.skp J J (Tr.skp J J (Tr.skp J J (Tr.skp J J (Tr.skp J J (Tr.skp J J (Tr.skp J J (Tr.skp J J (Tr.skp J J (Tr.skp J J (Tr.skp J J (Tr.skp J J (Tr.pick J J J J J J (Tr.assign J J J (Tr.nil (at_n (Sat.ret (en_r ?_)))))))))))))))))))))))))))))))))))))))
  refine ⟨_, [], res_tmp J J, sP, sP, ?_, rfl⟩
  simp [against, same4, *]

theorem law20_lives  : Meets Tryz.prog 10 [] [] (fun _ => True) (fun v out => v = .bool true ∧ out = []) := by
 intro W hW
 refine calls_of (hp0 := []) Tryz.func10 J 26 Tryz.ntmps10 J (HRep.nil _) (Sat.seq (Sat.region (Tr.assign J J J (Tr.nil (at_n (Sat.seq (Sat.region (Tr.build (cs := (⟨1, 0, 2, List.replicate 32 0, 0, List.replicate 32 0, List.replicate 64 0⟩ : Vote).cells) J J J (fun w => by kernel_rfl) ?_))))))))
 refine Tr.callV J J J J Body13 (vote_check (⟨1, 0, 2, List.replicate 32 0, 0, List.replicate 32 0, List.replicate 64 0⟩ : Vote) ⟨rfl, rfl, rfl⟩) (fun _ _ => trivial) (Tr.eqi J J J J (decide_eq_true dE) (Tr.move J J J (Tr.build (cs := (⟨1, 0, 1, List.replicate 32 0, 0, List.replicate 32 0, List.replicate 64 0⟩ : Vote).cells) J J J (fun w => by kernel_rfl) ?_)))
 refine Tr.callV J J J J Body13 (vote_check (⟨1, 0, 1, List.replicate 32 0, 0, List.replicate 32 0, List.replicate 64 0⟩ : Vote) ⟨rfl, rfl, rfl⟩) (fun _ _ => trivial) (Tr.eqi J J J J (decide_eq_true dE) (Tr.pick J J J J J J (Tr.move J J J (Tr.build (cs := (⟨1, 0, 2, List.replicate 32 0, 1, List.replicate 32 0, List.replicate 64 0⟩ : Vote).cells) J J J (fun w => by kernel_rfl) ?_))))
 refine Tr.callV J J J J Body13 (vote_check (⟨1, 0, 2, List.replicate 32 0, 1, List.replicate 32 0, List.replicate 64 0⟩ : Vote) ⟨rfl, rfl, rfl⟩) (fun _ _ => trivial) (Tr.eqi J J J J (decide_eq_true dE) (Tr.pick J J J J J J (Tr.move J J J (Tr.build (cs := bytesV (1 :: List.replicate 31 0)) J J J (fun w => by kernel_rfl) ?_))))
 refine Tr.build (cs := (⟨1, 1, 1, (1 :: List.replicate 31 0), 2, List.replicate 32 0, List.replicate 64 0⟩ : Vote).cells) J J J (fun w => by kernel_rfl) ?_
 refine Tr.callV J J J J Body13 (vote_check (⟨1, 1, 1, (1 :: List.replicate 31 0), 2, List.replicate 32 0, List.replicate 64 0⟩ : Vote) ⟨rfl, rfl, rfl⟩) (fun _ _ => trivial) (Tr.eqi J J J J (decide_eq_true dE) (Tr.pick J J J J J J (Tr.move J J J (Tr.build (cs := (⟨1, 0, 0, List.replicate 32 0, 0, List.replicate 32 0, List.replicate 64 0⟩ : Vote).cells) J J J (fun w => by kernel_rfl) ?_))))
 refine Tr.build (cs := (⟨2, 0, 0, List.replicate 32 0, 0, List.replicate 32 0, List.replicate 64 0⟩ : Vote).cells) J J J (fun w => by kernel_rfl) ?_
 refine Tr.callV J J J J Body32 (vote_cmp (⟨1, 0, 0, List.replicate 32 0, 0, List.replicate 32 0, List.replicate 64 0⟩ : Vote) (⟨2, 0, 0, List.replicate 32 0, 0, List.replicate 32 0, List.replicate 64 0⟩ : Vote) ⟨rfl, rfl, rfl⟩ ⟨rfl, rfl, rfl⟩) (fun _ _ => trivial) (Tr.eqi J J J J (decide_eq_true dE) (Tr.pick J J J J J J (Tr.assign J J J (Tr.nil (at_n (Sat.ret (en_r ?_)))))))
 refine ⟨_, [], res_tmp J J, sP, sP, ?_, rfl⟩
 rfl

end Go.Proofs.YtpacobmjjjillaaGreat
end

section
namespace Go.Proofs.YtpacobmjjjillaaGreat
open Go Hw
set_option linter.unusedVariables false
set_option linter.unusedSimpArgs false

open Ed

theorem r20_Sign_bad (seed : List UInt8) (h32 : seed.length = 32) (V : Vote) (hV : V.ok) (s s1 s2 : List UInt8) (hs : Hid (sha512 seed = s)) (hs1 : Hid (sha512 (s.drop 32 ++ vtxt (vsg V (sgK s) V.fSig)) = s1)) (hs2 : Hid (sha512 (sgF s1 ++ (sgK s ++ vtxt (vsg V (sgK s) V.fSig))) = s2)) (hc : ¬ vcheck V = 0) : Meets Tryz.prog 25 [agg (bytesV seed), agg V.cells] [] (fun _ => True) (fun v out => v = .tuple #[agg Vote.zero.cells, i64 (vcheck V)] ∧ out = []) := by
 intro W hW
 have lK := sgK_length s
 have hX : (vsg V (sgK s) V.fSig).ok := vsg_ok hV lK hV.l_fSig
 have cK := r6_Key seed h32 s hs
 have cC := r20_Check (vsg V (sgK s) V.fSig) hX
 rw [vcheck_vsg, vcheck_2 hc] at cC
 clear hs hs1 hs2
 revert lK hX cK cC
 unfold vsg
 generalize sgK s = K
 intro lK hX cK cC
 refine calls_of (hp0 := []) Tryz.func25 J 19 Tryz.ntmps25 J (HRep.nil _) (Sat.seq (Sat.region (Tr.boxA J J ?_)))
 intro n2 hn2 hf2
 refine Tr.boxA J J ?_
 intro n3 hn3 hf3
 refine Tr.alloc (cs := Vote.zero.cells) J Vote.zr J ?_
 intro n4 hn4 hf4
 refine Tr.assign J J J (Tr.nil (at_n (Sat.seq (Sat.region (Tr.loadAll J J J Y23 J Sz23 Z2 (by (simp [h32]; done)) ?_)))))
 refine Tr.callV J J J J Body18 (cK) (fun _ _ => trivial) (Tr.fld J J J Y29 J Sz25 dE _ J (Tr.storeN (bytesV _) J J J J J zE Sz25 (by simp [lK]) Z1 (by rw [Vote.length zA]; simp [lK]) (Vote.upd_fVoter zA _ (by simp [lK])) zV ?_))
 refine Tr.nil (at_n (Sat.seq (Sat.seq (Sat.region (Tr.loadAll J J J Y29 J Sz29 Z1 (Vote.length zA) ?_)))))
 refine Tr.callV J J J J Body28 (cC) (fun _ _ => trivial) (Tr.nei J J J J J (Tr.nil (at_n (Sat.cond_t J (rfl) (Sat.seq (Sat.region (Tr.build (cs := Vote.zero.cells) J J J (fun w => by kernel_rfl) ?_)))))))
 refine Tr.storeAll J J J J (Vote.isCell zT) Sz29 (Vote.length zT) Z0 (Vote.length zT) zU ?_
 refine Tr.assign J J J (Tr.nil (at_n (Sat.ret (at_r (en_r ?_)))))
 refine ⟨_, [], res_cell_tmp J J J Y29 J Sz29 Z0 (by exact Vote.length zT), sP, sP, ?_, rfl⟩
 rw [vcheck_2 hc]

theorem r20_Sign (seed : List UInt8) (h32 : seed.length = 32) (V : Vote) (hV : V.ok) (s s1 s2 : List UInt8) (hs : Hid (sha512 seed = s)) (hs1 : Hid (sha512 (s.drop 32 ++ vtxt (vsg V (sgK s) V.fSig)) = s1)) (hs2 : Hid (sha512 (sgF s1 ++ (sgK s ++ vtxt (vsg V (sgK s) V.fSig))) = s2)) (hc : vcheck V = 0) : Meets Tryz.prog 25 [agg (bytesV seed), agg V.cells] [] (fun _ => True) (fun v out => v = .tuple #[agg (vsg V (sgK s) (sgF s1 ++ sgS s s1 s2)).cells, i64 0] ∧ out = []) := by
 intro W hW
 have lK := sgK_length s
 have lG : (sgF s1 ++ sgS s s1 s2).length = 64 := by rw [List.length_append, sgF_length, sgS_length]
 have hX : (vsg V (sgK s) V.fSig).ok := vsg_ok hV lK hV.l_fSig
 have hG : (vsg V (sgK s) (sgF s1 ++ sgS s s1 s2)).ok := vsg_ok hV lK lG
 have hvl := vtxt_length hX
 have hvn := voteN_le (vsg V (sgK s) V.fSig)
 have cK := r6_Key seed h32 s hs
 have cS := fun (x : Sl) => r6_Sign seed h32 x (vtxt (vsg V (sgK s) V.fSig)) oM s s1 s2 hs hs1 hs2
 have cT := r20_Text (vsg V (sgK s) V.fSig) hX
 have cC := r20_Check (vsg V (sgK s) V.fSig) hX
 rw [vcheck_vsg, hc] at cC
 clear hs hs1 hs2
 revert lK lG hX hG hvl hvn cK cS cT cC
 unfold vsg
 generalize sgF s1 ++ sgS s s1 s2 = G
 generalize sgK s = K
 intro lK lG hX hG hvl hvn cK cS cT cC
 refine calls_of (hp0 := []) Tryz.func25 J 19 Tryz.ntmps25 J (HRep.nil _) (Sat.seq (Sat.region (Tr.boxA J J ?_)))
 intro n2 hn2 hf2
 refine Tr.boxA J J ?_
 intro n3 hn3 hf3
 refine Tr.alloc (cs := Vote.zero.cells) J Vote.zr J ?_
 intro n4 hn4 hf4
 refine Tr.assign J J J (Tr.nil (at_n (Sat.seq (Sat.region (Tr.loadAll J J J Y23 J Sz23 Z2 (by (simp [h32]; done)) ?_)))))
 refine Tr.callV J J J J Body18 (cK) (fun _ _ => trivial) (Tr.fld J J J Y29 J Sz25 dE _ J (Tr.storeN (bytesV _) J J J J J zE Sz25 (by simp [lK]) Z1 (by rw [Vote.length zA]; simp [lK]) (Vote.upd_fVoter zA _ (by simp [lK])) zV ?_))
 refine Tr.nil (at_n (Sat.seq (Sat.seq (Sat.region (Tr.loadAll J J J Y29 J Sz29 Z1 (Vote.length zA) ?_)))))
 refine Tr.callV J J J J Body28 (cC) (fun _ _ => trivial) (Tr.nei J J J J J (Tr.nil (at_n (Sat.cond_f J (rfl) (Sat.skip (at_n (Sat.seq (Sat.draw [(1, 0), (1, 1), (3, 2), (3, 3), (0, 4), (4, 5)] Mixed zK (Tr.loadAll J J J Y23 J Sz23 Z2 (by (simp [h32]; done)) ?_)))))))))
 refine Tr.loadAll J J J Y29 J Sz29 Z1 (Vote.length zA) ?_
 refine Tr.call J J J J Body29 (cT) (FreshRow.loose _ _ _ _) (fun _ _ => trivial) ?_
 rintro v18 out18 ⟨q18, c18, rfl, hc18, rfl⟩
 refine Tr.callV J J J J Body74 (cS ⟨some ⟨q18, 0, none⟩, _, c18⟩) (fun w h => own_vtxt hX (SeesP.of (sees_own h Z0)) hc18) ?_
 refine Tr.fld J J J Y29 J Sz27 dE _ J (Tr.storeN (bytesV _) J J J J J zE Sz27 (by simp [lG]) Z2 (by rw [Vote.length zA]; simp [lG]) (Vote.upd_fSig zA _ (by simp [lG])) (by exact upd2) ?_)
 refine Tr.nil (at_n (Sat.seq (Sat.region (Tr.loadAll J J J Y29 J Sz29 Z2 (Vote.length zA) ?_))))
 refine Tr.storeAll J J J J (Vote.isCell zA) Sz29 (Vote.length zA) Z1 (Vote.length zT) zV ?_
 refine Tr.assign J J J (Tr.nil (at_n (Sat.ret (en_r ?_))))
 refine ⟨_, [], res_cell_tmp J J J Y29 J Sz29 Z1 (by exact Vote.length zA), sP, sP, ?_, rfl⟩
 rfl

theorem r20_Against (a b : Vote) (ha : a.ok) (hb : b.ok) : Meets Tryz.prog 31 [agg a.cells, agg b.cells] [] (fun _ => True) (fun v out => v = .bool (against a b) ∧ out = []) := by
 intro W hW
 refine calls_of (hp0 := []) Tryz.func31 J 45 Tryz.ntmps31 J (HRep.nil _) (Sat.seq (Sat.region (Tr.boxA J J ?_)))
 intro n2 hn2 hf2
 refine Tr.boxA J J ?_
 intro n3 hn3 hf3
 refine Tr.assign J J J (Tr.nil (at_n (Sat.seq (Sat.region (Tr.fld J J J Y29 J Sz25 dE _ J (Tr.loadN (bytesV _) J J J Y25 J Sz25 Z1 (Vote.row_fVoter zA) (Vote.rl_fVoter zA) ?_))))))
 refine Tr.fld J J J Y29 J Sz25 dE _ J (Tr.loadN (bytesV _) J J J Y25 J Sz25 Z0 (Vote.row_fVoter zA) (Vote.rl_fVoter zA) ?_)
 refine two (fun r hr k => Tr.eql_bytes J J J J Tryz.eqGuardType25 Y25 Y5 Sz5 (by (simp [ha.l_fVoter]; done)) (by (simp [hb.l_fVoter]; done)) hr k) (fun hs1_40 => ?_) (fun hs1_40 => ?_)
 ·
  have hs1_4 := of_decide_eq_true hs1_40
  refine Tr.move J J J (Tr.fld J J J Y29 J Sz22 dE _ J (Tr.load1 J J J Y22 J Z1 (by exact Vote.get_fHeight zA) ?_))
  refine Tr.fld J J J Y29 J Sz22 dE _ J (Tr.load1 J J J Y22 J Z0 (by exact Vote.get_fHeight zA) ?_)
  refine two (fun r hr k => Tr.eqi J J J J hr k) (fun hs1_100 => ?_) (fun hs1_100 => ?_)
  ·
   have hs1_10 := of_decide_eq_true hs1_100
   refine Tr.pick J J J J J J (Tr.move J J J (Tr.fld J J J Y29 J Sz22 dE _ J (Tr.load1 J J J Y22 J Z1 (by exact Vote.get_fRound zA) ?_)))
   refine Tr.fld J J J Y29 J Sz22 dE _ J (Tr.load1 J J J Y22 J Z0 (by exact Vote.get_fRound zA) ?_)
   refine two (fun r hr k => Tr.eqi J J J J hr k) (fun hs1_170 => ?_) (fun hs1_170 => ?_)
   ·
    have hs1_17 := of_decide_eq_true hs1_170
    refine Tr.pick J J J J J J (Tr.move J J J (Tr.fld J J J Y29 J Sz3 dE _ J (Tr.load1 J J J Y3 J Z1 (by exact Vote.get_fPhase zA) ?_)))
    refine Tr.fld J J J Y29 J Sz3 dE _ J (Tr.load1 J J J Y3 J Z0 (by exact Vote.get_fPhase zA) ?_)
    refine two (fun r hr k => Tr.eqi J J J J hr k) (fun hs1_240 => ?_) (fun hs1_240 => ?_)
    ·
     have hs1_24 := of_decide_eq_true hs1_240
     refine Tr.pick J J J J J J (Tr.move J J J (Tr.fld J J J Y29 J Sz24 dE _ J (Tr.loadN (bytesV _) J J J Y24 J Sz24 Z1 (Vote.row_fValue zA) (Vote.rl_fValue zA) ?_)))
     refine Tr.fld J J J Y29 J Sz24 dE _ J (Tr.loadN (bytesV _) J J J Y24 J Sz24 Z0 (Vote.row_fValue zA) (Vote.rl_fValue zA) ?_)
     refine two (fun r hr k => Tr.neq_bytes J J J J Tryz.eqGuardType24 Y24 Y5 Sz5 (by (simp [ha.l_fValue]; done)) (by (simp [hb.l_fValue]; done)) hr k) (fun hs1_310 => ?_) (fun hs1_310 => ?_)
     ·
      have hs1_31 := nd_t hs1_310
      refine Tr.move J J J (Tr.skp J J (Tr.skp J J (Tr.skp J J (Tr.skp J J (Tr.skp J J (Tr.pick J J J J J J (Tr.pick J J J J J J (Tr.assign J J J (Tr.nil (at_n (Sat.ret (en_r ?_))))))))))))
      refine ⟨_, [], res_tmp J J, sP, sP, ?_, rfl⟩
      simp [against, same4, *]
     ·
      have hs1_31 := nd_f hs1_310
      refine Tr.move J J J (Tr.fld J J J Y29 J Sz22 dE _ J (Tr.load1 J J J Y22 J Z1 (by exact Vote.get_fProof zA) ?_))
      refine Tr.fld J J J Y29 J Sz22 dE _ J (Tr.load1 J J J Y22 J Z0 (by exact Vote.get_fProof zA) ?_)
      refine Tr.nei J J J J J (Tr.pick J J J J J J (Tr.pick J J J J J J (Tr.assign J J J (Tr.nil (at_n (Sat.ret (en_r ?_)))))))
      refine ⟨_, [], res_tmp J J, sP, sP, ?_, rfl⟩
      simp [against, same4, *]
    ·
     have hs1_24 := of_decide_eq_false hs1_240
     refine Tr.pick J J J J J J (Tr.move J J J (Tr.skp J J (Tr.skp J J (Tr.skp J J (Tr.skp J J (Tr.skp J J (Tr.skp J J (Tr.skp J J (Tr.skp J J (Tr.skp J J (Tr.skp J J (Tr.skp J J (Tr.skp J J (Tr.pick J J J J J J (Tr.assign J J J (Tr.nil (at_n (Sat.ret (en_r ?_)))))))))))))))))))
     refine ⟨_, [], res_tmp J J, sP, sP, ?_, rfl⟩
     simp [against, same4, *]
   ·
    have hs1_17 := of_decide_eq_false hs1_170
    refine Tr.pick J J J J J J (Tr.move J J J (Tr.skp J J (Tr.skp J J (Tr.skp J J (Tr.skp J J (Tr.skp J J (Tr.pick J J J J J J (Tr.move J J J (Tr.skp J J (Tr.skp J J (Tr.skp J J (Tr.skp J J (Tr.skp J J (Tr.skp J J (Tr.skp J J (Tr.skp J J (Tr.skp J J (Tr.skp J J (Tr.skp J J (Tr.skp J J (Tr.pick J J J J J J (Tr.assign J J J (Tr.nil (at_n (Sat.ret (en_r ?_))))))))))))))))))))))))))
    refine ⟨_, [], res_tmp J J, sP, sP, ?_, rfl⟩
    simp [against, same4, *]
  ·
   have hs1_10 := of_decide_eq_false hs1_100
   refine Tr.pick J J J J J J (Tr.move J J J (Tr.skp J J (Tr.skp J J (Tr.skp J J (Tr.skp J J (Tr.skp J J (Tr.pick J J J J J J (Tr.move J J J (Tr.skp J J (Tr.skp J J (Tr.skp J J (Tr.skp J J (Tr.skp J J (Tr.pick J J J J J J (Tr.move J J J (Tr.skp J J (Tr.skp J J (Tr.skp J J (Tr.skp J J (Tr.skp J J (Tr.skp J J (Tr.skp J J (Tr.skp J J (Tr.skp J J (Tr.skp J J (Tr.skp J J (Tr.skp J J (Tr.pick J J J J J J (Tr.assign J J J (Tr.nil (at_n (Sat.ret (en_r ?_)))))))))))))))))))))))))))))))))
   refine ⟨_, [], res_tmp J J, sP, sP, ?_, rfl⟩
   simp [against, same4, *]
 ·
  have hs1_4 := of_decide_eq_false hs1_40
  refine Tr.move J J J (Tr.skp J J (Tr.skp J J (Tr.skp J J (Tr.skp J J (Tr.skp J J (Tr.pick J J J J J J (Tr.move J J J (Tr.skp J J (Tr.skp J J (Tr.skp J J (Tr.skp J J (Tr.skp J J (Tr.pick J J J J J J (Tr.move J J J (Tr.skp J J (Tr.skp J J (Tr.skp J J (Tr.skp J J (Tr.skp J J (Tr.pick J J J J J J (Tr.move J J J (Tr.skp J J (Tr.skp J J (Tr.skp J J (Tr.skp J J (Tr.skp J J (Tr.skp J J (Tr.skp J J (Tr.skp J J (Tr.skp J J (Tr.skp J J (Tr.skp J J (Tr.skp J J (Tr.pick J J J J J J (Tr.assign J J J (Tr.nil (at_n (Sat.ret (en_r ?_)))))))))))))))))))))))))))))))))))))))
  refine ⟨_, [], res_tmp J J, sP, sP, ?_, rfl⟩
  simp [against, same4, *]

theorem r20_Bytes (V : Vote) (hV : V.ok) : Meets Tryz.prog 26 [agg V.cells] [] (fun _ => True) (fun v out => ∃ s, v = .tuple #[s.v, i64 (vcheck V)] ∧ Hw.Acc s out (bytesV (voteBy V)) 5 (voteBy V).length 1) := by
 intro W hW
 have hvl := voteT_length hV
 have hvn := voteN_le V
 have hsl := hV.l_fSig
 refine calls_of (hp0 := []) Tryz.func26 J 12 Tryz.ntmps26 J (HRep.nil _) (Sat.seq (Sat.region (Tr.boxA J J ?_)))
 intro n1 hn1 hf1
 refine Tr.assign J J J (Tr.assign J J J (Tr.nil (at_n (Sat.seq (Sat.seq (Sat.region (Tr.loadAll J J J Y29 J Sz29 Z0 (Vote.length zA) ?_)))))))
 refine Tr.callV J J J J Body28 (r20_Check V hV) (fun _ _ => trivial) (Tr.nei J J J J J (Tr.nil (at_n (Sat.condNP J (fun hc0 => ?_) (fun hc0 => ?_)))))
 ·
  refine Sat.seq (Sat.region (Tr.assign J J J (Tr.assign J J J (Tr.nil (at_n (Sat.ret (at_r (en_r (end_perm (out := []) (res_tmp2 J J J) pm_nil ?_)))))))))
  exact ⟨Sl.nil, by rw [vcheck_2 hc0]; rfl, by rw [show voteBy V = [] from if_neg hc0]; exact Acc.none⟩
 ·
  refine Sat.skip (at_n (Sat.seq (Sat.drawK (sp_k sp_n) J [(0, 0), (0, 2), (0, 3), (4, 1)] [(4, 4), (0, 5), (0, 6)] Mixed zK zK (Tr.kloadAll J J J Y29 J Sz29 Z0 (Vote.length zA) ?_))))
  refine Tr.fld J J J Y29 J Sz27 dE _ J (Tr.sliceArr J J J Y27 Sz5 (Tr.call4 J J J J J Body75 (r20_body V hV) (fun _ _ => trivial) ?_))
  rintro v8 out8 ⟨q8, c8, rfl, hc8, rfl⟩
  refine Tr.nil (Tr.appendSl (z := u8 0) (by' := 1) (bytesV V.fSig) J J J J J Y39 Y39 Sz5 Zr5 (by unfold By; kernel_rfl) J (fun w h => SeesP.of (sees_part h Z0 (Vote.see_fSig hV))) (fun e => by cases e) (bytesV_cell _) rM J (by rw [bytesV, List.length_map]; omega) oM oM oM (by simp [hV.l_fSig]) ?_)
  intro q11 c11 hq11
  rw [← bytesV_app]
  refine Tr.assign J J J (Tr.assign J J J (Tr.nil (at_n (Sat.ret (en_r ?_)))))
  simp only [List.cons_append, List.nil_append, List.append_nil]
  refine end_perm (out := (⟨q11, bytesV (voteT V ++ V.fSig), 5, c11 * 1⟩ :: [])) (res_tmp2 J J J) (pm_cons rM pm_nil) ?_
  have hc : vcheck V = 0 := by omega
  refine ⟨⟨some ⟨q11, 0, none⟩, voteN V + 64, c11⟩, by rw [hc]; rfl, ?_⟩
  rw [show voteBy V = voteT V ++ V.fSig from if_pos hc, show (voteT V ++ V.fSig).length = voteN V + 64 by rw [List.length_append, hvl, hsl]]
  exact Acc.some hq11 (by rw [bytesV, List.length_map, List.length_append, hvl, hsl, Nat.mul_one])

theorem cmpB_same (x : UInt8) (a b : List UInt8) : cmpB (x :: a) (x :: b) = cmpB a b := by simp [cmpB, Go.Lib.compareBytes]
theorem cmpB_other {x y : UInt8} (h : x ≠ y) (a b : List UInt8) : cmpB (x :: a) (y :: b) = cmpI (x.toNat : Int) (y.toNat : Int) := by
  have h2 : x.toNat ≠ y.toNat := fun e => h (UInt8.toNat_inj.1 e)
  simp only [cmpB, Go.Lib.compareBytes, UInt8.lt_iff_toNat_lt]
  unfold cmpI
  (repeat' split) <;> first | rfl | omega
theorem cmpB_at : ∀ (k : Nat) (a b : List UInt8), a.length = b.length → (∀ j, j < k → a.getD j 0 = b.getD j 0) → k < a.length → a.getD k 0 ≠ b.getD k 0 → cmpB a b = cmpI ((a.getD k 0).toNat : Int) ((b.getD k 0).toNat : Int)
  | k, [], b, hl, hs, hk, hd => absurd hk (Nat.not_lt_zero _)
  | k, x :: a, [], hl, hs, hk, hd => by cases hl
  | 0, x :: a, y :: b, hl, hs, hk, hd => cmpB_other hd a b
  | k + 1, x :: a, y :: b, hl, hs, hk, hd => by
    have e : x = y := hs 0 (Nat.succ_pos k)
    subst e
    rw [cmpB_same]
    exact cmpB_at k a b (Nat.succ.inj hl) (fun j hj => hs (j + 1) (Nat.succ_lt_succ hj)) (Nat.lt_of_succ_lt_succ hk) hd
theorem cmpB_all {a b : List UInt8} (ha : a.length = 32) (hb : b.length = 32) (h : ∀ j, j < 32 → a.getD j 0 = b.getD j 0) : cmpB a b = 0 := by
  refine (cmpB_zero a b).2 (List.ext_getElem oM (fun i h1 h2 => ?_))
  have := h i oM
  simpa [List.getD, h1, h2] using this

theorem r20_by (a b : UInt64) : Meets Tryz.prog 86 [u64 a, u64 b] [] (fun _ => True) (fun v out => v = i64 (cmpI (a.toNat : Int) (b.toNat : Int)) ∧ out = []) := by
 intro W hW
 refine calls_of (hp0 := []) Tryz.func86 J 11 Tryz.ntmps86 J (HRep.nil _) (Sat.seq (Sat.region (Tr.assign J J J (Tr.nil (at_n (Sat.seq (Sat.seq (Sat.region (Tr.move J J J (Tr.move J J J (Tr.lss J J J J J (Tr.nil (at_n (Sat.condP J (fun hc0 => ?_) (fun hc0 => ?_)))))))))))))))
 ·
  refine Sat.seq (Sat.region (Tr.assign J J J (Tr.nil (at_n (Sat.ret (at_r (en_r ?_)))))))
  refine ⟨_, [], res_tmp J J, sP, sP, ?_, rfl⟩
  unfold cmpI; (rw [if_pos oM]; done)
 ·
  refine Sat.skip (at_n (Sat.seq (Sat.seq (Sat.region (Tr.move J J J (Tr.move J J J (Tr.gtr J J J J J (Tr.nil (at_n (Sat.condP J (fun hc1 => ?_) (fun hc1 => ?_)))))))))))
  ·
   refine Sat.seq (Sat.region (Tr.assign J J J (Tr.nil (at_n (Sat.ret (at_r (en_r ?_)))))))
   refine ⟨_, [], res_tmp J J, sP, sP, ?_, rfl⟩
   unfold cmpI; (rw [if_neg oM, if_pos oM]; done)
  ·
   refine Sat.skip (at_n (Sat.seq (Sat.region (Tr.assign J J J (Tr.nil (at_n (Sat.ret (en_r ?_))))))))
   refine ⟨_, [], res_tmp J J, sP, sP, ?_, rfl⟩
   unfold cmpI; (rw [if_neg oM, if_neg oM]; done)

theorem r20_bytes (a b : List UInt8) (ha : a.length = 32) (hb : b.length = 32) : Meets Tryz.prog 87 [agg (bytesV a), agg (bytesV b)] [] (fun _ => True) (fun v out => v = i64 (cmpB a b) ∧ out = []) := by
 intro W hW
 refine calls_of (hp0 := []) Tryz.func87 J 26 Tryz.ntmps87 J (HRep.nil _) (Sat.seq (Sat.region (Tr.boxA J J ?_)))
 intro n2 hn2 hf2
 refine Tr.boxA J J ?_
 intro n3 hn3 hf3
 refine Tr.assign J J J (Tr.nil (at_n (Sat.seq (Sat.seq (Sat.region (Tr.assign J J J (Tr.nil (at_n (Sat.block (Sat.loop (ι := Nat) (fun k => ⟨[(2, ptr n2 0), (3, ptr n3 0), (5, i64 (k : Int))], [⟨n3, bytesV b, 23, (bytesV b).length⟩, ⟨n2, bytesV a, 23, (bytesV a).length⟩]⟩) (fun k => k ≤ 32 ∧ ∀ j, j < k → a.getD j 0 = b.getD j 0) (fun k => 32 - k) (0) ?_ ?_ ?_))))))))))
 · exact ⟨Nat.zero_le _, fun j hj => absurd hj (Nat.not_lt_zero _)⟩
 · exact weak_of (wk1 rfl (wk1 rfl (wk1 rfl wk0))) (wh1 Z0 (wh1 Z1 wh0)) nD
 ·
  rintro k ⟨hk, hsm⟩
  refine Sat.seq (Sat.seq (Sat.region (Tr.move J J J (Tr.lss J J J J J (Tr.nil (at_n (Sat.condP J (fun hc0 => ?_) (fun hc0 => ?_))))))))
  ·
   have hk2 : k < 32 := by omega
   refine Sat.skip (at_n (Sat.seq (Sat.block (Sat.seq (Sat.draw [(0, 0), (0, 1), (1, 2), (0, 3), (0, 4), (1, 5), (0, 6)] Mixed zK (Tr.move J J J (Tr.idxArr1 J J J J Y23 Sz5 k J oM (Tr.load1 J J J Y5 J Z1 zG ?_))))))))
   refine Tr.move J J J (Tr.idxArr1 J J J J Y23 Sz5 k J oM (Tr.load1 J J J Y5 J Z0 zG ?_))
   refine Tr.nei J J J J J (Tr.nil (at_n (Sat.condNP J (fun hc1 => ?_) (fun hc1 => ?_))))
   ·
    have hek : a.getD k 0 ≠ b.getD k 0 := fun e => hc1 (by rw [e])
    refine Sat.seq (Sat.draw [(0, 0), (0, 1), (1, 2), (0, 3), (0, 4), (0, 5), (1, 6), (0, 7), (3, 8), (0, 9)] Mixed zK (Tr.move J J J (Tr.idxArr1 J J J J Y23 Sz5 k J oM (Tr.load1 J J J Y5 J Z1 zG ?_))))
    refine Tr.conv J J J Y5 Y22 (cv_u8_u64 _) (Tr.move J J J (Tr.idxArr1 J J J J Y23 Sz5 k J oM (Tr.load1 J J J Y5 J Z0 zG ?_)))
    refine Tr.conv J J J Y5 Y22 (cv_u8_u64 _) (Tr.callV J J J J Body86 (r20_by _ _) (fun _ _ => trivial) (Tr.assign J J J (Tr.nil (at_n (Sat.ret (bl_r (at_r (at_r (bl_r (at_r (en_r ?_)))))))))))
    refine ⟨_, [], res_tmp J J, sP, sP, ?_, rfl⟩
    (rw [cmpB_at k a b oM hsm oM hek]; rfl)
   ·
    have hek : a.getD k 0 = b.getD k 0 := UInt8.toNat_inj.1 oM
    refine Sat.skip (bl_n (at_n (Sat.region (Tr.move J J J (Tr.add_i64 J J J J oM (Tr.assign J J J (Tr.nil (at_n ?_))))))))
    exact ⟨k + 1, ⟨by omega, fun j hj => by rcases Nat.lt_or_ge j k with h1 | h1; exact hsm j h1; exact (show j = k by omega) ▸ hek⟩, by omega, weak_of (wk1 rfl (wk1 rfl (wk1 (by rw [Int.natCast_add]; rfl) wk0))) (wh1 Z0 (wh1 Z1 wh0)) nD⟩
  ·
   have hk2 : k = 32 := by omega
   refine Sat.exit (at_x (at_x (bl_h (at_n (Sat.seq (Sat.region (Tr.assign J J J (Tr.nil (at_n (Sat.ret (en_r ?_)))))))))))
   refine ⟨_, [], res_tmp J J, sP, sP, ?_, rfl⟩
   (rw [cmpB_all ha hb (fun j hj => hsm j oM)]; done)

theorem r20_Compare (a b : Vote) (ha : a.ok) (hb : b.ok) : Meets Tryz.prog 33 [agg a.cells, agg b.cells] [] (fun _ => True) (fun v out => v = i64 (vcmp a b) ∧ out = []) := by
 intro W hW
 refine calls_of (hp0 := []) Tryz.func33 J 62 Tryz.ntmps33 J (HRep.nil _) (Sat.seq (Sat.region (Tr.boxA J J ?_)))
 intro n2 hn2 hf2
 refine Tr.boxA J J ?_
 intro n3 hn3 hf3
 refine Tr.assign J J J (Tr.nil (at_n (Sat.seq (Sat.draw [(0, 0), (1, 1), (0, 2), (1, 3), (0, 5), (1, 6), (0, 7), (1, 8), (0, 10), (1, 11), (0, 12), (1, 13), (0, 15), (1, 16), (0, 17), (1, 18), (0, 20), (1, 21), (0, 22), (1, 23), (3, 4), (3, 9), (3, 14), (3, 19), (3, 24), (2, 25), (0, 26)] Mixed zK (Tr.fld J J J Y29 J Sz22 dE _ J (Tr.load1 J J J Y22 J Z1 (by exact Vote.get_fHeight zA) ?_))))))
 refine Tr.fld J J J Y29 J Sz22 dE _ J (Tr.load1 J J J Y22 J Z0 (by exact Vote.get_fHeight zA) ?_)
 refine Tr.fld J J J Y29 J Sz22 dE _ J (Tr.load1 J J J Y22 J Z1 (by exact Vote.get_fRound zA) ?_)
 refine Tr.fld J J J Y29 J Sz22 dE _ J (Tr.load1 J J J Y22 J Z0 (by exact Vote.get_fRound zA) ?_)
 refine Tr.fld J J J Y29 J Sz25 dE _ J (Tr.loadN (bytesV _) J J J Y25 J Sz25 Z1 (Vote.row_fVoter zA) (Vote.rl_fVoter zA) ?_)
 refine Tr.fld J J J Y29 J Sz25 dE _ J (Tr.loadN (bytesV _) J J J Y25 J Sz25 Z0 (Vote.row_fVoter zA) (Vote.rl_fVoter zA) ?_)
 refine Tr.fld J J J Y29 J Sz24 dE _ J (Tr.loadN (bytesV _) J J J Y24 J Sz24 Z1 (Vote.row_fValue zA) (Vote.rl_fValue zA) ?_)
 refine Tr.fld J J J Y29 J Sz24 dE _ J (Tr.loadN (bytesV _) J J J Y24 J Sz24 Z0 (Vote.row_fValue zA) (Vote.rl_fValue zA) ?_)
 refine Tr.fld J J J Y29 J Sz22 dE _ J (Tr.load1 J J J Y22 J Z1 (by exact Vote.get_fProof zA) ?_)
 refine Tr.fld J J J Y29 J Sz22 dE _ J (Tr.load1 J J J Y22 J Z0 (by exact Vote.get_fProof zA) ?_)
 refine Tr.callV J J J J Body86 (r20_by _ _) (fun _ _ => trivial) (Tr.callV J J J J Body86 (r20_by _ _) (fun _ _ => trivial) (Tr.callV J J J J Body87 (r20_bytes a.fVoter b.fVoter ha.l_fVoter hb.l_fVoter) (fun _ _ => trivial) (Tr.callV J J J J Body87 (r20_bytes a.fValue b.fValue ha.l_fValue hb.l_fValue) (fun _ _ => trivial) (Tr.callV J J J J Body86 (r20_by _ _) (fun _ _ => trivial) (Tr.mkRow2 (z := i64 0) [i64 _, i64 _, i64 0, i64 _, i64 _, i64 _] (intsV [cmpI (a.fHeight.toNat : Int) (b.fHeight.toNat : Int), cmpI (a.fRound.toNat : Int) (b.fRound.toNat : Int), 0, cmpB a.fVoter b.fVoter, cmpB a.fValue b.fValue, cmpI (a.fProof.toNat : Int) (b.fProof.toNat : Int)]) J J Y96 Sz3 Zr3 J J (by intro v hv; simp only [List.mem_cons, List.not_mem_nil, or_false] at hv; rcases hv with rfl | rfl | rfl | rfl | rfl | rfl <;> rfl) dE J ?_)))))
 intro q32
 refine Tr.assign J J J (Tr.nil (at_n (Sat.seq (Sat.seq (Sat.region (Tr.fld J J J Y29 J Sz3 dE _ J (Tr.load1 J J J Y3 J Z2 (by exact Vote.get_fPhase zA) ?_)))))))
 refine Tr.fld J J J Y29 J Sz3 dE _ J (Tr.load1 J J J Y3 J Z1 (by exact Vote.get_fPhase zA) ?_)
 refine Tr.lss J J J J J (Tr.nil (at_n (Sat.condP J (fun hc0 => ?_) (fun hc0 => ?_))))
 ·
  refine Sat.region (Tr.move J J J (Tr.idxSl1 J J J J Y96 Sz3 2 J oM (Tr.store1 J J J J J Sz3 Z0 sP (by exact set_ints _ _ _) zU ?_)))
  refine Tr.nil (at_n (Sat.join (ι := List Int) (fun l => ⟨[(5, .slice (some ⟨q32, 0, none⟩) 6 6)], [⟨q32, intsV l, 3, 6 * 1⟩]⟩) (fun l => l = [cmpI (a.fHeight.toNat : Int) (b.fHeight.toNat : Int), cmpI (a.fRound.toNat : Int) (b.fRound.toNat : Int), cmpI a.fPhase b.fPhase, cmpB a.fVoter b.fVoter, cmpB a.fValue b.fValue, cmpI (a.fProof.toNat : Int) (b.fProof.toNat : Int)]) ?_ ?_))
  ·
   refine Sat.seq (Sat.region (Tr.fld J J J Y29 J Sz3 dE _ J (Tr.load1 J J J Y3 J Z2 (by exact Vote.get_fPhase zA) ?_)))
   refine Tr.fld J J J Y29 J Sz3 dE _ J (Tr.load1 J J J Y3 J Z1 (by exact Vote.get_fPhase zA) ?_)
   refine Tr.gtr J J J J J (Tr.nil (at_n (Sat.condP J (fun hc1 => ?_) (fun hc1 => ?_))))
   ·
    refine Sat.region (Tr.move J J J (Tr.idxSl1 J J J J Y96 Sz3 2 J oM (Tr.store1 J J J J J Sz3 Z0 sP (by exact set_ints _ _ _) zU ?_)))
    refine Tr.nil (at_n ?_)
    refine ⟨_, ?_, weak_of (wk1 J wk0) (wh1 Z0 wh0) nD⟩
    (rw [show cmpI a.fPhase b.fPhase = 1 by unfold cmpI; rw [if_neg oM, if_pos oM]] <;> rfl)
   ·
    refine Sat.skip (at_n ?_)
    refine ⟨_, ?_, weak_of (wk1 J wk0) (wh1 Z0 wh0) nD⟩
    (rw [show cmpI a.fPhase b.fPhase = -1 from if_pos oM] <;> rfl)
  ·
   intro l hj
   have hl6 : l.length = 6 := by rw [hj]; rfl
   refine Sat.seq (Sat.seq (Sat.region (Tr.assign J J J (Tr.nil (at_n (Sat.block (Sat.loop (ι := Nat) (fun k => ⟨[(5, .slice (some ⟨q32, 0, none⟩) 6 6), (6, i64 (k : Int))], [⟨q32, intsV l, 3, 6 * 1⟩]⟩) (fun k => k ≤ 6 ∧ orI (l.drop k) = orI l) (fun k => 6 - k) (0) ?_ ?_ ?_)))))))
   · exact ⟨Nat.zero_le _, rfl⟩
   · exact weak_of (wk1 rfl (wk1 rfl wk0)) (wh1 Z0 wh0) nD
   ·
    rintro k ⟨hk, hor⟩
    refine Sat.seq (Sat.seq (Sat.region (Tr.move J J J (Tr.move J J J (Tr.lenSl J J J Y96 (Tr.lss J J J J J (Tr.nil (at_n (Sat.condP J (fun hc2 => ?_) (fun hc2 => ?_))))))))))
    ·
     have hk2 : k < 6 := by omega
     refine Sat.skip (at_n (Sat.seq (Sat.block (Sat.seq (Sat.region (Tr.move J J J (Tr.move J J J (Tr.idxSl1 J J J J Y96 Sz3 k J oM (Tr.load1 J J J Y3 J Z0 (by exact get_ints oM) ?_)))))))))
     refine Tr.nei J J J J J (Tr.nil (at_n (Sat.condNP J (fun hc3 => ?_) (fun hc3 => ?_))))
     ·
      refine Sat.seq (Sat.region (Tr.move J J J (Tr.move J J J (Tr.idxSl1 J J J J Y96 Sz3 k J oM (Tr.load1 J J J Y3 J Z0 (by exact get_ints oM) ?_)))))
      refine Tr.assign J J J (Tr.nil (at_n (Sat.ret (bl_r (at_r (at_r (bl_r (at_r (en_r ?_)))))))))
      refine ⟨_, [], res_tmp J J, sP, sP, ?_, rfl⟩
      (rw [show vcmp a b = orI l by rw [hj]; rfl, ← hor, orI_drop l k oM, if_neg hc3]; done)
     ·
      refine Sat.skip (bl_n (at_n (Sat.region (Tr.move J J J (Tr.add_i64 J J J J oM (Tr.assign J J J (Tr.nil (at_n ?_))))))))
      exact ⟨k + 1, ⟨by omega, by rw [← hor, orI_drop l k oM, if_pos oM]⟩, by omega, weak_of (wk1 rfl (wk1 (by rw [Int.natCast_add]; rfl) wk0)) (wh1 Z0 wh0) nD⟩
    ·
     have hk2 : k = 6 := by omega
     refine Sat.exit (at_x (at_x (bl_h (at_n (Sat.seq (Sat.region (Tr.assign J J J (Tr.nil (at_n (Sat.ret (en_r ?_)))))))))))
     refine ⟨_, [], res_tmp J J, sP, sP, ?_, rfl⟩
     (rw [show vcmp a b = orI l by rw [hj]; rfl, ← hor, List.drop_of_length_le oM]; rfl)
 ·
  refine Sat.skip (at_n (Sat.join (ι := List Int) (fun l => ⟨[(5, .slice (some ⟨q32, 0, none⟩) 6 6)], [⟨q32, intsV l, 3, 6 * 1⟩]⟩) (fun l => l = [cmpI (a.fHeight.toNat : Int) (b.fHeight.toNat : Int), cmpI (a.fRound.toNat : Int) (b.fRound.toNat : Int), cmpI a.fPhase b.fPhase, cmpB a.fVoter b.fVoter, cmpB a.fValue b.fValue, cmpI (a.fProof.toNat : Int) (b.fProof.toNat : Int)]) ?_ ?_))
  ·
   refine Sat.seq (Sat.region (Tr.fld J J J Y29 J Sz3 dE _ J (Tr.load1 J J J Y3 J Z2 (by exact Vote.get_fPhase zA) ?_)))
   refine Tr.fld J J J Y29 J Sz3 dE _ J (Tr.load1 J J J Y3 J Z1 (by exact Vote.get_fPhase zA) ?_)
   refine Tr.gtr J J J J J (Tr.nil (at_n (Sat.condP J (fun hc1 => ?_) (fun hc1 => ?_))))
   ·
    refine Sat.region (Tr.move J J J (Tr.idxSl1 J J J J Y96 Sz3 2 J oM (Tr.store1 J J J J J Sz3 Z0 sP (by exact set_ints _ _ _) zU ?_)))
    refine Tr.nil (at_n ?_)
    refine ⟨_, ?_, weak_of (wk1 J wk0) (wh1 Z0 wh0) nD⟩
    (rw [show cmpI a.fPhase b.fPhase = 1 by unfold cmpI; rw [if_neg oM, if_pos oM]] <;> rfl)
   ·
    refine Sat.skip (at_n ?_)
    refine ⟨_, ?_, weak_of (wk1 J wk0) (wh1 Z0 wh0) nD⟩
    (rw [show cmpI a.fPhase b.fPhase = 0 by unfold cmpI; rw [if_neg oM, if_neg oM]] <;> rfl)
  ·
   intro l hj
   have hl6 : l.length = 6 := by rw [hj]; rfl
   refine Sat.seq (Sat.seq (Sat.region (Tr.assign J J J (Tr.nil (at_n (Sat.block (Sat.loop (ι := Nat) (fun k => ⟨[(5, .slice (some ⟨q32, 0, none⟩) 6 6), (6, i64 (k : Int))], [⟨q32, intsV l, 3, 6 * 1⟩]⟩) (fun k => k ≤ 6 ∧ orI (l.drop k) = orI l) (fun k => 6 - k) (0) ?_ ?_ ?_)))))))
   · exact ⟨Nat.zero_le _, rfl⟩
   · exact weak_of (wk1 rfl (wk1 rfl wk0)) (wh1 Z0 wh0) nD
   ·
    rintro k ⟨hk, hor⟩
    refine Sat.seq (Sat.seq (Sat.region (Tr.move J J J (Tr.move J J J (Tr.lenSl J J J Y96 (Tr.lss J J J J J (Tr.nil (at_n (Sat.condP J (fun hc2 => ?_) (fun hc2 => ?_))))))))))
    ·
     have hk2 : k < 6 := by omega
     refine Sat.skip (at_n (Sat.seq (Sat.block (Sat.seq (Sat.region (Tr.move J J J (Tr.move J J J (Tr.idxSl1 J J J J Y96 Sz3 k J oM (Tr.load1 J J J Y3 J Z0 (by exact get_ints oM) ?_)))))))))
     refine Tr.nei J J J J J (Tr.nil (at_n (Sat.condNP J (fun hc3 => ?_) (fun hc3 => ?_))))
     ·
      refine Sat.seq (Sat.region (Tr.move J J J (Tr.move J J J (Tr.idxSl1 J J J J Y96 Sz3 k J oM (Tr.load1 J J J Y3 J Z0 (by exact get_ints oM) ?_)))))
      refine Tr.assign J J J (Tr.nil (at_n (Sat.ret (bl_r (at_r (at_r (bl_r (at_r (en_r ?_)))))))))
      refine ⟨_, [], res_tmp J J, sP, sP, ?_, rfl⟩
      (rw [show vcmp a b = orI l by rw [hj]; rfl, ← hor, orI_drop l k oM, if_neg hc3]; done)
     ·
      refine Sat.skip (bl_n (at_n (Sat.region (Tr.move J J J (Tr.add_i64 J J J J oM (Tr.assign J J J (Tr.nil (at_n ?_))))))))
      exact ⟨k + 1, ⟨by omega, by rw [← hor, orI_drop l k oM, if_pos oM]⟩, by omega, weak_of (wk1 rfl (wk1 (by rw [Int.natCast_add]; rfl) wk0)) (wh1 Z0 wh0) nD⟩
    ·
     have hk2 : k = 6 := by omega
     refine Sat.exit (at_x (at_x (bl_h (at_n (Sat.seq (Sat.region (Tr.assign J J J (Tr.nil (at_n (Sat.ret (en_r ?_)))))))))))
     refine ⟨_, [], res_tmp J J, sP, sP, ?_, rfl⟩
     (rw [show vcmp a b = orI l by rw [hj]; rfl, ← hor, List.drop_of_length_le oM]; rfl)

end Go.Proofs.YtpacobmjjjillaaGreat
end
