/- Contracts of functions of the loaded program, and the lemmas that they need (part 2). It proves no statement by itself; it has no conditions. -/
import Derived.WalkKit
import Derived.Orders
import Derived.Deep.LoopGhost
import Derived.IntWalk
import Derived.Laws.StructEq
import Derived.Test.YtpacobmjjjillaaGreatRows
import Derived.KernelRfl
import Derived.ArgAppend
import Derived.Deep.AppendSrc
import Derived.Lib.Bytealg
import Derived.Lib.BytesEntry
import Derived.Laws.IdiomStrings
import Derived.Laws.Externs
import Derived.WideKeyArr2
import Derived.ProofKit
import Derived.OpenShut
import Derived.Deep.Slices
import Derived.Laws.Pointers
import Derived.Laws.Cover3
import Derived.LaidEqlPtr
import Derived.LoopN
import Derived.RangeFuncLeaves
import Derived.RangeFuncSeq
import Derived.OrdersIn
import Derived.Defers
import Derived.Laws.MathBits
import Derived.ChangeOld
import Derived.Below
import Derived.Test.YtpacobmjjjillaaGreatBSignedC1
set_option maxRecDepth 100000
set_option maxHeartbeats 8000000
section
namespace Go.Proofs.YtpacobmjjjillaaGreat
open Go Hw
set_option linter.unusedVariables false
set_option linter.unusedSimpArgs false

def badAt (prev : List UInt8) (ls : List (List UInt8)) (i : Nat) : Bool := decide (ls.getD i [] = List.replicate 32 0) || (decide (ls.getD i [] = prev) || (decide ((0 : Int) < (i : Int)) && decide ((0 : Int) ≤ cmpB (ls.getD (i - 1) []) (ls.getD i []))))
def linksBad (prev : List UInt8) (ls : List (List UInt8)) : Bool := (List.range ls.length).any (badAt prev ls)
def bheadB (B : Block) : Bool := decide ((4294967295 : Int) < (B.fSeq.toNat : Int)) || (!decide (decide (B.fPrev = List.replicate 32 0) = decide ((B.fSeq.toNat : Int) = 0)) || (decide ((16 : Int) < (B.fLinks.n : Int)) || decide ((512 : Int) < (B.fData.n : Int))))
def bhead (B : Block) : Prop := bheadB B = true
theorem linksBad_at {prev : List UInt8} {ls : List (List UInt8)} {k : Nat} (hk : k < ls.length) (h : badAt prev ls k = true) : linksBad prev ls = true := by
  rw [linksBad, List.any_eq_true]; exact ⟨k, List.mem_range.2 hk, h⟩
theorem linksBad_not {prev : List UInt8} {ls : List (List UInt8)} (h : ∀ j, j < ls.length → badAt prev ls j = false) : linksBad prev ls = false := by
  rw [linksBad, List.any_eq_false]; intro x hx; rw [h x (List.mem_range.1 hx)]; simp
def bcheck (B : Block) (ls : List (List UInt8)) : Int := if bheadB B = true then 2 else (if linksBad B.fPrev ls = true then 2 else 0)
theorem bcheck_head {B : Block} {ls : List (List UInt8)} (h : bhead B) : bcheck B ls = 2 := by unfold bcheck; unfold bhead at h; rw [if_pos h]
theorem bcheck_bad {B : Block} {ls : List (List UInt8)} (h : ¬ bhead B) (hb : linksBad B.fPrev ls = true) : bcheck B ls = 2 := by unfold bcheck; unfold bhead at h; rw [if_neg h, if_pos hb]
theorem bcheck_ok {B : Block} {ls : List (List UInt8)} (h : ¬ bhead B) (hb : linksBad B.fPrev ls = false) : bcheck B ls = 0 := by unfold bcheck; unfold bhead at h; rw [if_neg h, if_neg (by rw [hb]; simp)]

theorem block_cmp (a b : List UInt8) (ha : a.length = 32) (hb : b.length = 32) : Meets Tryz.prog 56 [agg (bytesV a), agg (bytesV b)] [] (fun _ => True) (fun v out => v = i64 (cmpB a b) ∧ out = []) := by
 intro W hW
 refine calls_of (hp0 := []) Tryz.func56 J 8 Tryz.ntmps56 J (HRep.nil _) (Sat.seq (Sat.region (Tr.boxA J J ?_)))
 intro n2 hn2 hf2
 refine Tr.boxA J J ?_
 intro n3 hn3 hf3
 refine Tr.assign J J J (Tr.nil (at_n (Sat.seq (Sat.draw [(0, 0), (0, 1), (3, 2), (0, 3)] Mixed zK (Tr.sliceArr J J J Y24 Sz5 (Tr.sliceArr J J J Y24 Sz5 (Tr.callV J J J J Body84 (bytes_cmp _ _ _ _ _ _ a b ha hb) (fun W2 h => ⟨SeesP.of (sees_own h Z1), SeesP.of (sees_own h Z0)⟩) ?_)))))))
 refine Tr.assign J J J (Tr.nil (at_n (Sat.ret (en_r ?_))))
 refine ⟨_, [], res_tmp J J, sP, sP, ?_, rfl⟩
 rfl

theorem block_check (B : Block) (hB : B.ok) (ls : List (List UInt8)) : Meets Tryz.prog 38 [agg B.cells] [] (fun W => RowsAt W B.fLinks 32 ls) (fun v out => v = i64 (bcheck B ls) ∧ out = []) := by
 intro W hW
 have hcx : B.fLinks.n ≤ maxLen := hW.max
 simp only [maxLen] at hcx
 have hcn := hW.cap
 refine calls_of (hp0 := []) Tryz.func38 J 65 Tryz.ntmps38 J (HRep.nil _) (Sat.seq (Sat.region (Tr.boxA J J ?_)))
 intro n1 hn1 hf1
 refine Tr.assign J J J (Tr.nil (at_n (Sat.seq (Sat.region (Tr.build (cs := bytesV (List.replicate 32 0)) J J J (fun w => by kernel_rfl) ?_)))))
 refine Tr.alloc (cs := (bytesV (List.replicate 32 0))) J Zr24 J ?_
 intro n3 hn3 hf3
 refine Tr.storeAll J J J J zB Sz24 sP Z0 sP zU ?_
 refine Tr.nil (at_n (Sat.seq (Sat.seq (Sat.draw [(0, 0), (1, 1), (0, 2), (0, 3), (0, 4), (1, 5), (1, 6), (0, 7), (0, 8), (1, 9), (0, 10), (0, 11), (0, 12), (0, 13), (0, 14), (1, 15), (0, 16), (0, 17), (0, 18), (0, 19), (0, 20), (1, 21), (0, 22), (0, 23), (0, 24)] Mixed zK (Tr.fld J J J Y53 J Sz22 dE _ J (Tr.load1 J J J Y22 J Z1 (by exact Block.get_fSeq zA) ?_))))))
 refine two (fun r hr k => Tr.gtr J J J J hr k) (fun hs2_20 => ?_) (fun hs2_20 => ?_)
 ·
  have hs2_2 := of_decide_eq_true hs2_20
  refine Tr.move J J J (Tr.skp J J (Tr.skp J J (Tr.skp J J (Tr.skp J J (Tr.skp J J (Tr.skp J J (Tr.skp J J (Tr.skp J J (Tr.pick J J J J J J (Tr.move J J J (Tr.skp J J (Tr.skp J J (Tr.skp J J (Tr.skp J J (Tr.pick J J J J J J (Tr.move J J J (Tr.skp J J (Tr.skp J J (Tr.skp J J (Tr.skp J J (Tr.pick J J J J J J (Tr.nil (at_n (Sat.cond_t J J (Sat.seq (Sat.region (Tr.assign J J J (Tr.nil (at_n (Sat.ret (at_r (en_r ?_))))))))))))))))))))))))))))))))
  refine ⟨_, [], res_tmp J J, sP, sP, ?_, rfl⟩
  exact congrArg i64 (bcheck_head (by unfold bhead bheadB; simp_all)).symm
 ·
  have hs2_2 := of_decide_eq_false hs2_20
  refine Tr.move J J J (Tr.fld J J J Y53 J Sz24 dE _ J (Tr.loadN (bytesV _) J J J Y24 J Sz24 Z1 (Block.row_fPrev zA) (Block.rl_fPrev zA) ?_))
  refine Tr.loadAll J J J Y24 J Sz24 Z0 sP ?_
  refine Tr.eql_bytes J J J J Tryz.eqGuardType24 Y24 Y5 Sz5 (by (simp [hB.l_fPrev]; done)) sP J ?_
  refine Tr.fld J J J Y53 J Sz22 dE _ J (Tr.load1 J J J Y22 J Z1 (by exact Block.get_fSeq zA) ?_)
  refine Tr.eqi J J J J J (two (fun r hr k => Tr.neb J J J J Tryz.underlying4 hr k) (fun hs2_110 => ?_) (fun hs2_110 => ?_))
  ·
   have hs2_11 := nd_t hs2_110
   refine Tr.pick J J J J J J (Tr.move J J J (Tr.skp J J (Tr.skp J J (Tr.skp J J (Tr.skp J J (Tr.pick J J J J J J (Tr.move J J J (Tr.skp J J (Tr.skp J J (Tr.skp J J (Tr.skp J J (Tr.pick J J J J J J (Tr.nil (at_n (Sat.cond_t J J (Sat.seq (Sat.region (Tr.assign J J J (Tr.nil (at_n (Sat.ret (at_r (en_r ?_)))))))))))))))))))))))
   refine ⟨_, [], res_tmp J J, sP, sP, ?_, rfl⟩
   exact congrArg i64 (bcheck_head (by unfold bhead bheadB; simp_all)).symm
  ·
   have hs2_11 := nd_f hs2_110
   refine Tr.pick J J J J J J (Tr.move J J J (Tr.fld J J J Y53 J Sz51 dE _ J (Tr.load1 J J J Y51 J Z1 (by exact Block.get_fLinks zA) ?_)))
   refine Tr.lenSl J J J Y51 (two (fun r hr k => Tr.gtr J J J J hr k) (fun hs2_170 => ?_) (fun hs2_170 => ?_))
   ·
    have hs2_17 := of_decide_eq_true hs2_170
    refine Tr.pick J J J J J J (Tr.move J J J (Tr.skp J J (Tr.skp J J (Tr.skp J J (Tr.skp J J (Tr.pick J J J J J J (Tr.nil (at_n (Sat.cond_t J J (Sat.seq (Sat.region (Tr.assign J J J (Tr.nil (at_n (Sat.ret (at_r (en_r ?_)))))))))))))))))
    refine ⟨_, [], res_tmp J J, sP, sP, ?_, rfl⟩
    exact congrArg i64 (bcheck_head (by unfold bhead bheadB; simp_all)).symm
   ·
    have hs2_17 := of_decide_eq_false hs2_170
    refine Tr.pick J J J J J J (Tr.move J J J (Tr.fld J J J Y53 J Sz39 dE _ J (Tr.load1 J J J Y39 J Z1 (by exact Block.get_fData zA) ?_)))
    refine Tr.lenSl J J J Y39 (Tr.gtr J J J J J (Tr.pick J J J J J J (Tr.nil (at_n (Sat.condP J (fun hc0 => ?_) (fun hc0 => ?_))))))
    ·
     refine Sat.seq (Sat.region (Tr.assign J J J (Tr.nil (at_n (Sat.ret (at_r (en_r ?_)))))))
     refine ⟨_, [], res_tmp J J, sP, sP, ?_, rfl⟩
     exact congrArg i64 (bcheck_head (by unfold bhead bheadB; simp_all)).symm
    ·
     have hnb : ¬ bhead B := by unfold bhead bheadB; simp_all
     refine Sat.skip (at_n (Sat.seq (Sat.seq (Sat.region (Tr.fld J J J Y53 J Sz51 dE _ J (Tr.load1 J J J Y51 J Z1 (by exact Block.get_fLinks zA) ?_))))))
     refine Tr.lenSl J J J Y51 (Tr.move J J J (Tr.nil (at_n (Sat.block (Sat.loop (ι := Nat) (fun k => ⟨[(1, ptr n1 0), (3, ptr n3 0), (33, B.fLinks.v), (34, i64 (B.fLinks.n : Int)), (35, i64 (k : Int))], [⟨n3, bytesV (List.replicate 32 0), 24, 32⟩, ⟨n1, B.cells, 53, B.cells.length⟩]⟩) (fun k => k ≤ B.fLinks.n ∧ ∀ j, j < k → badAt B.fPrev ls j = false) (fun k => B.fLinks.n - k) (0) ?_ ?_ ?_)))))
     · exact ⟨by omega, fun j hj => by omega⟩
     · exact weak_of (wk1 rfl (wk1 rfl (wk1 rfl (wk1 rfl (wk1 rfl wk0))))) (wh1 Z0 (wh1 Z1 wh0)) nD
     ·
      rintro k ⟨hk, hg⟩
      refine Sat.seq (Sat.region (Tr.lss J J J J J (Tr.nil (at_n (Sat.seq (Sat.condP J (fun hc1 => ?_) (fun hc1 => ?_)))))))
      ·
       have hk2 : k < B.fLinks.n := by omega
       have hll := hW.len
       obtain ⟨b, o, hbp, hbs⟩ := hW.see.at (by rw [flatB_length hW.row]; omega)
       have hr0 : (ls.getD k []).length = 32 := getD_len hW.row oM
       have hr1 : (ls.getD (k - 1) []).length = 32 := getD_len hW.row oM
       refine Sat.skip (at_n (Sat.join (ι := Unit) (fun _u => ⟨[(1, ptr n1 0), (3, ptr n3 0), (33, B.fLinks.v), (34, i64 (B.fLinks.n : Int)), (35, i64 (k : Int))], [⟨n3, bytesV (List.replicate 32 0), 24, 32⟩, ⟨n1, B.cells, 53, B.cells.length⟩]⟩) (fun _u => badAt B.fPrev ls k = false) ?_ ?_))
       ·
        refine Sat.block (Sat.seq (Sat.region (Tr.move J J J (Tr.idxSlP 32 J J J hbp J Y51 Sz24 k J oM (Tr.loadEN (bytesV (ls.getD (k) [])) J J J Y24 J Sz24 sP (by rw [bytesV, List.length_map]; exact getD_len hW.row (by rw [hW.len]; omega)) (sees_row hW.row hbs (by rw [hW.len]; omega)) ?_)))))
        refine Tr.alloc (cs := (bytesV (List.replicate 32 0))) J Zr24 J ?_
        intro n5 hn5 hf5
        refine Tr.assign J J J (Tr.storeAll J J J J zB Sz24 (by (rw [bytesV, List.length_map]; assumption)) Z0 sP zU ?_)
        refine Tr.nil (at_n (Sat.seq (Sat.draw [(1, 0), (1, 1), (0, 2), (0, 3), (1, 4), (0, 5), (1, 6), (0, 7), (0, 8), (0, 9), (0, 10), (0, 11), (0, 12), (0, 13), (1, 14), (0, 15), (0, 16), (0, 17), (1, 18), (1, 19), (3, 20), (0, 21), (0, 22), (0, 23)] Mixed zK (Tr.loadAll J J J Y24 J Sz24 Z0 (by (rw [bytesV, List.length_map]; assumption)) ?_))))
        refine Tr.loadAll J J J Y24 J Sz24 Z1 sP ?_
        refine two (fun r hr k => Tr.eql_bytes J J J J Tryz.eqGuardType24 Y24 Y5 Sz5 zA sP hr k) (fun hs7_20 => ?_) (fun hs7_20 => ?_)
        ·
         have hs7_2 := of_decide_eq_true hs7_20
         refine Tr.move J J J (Tr.skp J J (Tr.skp J J (Tr.skp J J (Tr.skp J J (Tr.pick J J J J J J (Tr.move J J J (Tr.skp J J (Tr.skp J J (Tr.skp J J (Tr.skp J J (Tr.skp J J (Tr.skp J J (Tr.skp J J (Tr.skp J J (Tr.skp J J (Tr.skp J J (Tr.skp J J (Tr.skp J J (Tr.skp J J (Tr.pick J J J J J J (Tr.nil (at_n (Sat.cond_t J J (Sat.seq (Sat.region (Tr.assign J J J (Tr.nil (at_n (Sat.ret (bl_r (at_r (at_r (bl_r (at_r (en_r ?_)))))))))))))))))))))))))))))))))))
         refine ⟨_, [], res_tmp J J, sP, sP, ?_, rfl⟩
         exact congrArg i64 (bcheck_bad hnb (linksBad_at (k := k) oM (by unfold badAt; simp_all))).symm
        ·
         have hs7_2 := of_decide_eq_false hs7_20
         refine Tr.move J J J (Tr.loadAll J J J Y24 J Sz24 Z0 (by (rw [bytesV, List.length_map]; assumption)) ?_)
         refine Tr.fld J J J Y53 J Sz24 dE _ J (Tr.loadN (bytesV _) J J J Y24 J Sz24 Z2 (Block.row_fPrev zA) (Block.rl_fPrev zA) ?_)
         refine two (fun r hr k => Tr.eql_bytes J J J J Tryz.eqGuardType24 Y24 Y5 Sz5 zA (by (simp [hB.l_fPrev]; done)) hr k) (fun hs7_70 => ?_) (fun hs7_70 => ?_)
         ·
          have hs7_7 := of_decide_eq_true hs7_70
          refine Tr.pick J J J J J J (Tr.move J J J (Tr.skp J J (Tr.skp J J (Tr.skp J J (Tr.skp J J (Tr.skp J J (Tr.skp J J (Tr.skp J J (Tr.skp J J (Tr.skp J J (Tr.skp J J (Tr.skp J J (Tr.skp J J (Tr.skp J J (Tr.pick J J J J J J (Tr.nil (at_n (Sat.cond_t J J (Sat.seq (Sat.region (Tr.assign J J J (Tr.nil (at_n (Sat.ret (bl_r (at_r (at_r (bl_r (at_r (en_r ?_))))))))))))))))))))))))))))))
          refine ⟨_, [], res_tmp J J, sP, sP, ?_, rfl⟩
          exact congrArg i64 (bcheck_bad hnb (linksBad_at (k := k) oM (by unfold badAt; simp_all))).symm
         ·
          have hs7_7 := of_decide_eq_false hs7_70
          refine Tr.pick J J J J J J (Tr.move J J J (Tr.move J J J (two (fun r hr k => Tr.gtr J J J J hr k) (fun hs7_110 => ?_) (fun hs7_110 => ?_))))
          ·
           have hs7_11 := of_decide_eq_true hs7_110
           refine Tr.move J J J (Tr.fld J J J Y53 J Sz51 dE _ J (Tr.load1 J J J Y51 J Z2 (by exact Block.get_fLinks zA) ?_))
           refine Tr.move J J J (Tr.sub_i64 J J J J oM (Tr.idxSlP 32 J J J hbp J Y51 Sz24 (k - 1) oM oM (Tr.loadEN (bytesV (ls.getD (k - 1) [])) J J J Y24 J Sz24 sP (by rw [bytesV, List.length_map]; exact getD_len hW.row (by rw [hW.len]; omega)) (sees_row hW.row hbs (by rw [hW.len]; omega)) ?_)))
           refine Tr.loadAll J J J Y24 J Sz24 Z0 (by (rw [bytesV, List.length_map]; assumption)) ?_
           refine Tr.callV J J J J Body56 (block_cmp _ _ hr1 hr0) (fun _ _ => trivial) (Tr.geq J J J J J (Tr.pick J J J J J J (Tr.pick J J J J J J (Tr.nil (at_n (Sat.condP J (fun hc2 => ?_) (fun hc2 => ?_)))))))
           ·
            refine Sat.seq (Sat.region (Tr.assign J J J (Tr.nil (at_n (Sat.ret (bl_r (at_r (at_r (bl_r (at_r (en_r ?_)))))))))))
            refine ⟨_, [], res_tmp J J, sP, sP, ?_, rfl⟩
            exact congrArg i64 (bcheck_bad hnb (linksBad_at (k := k) oM (by unfold badAt; simp_all))).symm
           ·
            refine Sat.skip (bl_n (at_n ?_))
            refine ⟨(), by unfold badAt; simp_all, weak_of (wk1 J (wk1 J (wk1 J (wk1 J (wk1 J wk0))))) (wh1 Z1 (wh1 Z2 wh0)) nD⟩
          ·
           have hs7_11 := of_decide_eq_false hs7_110
           refine Tr.move J J J (Tr.skp J J (Tr.skp J J (Tr.skp J J (Tr.skp J J (Tr.skp J J (Tr.skp J J (Tr.skp J J (Tr.skp J J (Tr.skp J J (Tr.pick J J J J J J (Tr.pick J J J J J J (Tr.nil (at_n (Sat.cond_f J J (Sat.skip (bl_n (at_n ?_)))))))))))))))))
           refine ⟨(), by unfold badAt; simp_all, weak_of (wk1 J (wk1 J (wk1 J (wk1 J (wk1 J wk0))))) (wh1 Z1 (wh1 Z2 wh0)) nD⟩
       ·
        intro _u hj
        have hgk := hj
        refine Sat.region (Tr.add_i64 J J J J oM (Tr.move J J J (Tr.nil (at_n ?_))))
        exact ⟨k + 1, ⟨by omega, fun j hj => by rcases Nat.lt_succ_iff_lt_or_eq.1 hj with h | rfl; exact hg j h; exact hgk⟩, by omega, weak_of (wk1 rfl (wk1 rfl (wk1 rfl (wk1 rfl (wk1 rfl wk0))))) (wh1 Z0 (wh1 Z1 wh0)) nD⟩
      ·
       obtain rfl : k = B.fLinks.n := by omega
       refine Sat.exit (at_x (at_x (bl_h (at_n (Sat.seq (Sat.region (Tr.assign J J J (Tr.nil (at_n (Sat.ret (en_r ?_)))))))))))
       refine ⟨_, [], res_tmp J J, sP, sP, ?_, rfl⟩
       exact congrArg i64 (bcheck_ok hnb (linksBad_not (by rw [hW.len]; exact hg))).symm

def lightB (xs : List Block) (m : Int) : Bool := (!decide (m < (xs.length : Int))) && (xs.all fun x => decide ((x.fLinks.n : Int) ≤ 40) && decide ((x.fData.n : Int) ≤ 2000))
theorem blk_cell {w : World} {b o k j : Nat} {xs : List Block} {x : Block} {v : Value} (hok : ∀ x ∈ xs, x.ok) (hs : Sees w b o (xs.map Block.cells).flatten) (hx : xs[k]? = some x) (hj : j < 131) (hv : x.cells[j]? = some v) : w.cell? ⟨b, o + k * 131 + j, none⟩ = some v := by
  rw [Nat.add_assoc]
  refine hs _ v ?_
  rw [flatten_get 131 _ k j x.cells (fun l hl => ?_) (by rw [List.getElem?_map, hx]; rfl) hj]
  · exact hv
  · obtain ⟨y, hy, rfl⟩ := List.mem_map.1 hl
    exact Block.length (hok y hy)
theorem all_take_step {xs : List Block} {f : Block → Bool} {k : Nat} {x : Block} (hx : xs[k]? = some x) (h : (xs.take k).all f = true) (hf : f x = true) : (xs.take (k + 1)).all f = true := by
  have hk : k < xs.length := (List.getElem?_eq_some_iff.1 hx).1
  rw [List.take_succ_eq_append_getElem hk, List.all_append, h]
  have : xs[k] = x := (List.getElem?_eq_some_iff.1 hx).2
  simp [this, hf]
theorem all_bad {xs : List Block} {f : Block → Bool} {k : Nat} {x : Block} (hx : xs[k]? = some x) (hf : f x = false) : xs.all f = false := by
  rw [List.all_eq_false]
  exact ⟨x, List.mem_of_getElem? hx, by rw [hf]; simp⟩

theorem light_blocks (b o c n : Nat) (xs : List Block) (hok : ∀ x ∈ xs, x.ok) (hx : xs.length = n) (hn : n ≤ 1000000) (m : Int) : Meets Tryz.prog 35 [.slice (some ⟨b, o, none⟩) n c, i64 m] [] (fun W => Sees W b o (xs.map Block.cells).flatten) (fun v out => v = .bool (lightB xs m) ∧ out = []) := by
 intro W hW
 refine calls_of (hp0 := []) Tryz.func35 J 32 Tryz.ntmps35 J (HRep.nil _) (Sat.seq (Sat.region (Tr.assign J J J (Tr.nil (at_n (Sat.seq (Sat.seq (Sat.region (Tr.move J J J (Tr.lenSl J J J Y55 (Tr.move J J J (Tr.gtr J J J J J (Tr.nil (at_n (Sat.condP J (fun hc0 => ?_) (fun hc0 => ?_))))))))))))))))
 ·
  refine Sat.seq (Sat.region (Tr.assign J J J (Tr.nil (at_n (Sat.ret (at_r (en_r ?_)))))))
  refine ⟨_, [], res_tmp J J, sP, sP, ?_, rfl⟩
  (simp [lightB]; omega)
 ·
  refine Sat.skip (at_n (Sat.seq (Sat.seq (Sat.region (Tr.assign J J J (Tr.nil (at_n (Sat.block (Sat.loop (ι := Nat) (fun k => ⟨[(0, .slice (some ⟨b, o, none⟩) n c), (5, i64 (k : Int))], []⟩) (fun k => k ≤ n ∧ (xs.take k).all (fun x : Block => decide ((x.fLinks.n : Int) ≤ 40) && decide ((x.fData.n : Int) ≤ 2000)) = true) (fun k => n - k) (0) ?_ ?_ ?_)))))))))
  · exact ⟨by omega, rfl⟩
  · exact weak_of (wk1 rfl (wk1 rfl wk0)) wh0 (by repeat (exact ns_nil))
  ·
   rintro k ⟨hk, hg⟩
   refine Sat.seq (Sat.seq (Sat.region (Tr.move J J J (Tr.move J J J (Tr.lenSl J J J Y55 (Tr.lss J J J J J (Tr.nil (at_n (Sat.condP J (fun hc1 => ?_) (fun hc1 => ?_))))))))))
   ·
    have hk2 : k < n := by omega
    obtain ⟨x, hxk⟩ : ∃ x, xs[k]? = some x := ⟨_, List.getElem?_eq_getElem oM⟩
    have okx := hok x (List.mem_of_getElem? hxk)
    refine Sat.skip (at_n (Sat.seq (Sat.block (Sat.seq (Sat.region (Tr.move J J J (Tr.move J J J (Tr.idxSl 131 J J J J Y55 Sz53 _ J oM (Tr.fld J J J Y53 J Sz51 dE _ J (Tr.loadE J J J Y51 J sP (blk_cell hok hW hxk dE (Block.get_fLinks okx)) (Tr.lenSl J J J Y51 (two (fun r hr k => Tr.gtr J J J J hr k) (fun hs6_60 => ?_) (fun hs6_60 => ?_)))))))))))))
    ·
     have hs6_6 := of_decide_eq_true hs6_60
     have hgx : (fun x : Block => decide ((x.fLinks.n : Int) ≤ 40) && decide ((x.fData.n : Int) ≤ 2000)) x = false := Bool.and_eq_false_iff.2 (.inl (decide_eq_false oM))
     refine Tr.move J J J (Tr.skp J J (Tr.skp J J (Tr.skp J J (Tr.skp J J (Tr.skp J J (Tr.skp J J (Tr.skp J J (Tr.pick J J J J J J (Tr.nil (at_n (Sat.cond_t J J (Sat.seq (Sat.region (Tr.assign J J J (Tr.nil (at_n (Sat.ret (bl_r (at_r (at_r (bl_r (at_r (en_r ?_)))))))))))))))))))))))
     refine ⟨_, [], res_tmp J J, sP, sP, ?_, rfl⟩
     (rw [lightB, all_bad hxk hgx, Bool.and_false]; done)
    ·
     have hs6_6 := of_decide_eq_false hs6_60
     skip
     refine Tr.move J J J (Tr.move J J J (Tr.move J J J (Tr.idxSl 131 J J J J Y55 Sz53 _ J oM (Tr.fld J J J Y53 J Sz39 dE _ J (Tr.loadE J J J Y39 J sP (blk_cell hok hW hxk dE (Block.get_fData okx)) (Tr.lenSl J J J Y39 (Tr.gtr J J J J J (Tr.pick J J J J J J (Tr.nil (at_n (Sat.condP J (fun hc2 => ?_) (fun hc2 => ?_))))))))))))
     ·
      have hgx : (fun x : Block => decide ((x.fLinks.n : Int) ≤ 40) && decide ((x.fData.n : Int) ≤ 2000)) x = false := Bool.and_eq_false_iff.2 (.inr (decide_eq_false oM))
      refine Sat.seq (Sat.region (Tr.assign J J J (Tr.nil (at_n (Sat.ret (bl_r (at_r (at_r (bl_r (at_r (en_r ?_)))))))))))
      refine ⟨_, [], res_tmp J J, sP, sP, ?_, rfl⟩
      (rw [lightB, all_bad hxk hgx, Bool.and_false]; done)
     ·
      have hgx : (fun x : Block => decide ((x.fLinks.n : Int) ≤ 40) && decide ((x.fData.n : Int) ≤ 2000)) x = true := by simp; omega
      refine Sat.skip (bl_n (at_n (Sat.region (Tr.move J J J (Tr.add_i64 J J J J oM (Tr.assign J J J (Tr.nil (at_n ?_))))))))
      exact ⟨k + 1, ⟨by omega, all_take_step hxk hg hgx⟩, by omega, weak_of (wk1 rfl (wk1 rfl wk0)) wh0 (by repeat (exact ns_nil))⟩
   ·
    obtain rfl : k = n := by omega
    refine Sat.exit (at_x (at_x (bl_h (at_n (Sat.seq (Sat.region (Tr.assign J J J (Tr.nil (at_n (Sat.ret (en_r ?_)))))))))))
    refine ⟨_, [], res_tmp J J, sP, sP, ?_, rfl⟩
    (rw [List.take_of_length_le oM] at hg; rw [lightB, hg, Bool.and_true]; simp [hx]; omega)

theorem kit_names (s : Sl) (ls : List (List UInt8)) (hn : s.n ≤ 500000) : Meets Tryz.prog 92 [s.v] [] (fun W => RowsAt W s 32 ls) (fun v out => FreshRow v out (flatB ls) 24 s.n 32) := by
 intro W hW
 refine calls_of (hp0 := []) Tryz.func92 J 6 Tryz.ntmps92 J (HRep.nil _) (Sat.seq (Sat.region (Tr.assign J J J (Tr.nil (at_n (Sat.seq (Sat.region (Tr.mkRow (z := agg (bytesV (List.replicate 32 0))) [] ([]) J J J Y51 Sz24 Zr24 J J (by intro v hv; cases hv) dE (rfl) ?_))))))))
 intro q0
 refine Tr.move J J J (Tr.appendSl (z := agg (bytesV (List.replicate 32 0))) (by' := 32) (flatB ls) J J J J J Y51 Y51 Sz24 Zr24 (by unfold By; kernel_rfl) J (fun w h => seesP_ext h J hW.see) (fun e => by have := hW.nil e; have := hW.cap; omega) (flatB_cell ls) rem_here J J oM oM oM (by rw [flatB_length hW.row, hW.len]) ?_)
 intro q1 c1 hq1
 refine Tr.assign J J J (Tr.nil (at_n (Sat.ret (en_r ?_))))
 refine ⟨_, [⟨q1, [] ++ flatB ls, 24, c1 * 32⟩], res_tmp J J, (by intro b hb; rw [List.mem_singleton.1 hb]; exact mem0), nodup1, ⟨q1, c1, by rw [Nat.zero_add], by omega, rfl⟩⟩

theorem kit_own (s : Sl) (l : List UInt8) (hn : s.n ≤ 500000) : Meets Tryz.prog 24 [s.v] [] (fun W => BytesAt W s l) (fun v out => FreshRow v out (bytesV l) 5 s.n 1) := by
 intro W hW
 refine calls_of (hp0 := []) Tryz.func24 J 6 Tryz.ntmps24 J (HRep.nil _) (Sat.seq (Sat.region (Tr.assign J J J (Tr.nil (at_n (Sat.seq (Sat.region (Tr.mkRow (z := u8 0) [] ([]) J J J Y39 Sz5 Zr5 J J (by intro v hv; cases hv) dE (rfl) ?_))))))))
 intro q0
 refine Tr.move J J J (Tr.appendSl (z := u8 0) (by' := 1) (bytesV l) J J J J J Y39 Y39 Sz5 Zr5 (by unfold By; kernel_rfl) J (fun w h => seesP_ext h J hW.see) (fun e => by have := hW.nil e; have := hW.cap; omega) (by simp [bytesV, isCell, u8]) rem_here J J oM oM oM (by rw [bytesV, List.length_map, hW.len, Nat.mul_one]) ?_)
 intro q1 c1 hq1
 refine Tr.assign J J J (Tr.nil (at_n (Sat.ret (en_r ?_))))
 refine ⟨_, [⟨q1, [] ++ bytesV l, 5, c1 * 1⟩], res_tmp J J, (by intro b hb; rw [List.mem_singleton.1 hb]; exact mem0), nodup1, ⟨q1, c1, by rw [Nat.zero_add], by omega, rfl⟩⟩

def ownB (B : Block) (q1 c1 q2 c2 : Nat) : Block := { B with fLinks := ⟨some ⟨q1, 0, none⟩, B.fLinks.n, c1⟩, fData := ⟨some ⟨q2, 0, none⟩, B.fData.n, c2⟩ }
theorem ownB_ok {B : Block} (h : B.ok) (q1 c1 q2 c2 : Nat) : (ownB B q1 c1 q2 c2).ok := ⟨h.l_fWriter, h.l_fPrev, h.l_fSig⟩
def OwnedBlock (B : Block) (ls : List (List UInt8)) (l : List UInt8) (v : Value) (out : List Blk) : Prop := ∃ q1 c1 q2 c2, v = agg (ownB B q1 c1 q2 c2).cells ∧ B.fLinks.n ≤ c1 ∧ B.fData.n ≤ c2 ∧ out = [⟨q2, bytesV l, 5, c2 * 1⟩, ⟨q1, flatB ls, 24, c1 * 32⟩]
theorem OwnedBlock.loose (B : Block) (ls : List (List UInt8)) (l : List UInt8) : Loose (OwnedBlock B ls l) := fun k hk => by
  obtain ⟨q1, _, h1⟩ := fresh_is 0 k
  obtain ⟨q2, h2', h2⟩ := fresh_is (q1 + 1) k
  refine ⟨_, _, ⟨q1, B.fLinks.n, q2, B.fData.n, rfl, Nat.le_refl _, Nat.le_refl _, rfl⟩, ?_⟩
  simp only [List.cons_append, List.nil_append, List.map_cons, List.nodup_cons, List.mem_cons]
  refine ⟨?_, fun h => ?_, hk⟩
  · rintro (h | h)
    · omega
    · obtain ⟨b, hb, e⟩ := List.mem_map.1 h; exact h2 b hb e
  · obtain ⟨b, hb, e⟩ := List.mem_map.1 h; exact h1 b hb e
theorem rows_ext {C : Cx} {hp : List Blk} {w : World} {s : Sl} {m : Nat} {ls : List (List UInt8)} (h : HRep C hp w) (hl : C.lent = []) (hr : RowsAt C.W0 s m ls) : RowsAt w s m ls := ⟨hr.len, hr.row, hr.cap, seesP_ext h hl hr.see, hr.max, hr.nil⟩
theorem bytes_ext {C : Cx} {hp : List Blk} {w : World} {s : Sl} {l : List UInt8} (h : HRep C hp w) (hl : C.lent = []) (hr : BytesAt C.W0 s l) : BytesAt w s l := ⟨hr.len, hr.cap, seesP_ext h hl hr.see, hr.max, hr.nil⟩

theorem kit_own_block (B : Block) (hB : B.ok) (ls : List (List UInt8)) (l : List UInt8) (hn : B.fLinks.n ≤ 500000) (hd : B.fData.n ≤ 500000) : Meets Tryz.prog 37 [agg B.cells] [] (fun W => RowsAt W B.fLinks 32 ls ∧ BytesAt W B.fData l) (OwnedBlock B ls l) := by
 intro W hW
 refine calls_of (hp0 := []) Tryz.func37 J 12 Tryz.ntmps37 J (HRep.nil _) (Sat.seq (Sat.region (Tr.boxA J J ?_)))
 intro n1 hn1 hf1
 refine Tr.alloc (cs := Block.zero.cells) J Block.zr J ?_
 intro n2 hn2 hf2
 refine Tr.nil (at_n (Sat.seq (Sat.draw [(0, 0), (1, 1), (0, 3), (1, 4), (3, 2), (0, 6), (3, 5), (4, 7), (0, 8), (4, 9)] Mixed zK (Tr.fld J J J Y53 J Sz51 dE _ J (Tr.load1 J J J Y51 J Z1 (by exact Block.get_fLinks zA) ?_)))))
 refine Tr.fld J J J Y53 J Sz39 dE _ J (Tr.load1 J J J Y39 J Z1 (by exact Block.get_fData zA) ?_)
 refine Tr.call J J J J Body92 (kit_names _ ls hn) (FreshRow.loose _ _ _ _) (fun w h => rows_ext h J hW.1) ?_
 rintro v1 out1 ⟨q1, c1, rfl, hc1, rfl⟩
 refine Tr.fld J J J Y53 J Sz51 dE _ J (Tr.call J J J J Body24 (kit_own _ l hd) (FreshRow.loose _ _ _ _) (fun w h => bytes_ext h J hW.2) ?_)
 rintro v2 out2 ⟨q2, c2, rfl, hc2, rfl⟩
 refine Tr.store1 J J J J J Sz51 Z3 (by rw [Block.length zA]; decide) (by exact Block.setS_fLinks zA _ _ _) (by exact upd3) ?_
 refine Tr.fld J J J Y53 J Sz39 dE _ J (Tr.store1 J J J J J Sz39 Z3 (by rw [Block.length (by exact ⟨hB.l_fWriter, hB.l_fPrev, hB.l_fSig⟩)]; decide) (by exact Block.setS_fData (by exact ⟨hB.l_fWriter, hB.l_fPrev, hB.l_fSig⟩) _ _ _) (by exact upd3) ?_)
 refine Tr.nil (at_n (Sat.seq (Sat.region (Tr.loadAll J J J Y53 J Sz53 Z3 (Block.length (by exact ⟨hB.l_fWriter, hB.l_fPrev, hB.l_fSig⟩)) ?_))))
 refine Tr.storeAll J J J J (Block.isCell (by exact ⟨hB.l_fWriter, hB.l_fPrev, hB.l_fSig⟩)) Sz53 (Block.length (by exact ⟨hB.l_fWriter, hB.l_fPrev, hB.l_fSig⟩)) Z2 (Block.length (by exact Block.zero_ok)) (by exact upd2) ?_
 refine Tr.nil (at_n (Sat.ret (en_r ?_)))
 refine ⟨_, [⟨q2, bytesV l, 5, c2 * 1⟩, ⟨q1, flatB ls, 24, c1 * 32⟩], res_cell J J Y53 J Sz53 Z2 (Block.length (ownB_ok hB q1 c1 q2 c2)), (by intro b hb; rcases List.mem_cons.1 hb with rfl | hb; exact mem0; rw [List.mem_singleton.1 hb]; exact mem1), (fun h => h.sublist sP), ⟨q1, c1, q2, c2, rfl, hc1, hc2, rfl⟩⟩

theorem take_step {α : Type} {xs bs : List α} {k : Nat} (d : α) (ha : k < xs.length) (hb : k < bs.length) (h : xs.take k = bs.take k) (he : xs.getD k d = bs.getD k d) : xs.take (k + 1) = bs.take (k + 1) := by
  rw [List.take_succ_eq_append_getElem ha, List.take_succ_eq_append_getElem hb, h]
  have e1 : xs.getD k d = xs[k] := by simp [List.getD, ha]
  have e2 : bs.getD k d = bs[k] := by simp [List.getD, hb]
  rw [← e1, ← e2, he]

theorem digests_eq (p q : Option Addr) (n c1 c2 : Nat) (xs bs : List (List UInt8)) (hra : ∀ l ∈ xs, l.length = 32) (hrb : ∀ l ∈ bs, l.length = 32) (ha : xs.length = n) (hb : bs.length = n) (hn : n ≤ 1000000) : Meets Tryz.prog 54 [.slice p n c1, .slice q n c2] [] (fun W => SeesP W p (flatB xs) ∧ SeesP W q (flatB bs)) (fun v out => v = .bool (decide (xs = bs)) ∧ out = []) := by
 intro W hW
 refine calls_of (hp0 := []) Tryz.func54 J 26 Tryz.ntmps54 J (HRep.nil _) (Sat.seq (Sat.region (Tr.assign J J J (Tr.nil (at_n (Sat.seq (Sat.seq (Sat.region (Tr.move J J J (Tr.lenSl J J J Y51 (Tr.move J J J (Tr.lenSl J J J Y51 (Tr.nei J J J J (show (!decide _) = false from congrArg not (decide_eq_true (rfl))) (Tr.nil (at_n (Sat.cond_f J (rfl) (Sat.skip (at_n (Sat.seq (Sat.seq (Sat.region (Tr.assign J J J (Tr.nil (at_n (Sat.block (Sat.loop (ι := Nat) (fun k => ⟨[(0, .slice p n c1), (1, .slice q n c2), (5, i64 (k : Int))], []⟩) (fun k => k ≤ n ∧ xs.take k = bs.take k) (fun k => n - k) (0) ?_ ?_ ?_))))))))))))))))))))))))))
 · exact ⟨by omega, rfl⟩
 · exact weak_of (wk1 rfl (wk1 rfl (wk1 rfl wk0))) wh0 (by repeat (exact ns_nil))
 ·
  rintro k ⟨hk, hg⟩
  refine Sat.seq (Sat.seq (Sat.region (Tr.move J J J (Tr.move J J J (Tr.lenSl J J J Y51 (Tr.lss J J J J J (Tr.nil (at_n (Sat.condP J (fun hc1 => ?_) (fun hc1 => ?_))))))))))
  ·
   have hk2 : k < n := by omega
   obtain ⟨b1, o1, hp1, hs1⟩ := hW.1.at (by rw [flatB_length hra]; omega)
   obtain ⟨b2, o2, hp2, hs2⟩ := hW.2.at (by rw [flatB_length hrb]; omega)
   have r1 : (xs.getD k []).length = 32 := getD_len hra oM
   have r2 : (bs.getD k []).length = 32 := getD_len hrb oM
   refine Sat.skip (at_n (Sat.seq (Sat.block (Sat.seq (Sat.draw [(0, 0), (0, 1), (0, 2), (1, 3), (0, 4), (0, 5), (0, 6), (1, 7), (0, 8)] Mixed zK (Tr.move J J J (Tr.move J J J (Tr.idxSlP 32 J J J hp1 J Y51 Sz24 k J oM (Tr.loadEN (bytesV (xs.getD k [])) J J J Y24 J Sz24 sP (by rw [bytesV, List.length_map]; exact getD_len hra oM) (sees_row hra hs1 oM) ?_)))))))))
   refine Tr.move J J J (Tr.move J J J (Tr.idxSlP 32 J J J hp2 J Y51 Sz24 k J oM (Tr.loadEN (bytesV (bs.getD k [])) J J J Y24 J Sz24 sP (by rw [bytesV, List.length_map]; exact getD_len hrb oM) (sees_row hrb hs2 oM) ?_)))
   refine Tr.neq_bytes J J J J Tryz.eqGuardType24 Y24 Y5 Sz5 zA zA J ?_
   refine Tr.nil (at_n (Sat.condNP J (fun hc2 => ?_) (fun hc2 => ?_)))
   ·
    refine Sat.seq (Sat.region (Tr.assign J J J (Tr.nil (at_n (Sat.ret (bl_r (at_r (at_r (bl_r (at_r (en_r ?_)))))))))))
    refine ⟨_, [], res_tmp J J, sP, sP, ?_, rfl⟩
    (rw [decide_eq_false (fun e => hc2 (by rw [e]))]; done)
   ·
    refine Sat.skip (bl_n (at_n (Sat.region (Tr.move J J J (Tr.add_i64 J J J J oM (Tr.assign J J J (Tr.nil (at_n ?_))))))))
    exact ⟨k + 1, ⟨by omega, take_step [] oM oM hg hc2⟩, by omega, weak_of (wk1 rfl (wk1 rfl (wk1 rfl wk0))) wh0 (by repeat (exact ns_nil))⟩
  ·
   obtain rfl : k = n := by omega
   refine Sat.exit (at_x (at_x (bl_h (at_n (Sat.seq (Sat.region (Tr.assign J J J (Tr.nil (at_n (Sat.ret (en_r ?_)))))))))))
   refine ⟨_, [], res_tmp J J, sP, sP, ?_, rfl⟩
   (rw [List.take_of_length_le oM, List.take_of_length_le oM] at hg; rw [decide_eq_true hg]; done)

theorem digests_ne (p q : Option Addr) (n m c1 c2 : Nat) (xs bs : List (List UInt8)) (hra : ∀ l ∈ xs, l.length = 32) (hrb : ∀ l ∈ bs, l.length = 32) (ha : xs.length = n) (hb : bs.length = m) (hn : n ≤ 1000000) (hnm : n ≠ m) : Meets Tryz.prog 54 [.slice p n c1, .slice q m c2] [] (fun W => SeesP W p (flatB xs) ∧ SeesP W q (flatB bs)) (fun v out => v = .bool (decide (xs = bs)) ∧ out = []) := by
 intro W hW
 refine calls_of (hp0 := []) Tryz.func54 J 26 Tryz.ntmps54 J (HRep.nil _) (Sat.seq (Sat.region (Tr.assign J J J (Tr.nil (at_n (Sat.seq (Sat.seq (Sat.region (Tr.move J J J (Tr.lenSl J J J Y51 (Tr.move J J J (Tr.lenSl J J J Y51 (Tr.nei J J J J (show (!decide _) = true from congrArg not (decide_eq_false oM)) (Tr.nil (at_n (Sat.cond_t J (rfl) (Sat.seq (Sat.region (Tr.assign J J J (Tr.nil (at_n (Sat.ret (at_r (en_r ?_))))))))))))))))))))))))
 refine ⟨_, [], res_tmp J J, sP, sP, ?_, rfl⟩
 rw [decide_eq_false (fun e => hnm (by rw [← ha, ← hb, e]))]

end Go.Proofs.YtpacobmjjjillaaGreat
end

section
namespace Hw
open Go Go.RowKit
set_option linter.unusedSimpArgs false
set_option linter.unusedVariables false

section
variable {C : Cx} {ops : Array Oper} {rest : List (Nat × Oper)} {sl : List (Nat × Value)} {hp : List Blk} {Q : St → Prop} {c d : Nat} {ty : TypeId} {pos : String} {af : Array Edge} {g : Option (Nat × Bool)}
variable {f : Operand} {fid : FuncId} {ars : List Operand} {ats : Array TypeId} {vs : List Value}

/-- a call that is lent the blocks L -/
theorem Tr.callL {Pre : World → Prop} {R : Value → List Blk → Prop} {lent : List Nat} {L keep : List Blk} (hg : guardOk ops sl g = true) (hk : Nat.beq c 4 = true) (hd : Nat.blt d C.N = true) (hfn : evIn sl f = some (.func (.func fid) #[] #[])) (hargs : evs sl ars = some vs) (hb : Body C.P fid)
    (hc : Meets C.P fid vs lent Pre R) (hsp : hp.Perm (L ++ keep)) (hl : ∀ n ∈ lent, ∃ b ∈ L, b.n = n) (hpre : ∀ w, HRep C hp w → Pre w)
    (k : ∀ v out, R v out → Tr C ops rest ⟨(d, v) :: sl, out ++ keep⟩ Q) : Tr C ops ((c, ⟨some d, .call ⟨.value f, ars.toArray, ats⟩, ty, pos, af, g⟩) :: rest) ⟨sl, hp⟩ Q := by
  refine Tr.act (ρ := Value × List Blk) (fun r => R r.1 r.2) (·.1) (fun r => r.2 ++ keep) (nbeq' hk) (wantS_of_guardOk hg) (dst_some (nblt hd)) ⟨known_call hfn hargs, fun a w hf hh => ?_⟩ (fun r hr => k r.1 r.2 hr)
  unfold Oper.wp
  rw [run_call hfn hargs hf, hb]
  refine (hc w (hpre w hh)).mono fun e w' ⟨v, out, he, hR, hret⟩ => ?_
  subst he
  exact ⟨(v, out), hR, rfl, hh.lentRet hsp hl hret⟩
end

section
variable {C : Cx} {ops : Array Oper} {rest : List (Nat × Oper)} {sl : List (Nat × Value)} {hp : List Blk} {Q : St → Prop} {c d : Nat} {ty : TypeId} {pos : String} {af : Array Edge} {g : Option (Nat × Bool)}
variable {f : Operand} {fid : FuncId} {ars : List Operand} {ats : Array TypeId} {vs : List Value}
end

section
variable {C : Cx} {ops : Array Oper} {rest : List (Nat × Oper)} {sl : List (Nat × Value)} {hp : List Blk} {Q : St → Prop} {c d : Nat} {ty : TypeId} {pos : String} {af : Array Edge} {g : Option (Nat × Bool)}
variable {f : Operand} {fid : FuncId} {ars : List Operand} {ats : Array TypeId} {vs us : List Value} {fst cap : Array Value}

theorem known_callC (hfn : evIn sl f = some (.func (.func fid) fst cap)) (hargs : evs sl ars = some vs) : Known sl ⟨some d, .call ⟨.value f, ars.toArray, ats⟩, ty, pos, af, g⟩ := by
  intro x hx
  simp [Op.operands, Call.operands] at hx
  rcases hx with rfl | hx
  · simp [hfn]
  · exact evs_known hargs x hx

theorem run_callC {ρ : Operand → Value} {w : World} (hfn : evIn sl f = some (.func (.func fid) fst cap)) (hargs : evs sl ars = some vs) (hus : fst.toList ++ vs ++ cap.toList = us)
    (hf : Fits sl ⟨some d, .call ⟨.value f, ars.toArray, ats⟩, ty, pos, af, g⟩ ρ) :
    (execOp ρ ⟨some d, .call ⟨.value f, ars.toArray, ats⟩, ty, pos, af, g⟩).run C.P w = (callFunc fid us.toArray).run C.P w := by
  have h1 := hf f (by simp [Op.operands, Call.operands]); rw [hfn] at h1
  simp only [Option.some.injEq] at h1
  have h2 := evs_map hargs fun x hx => hf x (by simp [Op.operands, Call.operands, hx])
  have e : fst ++ vs.toArray ++ cap = us.toArray := by rw [← hus]; simp
  simp [execOp, resolve, Deferred.ofValue, ← h1, h2, invoke]
  rw [← e, Array.append_assoc]

theorem Tr.callCL {Pre : World → Prop} {R : Value → List Blk → Prop} {lent : List Nat} {L keep : List Blk} (hg : guardOk ops sl g = true) (hk : Nat.beq c 4 = true) (hd : Nat.blt d C.N = true) (hfn : evIn sl f = some (.func (.func fid) fst cap)) (hargs : evs sl ars = some vs) (hus : fst.toList ++ vs ++ cap.toList = us) (hb : Body C.P fid)
    (hc : Meets C.P fid us lent Pre R) (hsp : hp.Perm (L ++ keep)) (hl : ∀ n ∈ lent, ∃ b ∈ L, b.n = n) (hpre : ∀ w, HRep C hp w → Pre w)
    (k : ∀ v out, R v out → Tr C ops rest ⟨(d, v) :: sl, out ++ keep⟩ Q) : Tr C ops ((c, ⟨some d, .call ⟨.value f, ars.toArray, ats⟩, ty, pos, af, g⟩) :: rest) ⟨sl, hp⟩ Q := by
  refine Tr.act (ρ := Value × List Blk) (fun r => R r.1 r.2) (·.1) (fun r => r.2 ++ keep) (nbeq' hk) (wantS_of_guardOk hg) (dst_some (nblt hd)) ⟨known_callC hfn hargs, fun a w hf hh => ?_⟩ (fun r hr => k r.1 r.2 hr)
  unfold Oper.wp
  rw [run_callC hfn hargs hus hf, hb]
  refine (hc w (hpre w hh)).mono fun e w' ⟨v, out, he, hR, hret⟩ => ?_
  subst he
  exact ⟨(v, out), hR, rfl, hh.lentRet hsp hl hret⟩

theorem Tr.makeFunc {fn : Fn} {ars bs : List Operand} {us vs : List Value} (hg : guardOk ops sl g = true) (hk : okD c d C.N = true) (ha : evs sl ars = some us) (hb : evs sl bs = some vs)
    (k : Tr C ops rest ⟨(d, .func fn us.toArray vs.toArray) :: sl, hp⟩ Q) : Tr C ops ((c, ⟨some d, .makeFunc fn ars.toArray bs.toArray, ty, pos, af, g⟩) :: rest) ⟨sl, hp⟩ Q :=
  .pv hg hk ⟨fun x hx => by
    simp [Op.operands] at hx
    rcases hx with hx | hx
    · exact evs_known ha x hx
    · exact evs_known hb x hx, fun ρ hf w => by
    have h1 := evs_map ha fun x hx => hf x (by simp [Op.operands, hx])
    have h2 := evs_map hb fun x hx => hf x (by simp [Op.operands, hx])
    simp [execOp, Instr.makeFunc, h1, h2]⟩ k
end

/-- the state that a lent call begins with -/
theorem HRep.one {P : Program} {W : World} {N : Nat} {B : Blk} (h : BlkOk W B) : HRep ⟨P, W, N, [B.n], [], []⟩ [B] W :=
  ⟨fun b hb => by rw [List.mem_singleton.1 hb]; exact h, by simp, fun b hb => by rw [List.mem_singleton.1 hb]; exact .inr List.mem_cons_self, Keeps.refl _ _, fun _ h => (by cases h), fun _ _ _ h => (by cases h)⟩
theorem own_blk {C : Cx} {hp : List Blk} {w : World} {B : Blk} (h : HRep C hp w) (hb : B ∈ hp) : BlkOk w B := h.cells B hb
end Hw
end

section
namespace Hw
open Go Go.RowKit
set_option linter.unusedSimpArgs false
set_option linter.unusedVariables false
section
variable {C : Cx} {ops : Array Oper} {rest : List (Nat × Oper)} {sl : List (Nat × Value)} {hp : List Blk} {Q : St → Prop} {c d : Nat} {ty : TypeId} {pos : String} {af : Array Edge} {g : Option (Nat × Bool)}
variable {xT yT : TypeId} {x y : Operand} {p q : UInt8}

theorem Tr.min2 {ats : Array TypeId} {k1 k2 : IntKind} {a b : Int} {v : Value} (hg : guardOk ops sl g = true) (hk : okD c d C.N = true) (hx : evIn sl x = some (.int k1 a)) (hy : evIn sl y = some (.int k2 b)) (hv : Value.int k1 (if b < a then b else a) = v)
    (k : Tr C ops rest ⟨(d, v) :: sl, hp⟩ Q) : Tr C ops ((c, ⟨some d, .call { callee := .builtin .min, args := #[x, y], argTypes := ats }, ty, pos, af, g⟩) :: rest) ⟨sl, hp⟩ Q :=
  .pv hg hk ⟨by simpa [Known, Op.operands, Call.operands] using known2 hx hy, fun ρ hf w => by
    have h1 := hf x (by simp [Op.operands, Call.operands]); rw [hx] at h1
    have h2 := hf y (by simp [Op.operands, Call.operands]); rw [hy] at h2
    simp only [Option.some.injEq] at h1 h2
    subst hv
    simp [execOp, resolve, invoke, builtin, ← h1, ← h2, Builtin.min_, Builtin.min2]⟩ k
theorem Tr.nilChk {a : Addr} (hg : guardOk ops sl g = true) (hk : okD c d C.N = true) (hx : evIn sl x = some (.pointer (some a)))
    (k : Tr C ops rest ⟨(d, .pointer (some a)) :: sl, hp⟩ Q) : Tr C ops ((c, ⟨some d, .nilCheck x, ty, pos, af, g⟩) :: rest) ⟨sl, hp⟩ Q :=
  .pv hg hk ⟨known1 hx, fun ρ hf w => by
    have h1 := hf x (by simp [Op.operands]); rw [hx] at h1
    simp only [Option.some.injEq] at h1
    simp [execOp, ← h1]⟩ k

theorem Tr.eqNilS {ad : Option Addr} {n cap : Nat} {E : TypeId} (hg : guardOk ops sl g = true) (hk : okD c d C.N = true) (hx : evIn sl x = some (.slice ad n cap)) (hy : evIn sl y = some (.slice none 0 0)) (hu : C.P.underlying xT = some (.slice E)) {r : Bool} (hr : ad.isNone = r)
    (k : Tr C ops rest ⟨(d, .bool r) :: sl, hp⟩ Q) : Tr C ops ((c, ⟨some d, .binOp .eql xT x y yT, ty, pos, af, g⟩) :: rest) ⟨sl, hp⟩ Q :=
  .binAny hg hk hx hy (fun w => by simp [eqGuard]) (fun w => by
    subst hr
    have h := run_equal_slice_nil w xT E ad n cap hu
    simp only [binOp, Sem.run_bind, h, Result.andThen_ok]
    rfl) k

theorem Tr.eql_str {a b : List UInt8} (hg : guardOk ops sl g = true) (hk : okD c d C.N = true) (hx : evIn sl x = some (str a)) (hy : evIn sl y = some (str b)) {r : Bool} (hr : decide (a = b) = r)
    (k : Tr C ops rest ⟨(d, .bool r) :: sl, hp⟩ Q) : Tr C ops ((c, ⟨some d, .binOp .eql xT x y yT, ty, pos, af, g⟩) :: rest) ⟨sl, hp⟩ Q :=
  .binAny hg hk hx hy (fun w => by simp [eqGuard, str]) (fun w => by
    subst hr
    rw [show (binOp .eql xT (str a) (str b)) = Op.stringOp .eql ⟨a.toArray⟩ ⟨b.toArray⟩ from rfl]
    simp [Op.stringOp, toList_mk]
    rw [Bool.eq_iff_iff]; simp) k

theorem Tr.or_u8 (hg : guardOk ops sl g = true) (hk : okD c d C.N = true) (hx : evIn sl x = some (u8 p)) (hy : evIn sl y = some (u8 q))
    (k : Tr C ops rest ⟨(d, u8 (p ||| q)) :: sl, hp⟩ Q) : Tr C ops ((c, ⟨some d, .binOp .or xT x y yT, ty, pos, af, g⟩) :: rest) ⟨sl, hp⟩ Q :=
  .bin hg hk hx hy (fun w => congrArg (fun n => Result.ok (Value.int .u8 n) w) (bits8 (· ||| ·) (· ||| ·) (fun _ _ => rfl) p q)) k
def shl8 (x : UInt8) (n : Nat) : UInt8 := UInt8.ofNat (x.toNat * 2 ^ n)
theorem shl8_eq (x : UInt8) (n : Nat) : IntKind.u8.wrap ((x.toNat : Int) * 2 ^ n) = ((shl8 x n).toNat : Int) := by
  rw [IntKind.wrap_u8, shl8, UInt8.toNat_ofNat']
  have : ((x.toNat : Int) * 2 ^ n) = ((x.toNat * 2 ^ n : Nat) : Int) := by simp
  rw [this]; omega
theorem Tr.shl_u8 {ky : IntKind} {b : Int} (hg : guardOk ops sl g = true) (hk : okD c d C.N = true) (hx : evIn sl x = some (u8 p)) (hy : evIn sl y = some (.int ky b)) (n : Nat) (hn : b = n) (hr : n ≤ 8)
    (k : Tr C ops rest ⟨(d, u8 (shl8 p n)) :: sl, hp⟩ Q) : Tr C ops ((c, ⟨some d, .binOp .shl xT x y yT, ty, pos, af, g⟩) :: rest) ⟨sl, hp⟩ Q :=
  .bin hg hk hx hy (fun w => by
    subst hn
    simp only [binOp, Op.shift, IntKind.bits]; rw [if_neg oM, Int.toNat_natCast, Nat.min_eq_left hr, shl8_eq]; rfl) k
theorem Tr.not_u64 {p : UInt64} (hg : guardOk ops sl g = true) (hk : okD c d C.N = true) (hx : evIn sl x = some (u64 p))
    (k : Tr C ops rest ⟨(d, u64 (18446744073709551615 ^^^ p)) :: sl, hp⟩ Q) : Tr C ops ((c, ⟨some d, .unOp .xor xT x, ty, pos, af, g⟩) :: rest) ⟨sl, hp⟩ Q :=
  .pv hg hk ⟨known1 hx, fun ρ hf w => by
    have h1 := hf x (by simp [Op.operands]); rw [hx] at h1
    simp only [Option.some.injEq] at h1
    have h2 := bits64 (· ^^^ ·) (· ^^^ ·) (fun _ _ => rfl) 18446744073709551615 p
    simp only [execOp, ← h1]
    have e : (Op.unary .xor (u64 p)).run C.P w = .ok (u64 (18446744073709551615 ^^^ p)) w := congrArg (fun n => Result.ok (Value.int .u64 n) w) h2
    simp [e]⟩ k

theorem Tr.idxStr {s : ByteArray} {ki : IntKind} {i : Int} {b : UInt8} (hg : guardOk ops sl g = true) (hk : okD c d C.N = true) (hx : evIn sl x = some (.string s)) (hy : evIn sl y = some (.int ki i)) (hu : C.P.underlying xT = some .string) (j : Nat) (hj : i = j) (hb : s[j]? = some b)
    (k : Tr C ops rest ⟨(d, u8 b) :: sl, hp⟩ Q) : Tr C ops ((c, ⟨some d, .index xT x y, ty, pos, af, g⟩) :: rest) ⟨sl, hp⟩ Q :=
  .pv hg hk ⟨known2 hx hy, fun ρ hf w => by
    have h1 := hf x (by simp [Op.operands]); rw [hx] at h1
    have h2 := hf y (by simp [Op.operands]); rw [hy] at h2
    simp only [Option.some.injEq] at h1 h2
    subst hj
    simp [execOp, Instr.index, ← h1, ← h2, asIntOf, run_underlying hu, hb]⟩ k
theorem Tr.idxA1 {cs : List Value} {ki : IntKind} {i : Int} {v : Value} {n : Nat} {E : TypeId} {td : TypeDesc} (hg : guardOk ops sl g = true) (hk : okD c d C.N = true) (hx : evIn sl x = some (agg cs)) (hy : evIn sl y = some (.int ki i)) (hu : C.P.underlying xT = some (.array n E)) (hs : Sz C.P E 1) (he : C.P.underlying E = some td) (hp' : plainDesc td = true) (j : Nat) (hj : i = j) (hjn : j < n) (hv : cs[j]? = some v)
    (k : Tr C ops rest ⟨(d, v) :: sl, hp⟩ Q) : Tr C ops ((c, ⟨some d, .index xT x y, ty, pos, af, g⟩) :: rest) ⟨sl, hp⟩ Q :=
  .pv hg hk ⟨known2 hx hy, fun ρ hf w => by
    have h1 := hf x (by simp [Op.operands]); rw [hx] at h1
    have h2 := hf y (by simp [Op.operands]); rw [hy] at h2
    simp only [Option.some.injEq] at h1 h2
    subst hj
    have h3 := run_part1 (w := w) he hp' hv
    simp [execOp, Instr.index, ← h1, ← h2, asIntOf, run_underlying hu, run_sz hs, hjn, agg, h3]⟩ k
theorem Tr.s2a {arr E : TypeId} {a : Addr} {n len cap : Nat} (hg : guardOk ops sl g = true) (hk : okD c d C.N = true) (hx : evIn sl x = some (.slice (some a) len cap)) (hu : C.P.underlying arr = some (.array n E)) (hn : n ≤ len)
    (k : Tr C ops rest ⟨(d, .pointer (some a)) :: sl, hp⟩ Q) : Tr C ops ((c, ⟨some d, .sliceToArrayPointer arr x, ty, pos, af, g⟩) :: rest) ⟨sl, hp⟩ Q :=
  .pv hg hk ⟨known1 hx, fun ρ hf w => by
    have h1 := hf x (by simp [Op.operands]); rw [hx] at h1
    simp only [Option.some.injEq] at h1
    simp [execOp, Instr.arrayAt, ← h1, run_underlying hu, show ¬ len < n by omega]⟩ k

theorem Tr.sliceLoHiN {lo hi : Operand} {b o n cap : Nat} {T E : TypeId} {kl kh : IntKind} {l h : Int} {sz : Nat} (i j : Nat) (hg : guardOk ops sl g = true) (hk : okD c d C.N = true) (hx : evIn sl x = some (.slice (some ⟨b, o, none⟩) n cap)) (hl : evIn sl lo = some (.int kl l)) (hh : evIn sl hi = some (.int kh h)) (hi' : l = i) (hj : h = j) (hij : i ≤ j) (hjc : j ≤ cap)
    (hu : C.P.underlying T = some (.slice E)) (hs : Sz C.P E sz)
    (k : Tr C ops rest ⟨(d, .slice (some ⟨b, if cap = i then o else o + i * sz, none⟩) (j - i) (cap - i)) :: sl, hp⟩ Q) : Tr C ops ((c, ⟨some d, .slice T x (some lo) (some hi) none, ty, pos, af, g⟩) :: rest) ⟨sl, hp⟩ Q :=
  .pv hg hk ⟨fun z hz => by
    simp [Op.operands] at hz
    rcases hz with rfl | rfl | rfl
    · simp [hx]
    · simp [hl]
    · simp [hh], fun ρ hfi w => by
    have h1 := hfi x (by simp [Op.operands]); rw [hx] at h1
    have h2 := hfi lo (by simp [Op.operands]); rw [hl] at h2
    have h3 := hfi hi (by simp [Op.operands]); rw [hh] at h3
    simp only [Option.some.injEq] at h1 h2 h3
    subst hi'
    subst hj
    by_cases e : cap = i
    · subst e
      simp [execOp, Instr.sliceAt, Instr.slice, ← h1, ← h2, ← h3, run_underlying hu, Instr.sliceBounds, Instr.sliceBound, asIntOf, run_sz hs, add_addr, hjc, hij]
    · simp [execOp, Instr.sliceAt, Instr.slice, ← h1, ← h2, ← h3, run_underlying hu, Instr.sliceBounds, Instr.sliceBound, asIntOf, run_sz hs, add_addr, e, hjc, hij]⟩ k

/-- a new row of length 0, with room -/
theorem Tr.mkRoom {T E : TypeId} {kx ky : IntKind} {z : Value} {by' : Nat} {mi : Int} (m : Nat) (hg : guardOk ops sl g = true) (hk : okG c d C.N = true) (hx : evIn sl x = some (.int kx 0)) (hy : evIn sl y = some (.int ky mi)) (hmi : mi = m)
    (hu : C.P.underlying T = some (.slice E)) (hs : Sz C.P E 1) (hz : Zr C.P E z) (hb : By C.P E by') (hc : z.cells = #[z]) (hn : m ≤ 1000000) (hby : by' ≤ 64)
    (k : ∀ q, Tr C ops rest ⟨(d, .slice (some ⟨q, 0, none⟩) 0 m) :: sl, ⟨q, [], E, m⟩ :: hp⟩ Q) : Tr C ops ((c, ⟨some d, .makeSlice T x y, ty, pos, af, g⟩) :: rest) ⟨sl, hp⟩ Q := by
  subst hmi
  have hk2 := hk
  simp only [okG, Bool.and_eq_true, Bool.or_eq_true] at hk
  refine Tr.grow (ρ := Nat) (fun _ => True) (fun q => .slice (some ⟨q, 0, none⟩) 0 m) (fun q => [⟨q, [], E, m⟩]) (hk.1.imp nbeq' nbeq') (wantS_of_guardOk hg) (dst_some (nblt hk.2)) ⟨known2 hx hy, fun l hl => ?_, fun a w hf hh => ?_⟩ (fun q _ => k q)
  · obtain ⟨q, _, hq⟩ := fresh_is 0 l
    refine ⟨q, trivial, ?_⟩
    simp only [List.singleton_append, List.map_cons, List.nodup_cons]
    exact ⟨fun h => by obtain ⟨b, hb, e⟩ := List.mem_map.1 h; exact hq b hb e, hl⟩
  · have h1 := hf x (by simp [Op.operands]); rw [hx] at h1
    have h2 := hf y (by simp [Op.operands]); rw [hy] at h2
    simp only [Option.some.injEq] at h1 h2
    have rs := run_sz hs
    unfold Sz at hs; unfold Zr at hz; unfold By at hb
    cases hi : C.P.info? E with
    | none => rw [hi] at hs; simp at hs
    | some i =>
      rw [hi] at hs hz hb
      simp only [Option.map_some, Option.some.injEq, Option.bind_some] at hs hz hb
      have wn : IntKind.i64.wrap (m : Int) = m := i64_wrap oM
      have w0 : IntKind.i64.wrap 0 = 0 := by decide
      have hm : by' * m ≤ 64 * 1000000 := Nat.mul_le_mul hby hn
      have hm2 : ((by' : Int) * m) = ((by' * m : Nat) : Int) := by simp
      have n1 : ¬ ((m : Int) < 0) := by omega
      have n2 : ¬ (281474976710656 < (i.bytes : Int) * m) := by rw [hb, hm2]; omega
      have n5 : ¬ (140737488355328 < m * i.bytes) := by rw [hb, Nat.mul_comm]; omega
      have hrun : (execOp a.eval ⟨some d, .makeSlice T x y, ty, pos, af, g⟩).run C.P w = .ok (.value (.slice (some ⟨w.heap.size, 0, none⟩) 0 m)) { w with heap := w.heap.push (.cells (Array.replicate m z) E) } := by
        by_cases h0 : m = 0
        · subst h0
          simp [execOp, Instr.makeSlice, run_underlying hu, asInt, asIntOf, typeInfo, hi, rs, zeroValue, hz, ← h1, ← h2, w0, newRow, newObj, askRoom, roomBytes]
          simp [Sem.run]
          have e0 : Array.map (fun _ => (default : Value)) (Array.range 0) = #[] := Array.eq_empty_of_size_eq_zero sP
          rw [e0]
        · simp [execOp, Instr.makeSlice, run_underlying hu, asInt, asIntOf, typeInfo, hi, rs, zeroValue, hz, ← h1, ← h2, wn, w0, n1, n2, n5, h0, newRow, newObj, askRoom, roomBytes, row_eq m z hc]
          simp [Sem.run]
      unfold Oper.wp
      rw [hrun]
      refine ⟨w.heap.size, trivial, rfl, ⟨⟨rfl, rfl, rfl, by simp, fun k hk _ => ?_⟩, fun b hb => ?_, by simp, fun b hb => ?_⟩⟩
      · simp only [Array.getElem?_push]
        rw [if_neg oM]
      · obtain rfl := List.mem_singleton.1 hb
        exact ⟨Array.replicate m z, (0, 0), by simp, by simp, by simp, free0⟩
      · obtain rfl := List.mem_singleton.1 hb
        exact .inl (Nat.le_refl _)
end
end Hw
end

section
namespace Hw
open Go
set_option linter.unusedSimpArgs false
set_option linter.unusedVariables false

theorem bytesV_cell (l : List UInt8) : ∀ u ∈ bytesV l, isCell u = true := fun u hu => by
  simp only [bytesV, List.mem_map] at hu
  obtain ⟨_, _, rfl⟩ := hu
  rfl
def bLen (n : Nat) : Nat := if n = 0 then 0 else Nat.log2 n + 1
theorem bLen_le {n k : Nat} : bLen n ≤ k ↔ n < 2 ^ k := by
  unfold bLen
  by_cases h : n = 0
  · subst h; simp; exact Nat.pow_pos dE
  · rw [if_neg h, Nat.succ_le_iff, Nat.log2_lt h]
theorem bLen_shr {n k : Nat} (h : 2 ^ k ≤ n) : bLen n = k + bLen (n / 2 ^ k) := by
  have key : ∀ j, bLen n ≤ k + j ↔ bLen (n / 2 ^ k) ≤ j := fun j => by
    rw [bLen_le, bLen_le, Nat.pow_add, Nat.div_lt_iff_lt_mul (Nat.pow_pos dE), Nat.mul_comm]
  have h1 := (key (bLen (n / 2 ^ k))).2 (Nat.le_refl _)
  have h2 : k < bLen n := by
    rcases Nat.lt_or_ge k (bLen n) with h | h
    · exact h
    · rw [ge_iff_le, bLen_le] at h; omega
  have h3 := (key (bLen n - k)).1 oM
  omega
def szN (n : Nat) : Nat := min ((bLen (n ||| 1) + 6) / 7) 9
theorem szN_pos (n : Nat) : 1 ≤ szN n ∧ szN n ≤ 9 := by
  have : 1 ≤ bLen (n ||| 1) := by
    rcases Nat.lt_or_ge 0 (bLen (n ||| 1)) with h | h
    · exact h
    · rw [ge_iff_le, bLen_le] at h
      have h1 : 1 ≤ n ||| 1 := Nat.right_le_or
      simp at h
  unfold szN
  omega
def tailB (x : UInt64) : Nat → List UInt8
  | 0 => []
  | k + 1 => (shr64 x (8 * k)).toUInt8 :: tailB x k
theorem tailB_length (x : UInt64) : ∀ k, (tailB x k).length = k
  | 0 => rfl
  | k + 1 => by simp [tailB, tailB_length x k]
theorem tailB_get (x : UInt64) : ∀ k j, j < k → (tailB x k)[j]? = some (shr64 x (8 * (k - 1 - j))).toUInt8
  | 0, j, h => by omega
  | k + 1, 0, h => by simp [tailB]
  | k + 1, j + 1, h => by
    rw [tailB, List.getElem?_cons_succ, tailB_get x k j oM]
    congr 4
    omega
def headB (x : UInt64) : UInt8 := shl8 255 (9 - szN x.toNat) ||| (shr64 x (8 * (szN x.toNat - 1))).toUInt8
/-- the bytes of a number -/
def numB (x : UInt64) : List UInt8 := headB x :: tailB x (szN x.toNat - 1)
theorem numB_length (x : UInt64) : (numB x).length = szN x.toNat := by
  have := szN_pos x.toNat
  simp [numB, tailB_length]; omega
/-- the first j bytes behind the first one -/
def numUp (x : UInt64) (j : Nat) : List UInt8 := headB x :: (tailB x (szN x.toNat - 1)).take j
theorem numUp_length (x : UInt64) (j : Nat) (h : j ≤ szN x.toNat - 1) : (numUp x j).length = 1 + j := by
  simp [numUp, tailB_length]; omega
theorem numUp_step (x : UInt64) (j : Nat) (h : j < szN x.toNat - 1) : numUp x (j + 1) = numUp x j ++ [(shr64 x (8 * (szN x.toNat - 2 - j))).toUInt8] := by
  have hl : j < (tailB x (szN x.toNat - 1)).length := by rw [tailB_length]; exact h
  have hg := tailB_get x (szN x.toNat - 1) j h
  rw [List.getElem?_eq_getElem hl, Option.some.injEq] at hg
  rw [numUp, numUp, List.take_succ_eq_append_getElem hl, hg, show szN x.toNat - 1 - 1 - j = szN x.toNat - 2 - j by omega]
  rfl
theorem numUp_all (x : UInt64) : numUp x (szN x.toNat - 1) = numB x := by
  rw [numUp, List.take_of_length_le (by rw [tailB_length]; omega), numB]
theorem numUp_zero (x : UInt64) : numUp x 0 = [headB x] := by simp [numUp]
def cntB (f : UInt8) : Nat := 9 - bLen (255 ^^^ f).toNat
def foldB (a : UInt64) : List UInt8 → UInt64
  | [] => a
  | b :: l => foldB (shl64 a 8 ||| b.toUInt64) l
def headV (f : UInt8) : UInt64 := (f &&& shr8 255 (cntB f)).toUInt64
def numV (xs : List UInt8) (a : Nat) : UInt64 := foldB (headV (xs.getD a 0)) ((xs.drop (a + 1)).take (cntB (xs.getD a 0) - 1))
end Hw
end

section
namespace Go.Proofs.YtpacobmjjjillaaGreat
open Go Hw
set_option linter.unusedVariables false
set_option linter.unusedSimpArgs false

def len8S : ByteArray := ⟨#[0, 1, 2, 2, 3, 3, 3, 3, 4, 4, 4, 4, 4, 4, 4, 4, 5, 5, 5, 5, 5, 5, 5, 5, 5, 5, 5, 5, 5, 5, 5, 5, 6, 6, 6, 6, 6, 6, 6, 6, 6, 6, 6, 6, 6, 6, 6, 6, 6, 6, 6, 6, 6, 6, 6, 6, 6, 6, 6, 6, 6, 6, 6, 6, 7, 7, 7, 7, 7, 7, 7, 7, 7, 7, 7, 7, 7, 7, 7, 7, 7, 7, 7, 7, 7, 7, 7, 7, 7, 7, 7, 7, 7, 7, 7, 7, 7, 7, 7, 7, 7, 7, 7, 7, 7, 7, 7, 7, 7, 7, 7, 7, 7, 7, 7, 7, 7, 7, 7, 7, 7, 7, 7, 7, 7, 7, 7, 7, 8, 8, 8, 8, 8, 8, 8, 8, 8, 8, 8, 8, 8, 8, 8, 8, 8, 8, 8, 8, 8, 8, 8, 8, 8, 8, 8, 8, 8, 8, 8, 8, 8, 8, 8, 8, 8, 8, 8, 8, 8, 8, 8, 8, 8, 8, 8, 8, 8, 8, 8, 8, 8, 8, 8, 8, 8, 8, 8, 8, 8, 8, 8, 8, 8, 8, 8, 8, 8, 8, 8, 8, 8, 8, 8, 8, 8, 8, 8, 8, 8, 8, 8, 8, 8, 8, 8, 8, 8, 8, 8, 8, 8, 8, 8, 8, 8, 8, 8, 8, 8, 8, 8, 8, 8, 8, 8, 8, 8, 8, 8, 8, 8, 8, 8, 8, 8, 8, 8, 8, 8, 8, 8, 8, 8, 8, 8, 8]⟩
theorem len8_all : ∀ n, n < 256 → len8S.data.toList[n]? = some (UInt8.ofNat (bLen n)) := by decide
theorem len8_get (x : UInt8) : len8S[x.toNat]? = some (UInt8.ofNat (bLen x.toNat)) := by
  have h := len8_all x.toNat x.toNat_lt
  have h2 : x.toNat < len8S.size := x.toNat_lt
  have e : len8S[x.toNat]? = len8S.data.toList[x.toNat]? := by
    rw [getElem?_pos len8S x.toNat h2, List.getElem?_eq_getElem (by exact x.toNat_lt)]
    rfl
  rw [e]; exact h
theorem len8_nat (x : UInt8) : (UInt8.ofNat (bLen x.toNat)).toNat = bLen x.toNat := by
  have : bLen x.toNat ≤ 8 := bLen_le.2 x.toNat_lt
  rw [UInt8.toNat_ofNat', Nat.mod_eq_of_lt oM]

theorem shr64_nat (x : UInt64) (n : Nat) : (shr64 x n).toNat = x.toNat / 2 ^ n := by
  have h : x.toNat / 2 ^ n ≤ x.toNat := Nat.div_le_self _ _
  have := x.toNat_lt
  rw [shr64, UInt64.toNat_ofNat', Nat.mod_eq_of_lt oM]

theorem bits_len64 (x : UInt64) : Meets Tryz.prog 207 [u64 x] [] (fun _ => True) (fun v out => v = i64 ((bLen x.toNat : Nat) : Int) ∧ out = []) := by
 intro W hW
 have hx := x.toNat_lt
 refine calls_of (hp0 := []) Tryz.func207 J 25 Tryz.ntmps207 J (HRep.nil _) (Sat.seq (Sat.region (Tr.assign J J J (Tr.nil (at_n (Sat.join (ι := UInt64 × Nat) (fun p => ⟨[(0, u64 p.1), (2, i64 (p.2 : Int))], []⟩) (fun p => bLen x.toNat = p.2 + bLen p.1.toNat ∧ p.1.toNat < 2 ^ 32 ∧ p.2 ≤ 32) ?_ ?_))))))
 ·
  refine Sat.seq (Sat.region (Tr.move J J J (Tr.geq J J J J J (Tr.nil (at_n (Sat.condP J (fun hc0 => ?_) (fun hc0 => ?_)))))))
  ·
   refine Sat.seq (Sat.region (Tr.move J J J (Tr.shr_u64 J J J J 32 J dE (Tr.assign J J J (Tr.nil (at_n (Sat.region (Tr.assign J J J (Tr.nil (at_n ?_))))))))))
   exact ⟨(shr64 x 32, 0 + 32), ⟨by simp only [shr64_nat]; have := bLen_shr (n := x.toNat) (k := 32) oM; omega, by simp only [shr64_nat]; omega, by simp only []; omega⟩, weak_of (wk1 rfl (wk1 (by rfl) wk0)) wh0 (by repeat (exact ns_nil))⟩
  ·
   refine Sat.skip (at_n ?_)
   exact ⟨(x, 0), ⟨by simp only []; omega, by simp only []; omega, by simp only []; omega⟩, weak_of (wk1 rfl (wk1 (by rfl) wk0)) wh0 (by repeat (exact ns_nil))⟩
 ·
  intro p hj
  obtain ⟨y, n⟩ := p
  obtain ⟨hb, hy, hn⟩ := hj
  simp only at hb hy hn ⊢
  refine Sat.join (ι := UInt64 × Nat) (fun p => ⟨[(0, u64 p.1), (2, i64 (p.2 : Int))], []⟩) (fun p => bLen x.toNat = p.2 + bLen p.1.toNat ∧ p.1.toNat < 2 ^ 16 ∧ p.2 ≤ 48) ?_ ?_
  ·
   refine Sat.seq (Sat.region (Tr.move J J J (Tr.geq J J J J J (Tr.nil (at_n (Sat.condP J (fun hc1 => ?_) (fun hc1 => ?_)))))))
   ·
    refine Sat.seq (Sat.region (Tr.move J J J (Tr.shr_u64 J J J J 16 J dE (Tr.assign J J J (Tr.nil (at_n (Sat.region (Tr.move J J J (Tr.add_i64 J J J J oM (Tr.assign J J J (Tr.nil (at_n ?_))))))))))))
    exact ⟨(shr64 y 16, n + 16), ⟨by simp only [shr64_nat]; have := bLen_shr (n := y.toNat) (k := 16) oM; omega, by simp only [shr64_nat]; omega, by simp only []; omega⟩, weak_of (wk1 rfl (wk1 (by rfl) wk0)) wh0 (by repeat (exact ns_nil))⟩
   ·
    refine Sat.skip (at_n ?_)
    exact ⟨(y, n), ⟨by simp only []; omega, by simp only []; omega, by simp only []; omega⟩, weak_of (wk1 rfl (wk1 (by rfl) wk0)) wh0 (by repeat (exact ns_nil))⟩
  ·
   intro p hj
   obtain ⟨y, n⟩ := p
   obtain ⟨hb, hy, hn⟩ := hj
   simp only at hb hy hn ⊢
   refine Sat.join (ι := UInt64 × Nat) (fun p => ⟨[(0, u64 p.1), (2, i64 (p.2 : Int))], []⟩) (fun p => bLen x.toNat = p.2 + bLen p.1.toNat ∧ p.1.toNat < 2 ^ 8 ∧ p.2 ≤ 56) ?_ ?_
   ·
    refine Sat.seq (Sat.region (Tr.move J J J (Tr.geq J J J J J (Tr.nil (at_n (Sat.condP J (fun hc2 => ?_) (fun hc2 => ?_)))))))
    ·
     refine Sat.seq (Sat.region (Tr.move J J J (Tr.shr_u64 J J J J 8 J dE (Tr.assign J J J (Tr.nil (at_n (Sat.region (Tr.move J J J (Tr.add_i64 J J J J oM (Tr.assign J J J (Tr.nil (at_n ?_))))))))))))
     exact ⟨(shr64 y 8, n + 8), ⟨by simp only [shr64_nat]; have := bLen_shr (n := y.toNat) (k := 8) oM; omega, by simp only [shr64_nat]; omega, by simp only []; omega⟩, weak_of (wk1 rfl (wk1 (by rfl) wk0)) wh0 (by repeat (exact ns_nil))⟩
    ·
     refine Sat.skip (at_n ?_)
     exact ⟨(y, n), ⟨by simp only []; omega, by simp only []; omega, by simp only []; omega⟩, weak_of (wk1 rfl (wk1 (by rfl) wk0)) wh0 (by repeat (exact ns_nil))⟩
   ·
    intro p hj
    obtain ⟨y, n⟩ := p
    obtain ⟨hb, hy, hn⟩ := hj
    simp only at hb hy hn ⊢
    refine Sat.seq (Sat.region (Tr.move J J J (Tr.move J J J (Tr.conv J J J Y22 Y5 (cv_u64_u8 _) (Tr.idxStr (s := len8S) J J J J Tryz.underlying9 _ J (len8_get y.toUInt8) ?_)))))
    have h8 : y.toUInt8.toNat = y.toNat := by simp; omega
    have h9 := len8_nat y.toUInt8
    have h10 : bLen y.toUInt8.toNat ≤ 8 := bLen_le.2 (by rw [h8]; omega)
    refine Tr.conv J J J Y5 Y3 (cv_u8_i64 _) (Tr.add_i64 J J J J oM (Tr.assign J J J (Tr.nil (at_n (Sat.ret (en_r ?_))))))
    refine ⟨_, [], res_tmp J J, sP, sP, ?_, rfl⟩
    rw [h9, h8, hb, Int.natCast_add]

theorem oct_size (x : UInt64) : Meets Tryz.prog 133 [u64 x] [] (fun _ => True) (fun v out => v = i64 ((szN x.toNat : Nat) : Int) ∧ out = []) := by
 intro W hW
 have hb : bLen (x ||| 1).toNat ≤ 64 := bLen_le.2 (x ||| 1).toNat_lt
 have ho : (x ||| 1).toNat = x.toNat ||| 1 := by rw [UInt64.toNat_or]; rfl
 refine calls_of (hp0 := []) Tryz.func133 J 9 Tryz.ntmps133 J (HRep.nil _) (Sat.seq (Sat.region (Tr.assign J J J (Tr.nil (at_n (Sat.seq (Sat.region (Tr.move J J J (Tr.or_u64 J J J (show evIn _ _ = some (u64 1) from rfl) (Tr.callV J J J J Body207 (bits_len64 _) (fun _ _ => trivial) (Tr.add_i64 J J J J oM (Tr.quo_i64 J J J J oM (Tr.min2 J J J J (rfl) (Tr.assign J J J (Tr.nil (at_n (Sat.ret (en_r ?_))))))))))))))))))
 refine ⟨_, [], res_tmp J J, sP, sP, ?_, rfl⟩
 rw [szN, ← ho]; congr 1; split <;> omega

theorem oct_grown (p : Option Addr) (n c m : Nat) (l : List UInt8) (hl : l.length = n) (hp : p = none → n = 0) (hn : n ≤ 100000) (hm : m ≤ 100000) : Meets Tryz.prog 129 [.slice p n c, i64 (m : Int)] [] (fun W => SeesP W p (bytesV l)) (fun v out => FreshRow v out (bytesV l) 5 n 1) := by
 intro W hW
 refine calls_of (hp0 := []) Tryz.func129 J 12 Tryz.ntmps129 J (HRep.nil _) (Sat.seq (Sat.region (Tr.assign J J J (Tr.nil (at_n (Sat.seq (Sat.region (Tr.move J J J (Tr.lenSl J J J Y39 (Tr.move J J J (Tr.add_i64 J J J J oM (Tr.mkRoom (z := u8 0) (by' := 1) (n + m) J J J J oM Y39 Sz5 Zr5 (by unfold By; kernel_rfl) J oM oM ?_))))))))))))
 intro n9
 refine Tr.move J J J (Tr.appendSl (z := u8 0) (by' := 1) (bytesV l) J J J J J Y39 Y39 Sz5 Zr5 (by unfold By; kernel_rfl) J (fun w h => seesP_ext h J hW) hp (by simp [bytesV, isCell, u8]) rem_here oM J oM oM oM (by simp [bytesV, hl]) ?_)
 intro q1 c1 hq1
 refine Tr.assign J J J (Tr.nil (at_n (Sat.ret (en_r ?_))))
 refine ⟨_, [⟨q1, [] ++ bytesV l, 5, c1 * 1⟩], res_tmp J J, (by intro b hb; rw [List.mem_singleton.1 hb]; exact mem0), nodup1, ⟨q1, c1, by rw [Nat.zero_add], by omega, rfl⟩⟩

theorem oct_number (q n c : Nat) (l : List UInt8) (x : UInt64) (hl : l.length = n) (hnc : n ≤ c) (hn : n ≤ 200000) : Meets Tryz.prog 214 [.slice (some ⟨q, 0, none⟩) n c, u64 x] [q] (fun W => BlkOk W ⟨q, bytesV (l), 5, c * 1⟩) (fun v out => FreshRow v out (bytesV (l ++ numB x)) 5 (n + szN x.toNat) 1) := by
 intro W hW
 have hz := szN_pos x.toNat
 refine calls_of (hp0 := [⟨q, bytesV (l), 5, c * 1⟩]) Tryz.func214 J 37 Tryz.ntmps214 J (HRep.one hW) (Sat.seq (Sat.region (Tr.assign J J J (Tr.nil (at_n (Sat.seq (Sat.region (Tr.move J J J (Tr.callV J J J J Body133 (oct_size _) (fun _ _ => trivial) (Tr.assign J J J (Tr.nil (at_n (Sat.seq (Sat.draw [(0, 0), (0, 1), (0, 2), (0, 3), (0, 4), (0, 5), (0, 6), (0, 7), (0, 8), (0, 9), (0, 10), (4, 11), (4, 12), (0, 13)] Mixed zK (Tr.move J J J (Tr.move J J J (Tr.sub_i64 J J J J oM (Tr.shl_u8 J J (show evIn _ _ = some (u8 255) from rfl) J (9 - szN x.toNat) oM oM (Tr.move J J J (Tr.move J J J (Tr.sub_i64 J J J J oM (Tr.mul_i64 J J J J oM (Tr.shr_u64 J J J J (8 * (szN x.toNat - 1)) oM oM (Tr.conv J J J Y22 Y5 (cv_u64_u8 _) (Tr.or_u8 J J J J (Tr.mkRow (z := u8 0) [u8 (headB x)] (bytesV [headB x]) J J J Y39 Sz5 Zr5 J J (by intro v hv; rw [List.mem_singleton.1 hv]; rfl) dE J ?_))))))))))))))))))))))))))
 intro q20
 refine Tr.appendSl (z := u8 0) (by' := 1) (bytesV [headB x]) J J J J J Y39 Y39 Sz5 Zr5 (by unfold By; kernel_rfl) J (fun w h => SeesP.of (sees_own h mem0)) (fun e => by cases e) (by simp [bytesV, isCell, u8]) (rem_there rem_here) J (by simp [bytesV, hl]) oM oM oM (by rfl) ?_
 intro q1 c1 hq1
 refine Tr.assign J J J (Tr.nil (at_n (Sat.seq (Sat.seq (Sat.region (Tr.move J J J (Tr.sub_i64 J J J J oM (Tr.assign J J J (Tr.nil (at_n (Sat.block (Sat.loop (ι := Nat × Nat × Nat) (fun p => ⟨[(0, .slice (some ⟨p.2.1, 0, none⟩) (n + 1 + p.1) p.2.2), (1, u64 x), (5, i64 ((szN x.toNat : Nat) : Int)), (6, i64 (((szN x.toNat : Nat) : Int) - 2 - (p.1 : Int)))], [⟨p.2.1, bytesV (l ++ numUp x p.1), 5, p.2.2 * 1⟩]⟩) (fun p => p.1 ≤ szN x.toNat - 1 ∧ n + 1 + p.1 ≤ p.2.2) (fun p => szN x.toNat - 1 - p.1) ((0, q1, c1)) ?_ ?_ ?_))))))))))))
 · exact ⟨Nat.zero_le _, hq1⟩
 · exact weak_of (wk1 rfl (wk1 rfl (wk1 rfl (wk1 (by rw [show (((szN x.toNat : Nat) : Int) - 2 - ((0 : Nat) : Int)) = ((szN x.toNat : Nat) : Int) - 2 by omega]; rfl) wk0)))) (wh1 (by rw [numUp_zero]; simp only [bytesV, List.map_append]; exact mem0) wh0) nD
 ·
  rintro p ⟨hp1, hp2⟩
  refine Sat.seq (Sat.seq (Sat.region (Tr.move J J J (Tr.geq J J J J J (Tr.nil (at_n (Sat.condP J (fun hc0 => ?_) (fun hc0 => ?_))))))))
  ·
   have hp3 : p.1 < szN x.toNat - 1 := by omega
   refine Sat.skip (at_n (Sat.seq (Sat.block (Sat.region (Tr.move J J J (Tr.move J J J (Tr.move J J J (Tr.mul_i64 J J J J oM (Tr.shr_u64 J J J J (8 * (szN x.toNat - 2 - p.1)) oM oM (Tr.conv J J J Y22 Y5 (cv_u64_u8 _) (Tr.mkRow (z := u8 0) [u8 ((shr64 x (8 * (szN x.toNat - 2 - p.1))).toUInt8)] (bytesV [(shr64 x (8 * (szN x.toNat - 2 - p.1))).toUInt8]) J J J Y39 Sz5 Zr5 J J (by intro v hv; rw [List.mem_singleton.1 hv]; rfl) dE J ?_)))))))))))
   intro q34
   refine Tr.appendSl (z := u8 0) (by' := 1) (bytesV [(shr64 x (8 * (szN x.toNat - 2 - p.1))).toUInt8]) J J J J J Y39 Y39 Sz5 Zr5 (by unfold By; kernel_rfl) J (fun w h => SeesP.of (sees_own h mem0)) (fun e => by cases e) (by simp [bytesV, isCell, u8]) (rem_there rem_here) J (by rw [bytesV, List.length_map, List.length_append, hl, numUp_length x p.1 oM]; omega) oM oM oM (by rfl) ?_
   intro q2 c2 hq2
   refine Tr.assign J J J (Tr.nil (bl_n (at_n (Sat.region (Tr.move J J J (Tr.sub_i64 J J J J oM (Tr.assign J J J (Tr.nil (at_n ?_)))))))))
   exact ⟨(p.1 + 1, q2, c2), ⟨by simp only []; omega, by simp only []; omega⟩, by simp only []; omega, weak_of (wk1 (by rw [show n + 1 + (p.1 + 1) = n + 1 + p.1 + 1 by omega]; rfl) (wk1 rfl (wk1 rfl (wk1 (by rw [show (((szN x.toNat : Nat) : Int) - 2 - ((p.1 + 1 : Nat) : Int)) = ((szN x.toNat : Nat) : Int) - 2 - (p.1 : Int) - 1 by omega]; rfl) wk0)))) (wh1 (by rw [numUp_step x p.1 oM, ← List.append_assoc]; simp only [bytesV, List.map_append]; exact mem0) wh0) nD⟩
  ·
   have hp3 : p.1 = szN x.toNat - 1 := by omega
   refine Sat.exit (at_x (at_x (bl_h (at_n (Sat.seq (Sat.region (Tr.move J J J (Tr.assign J J J (Tr.nil (at_n (Sat.ret (en_r ?_))))))))))))
   refine ⟨_, [⟨p.2.1, bytesV (l ++ numB x), 5, p.2.2 * 1⟩], res_tmp J J, (by intro b hb; rw [List.mem_singleton.1 hb, ← numUp_all, ← hp3]; exact mem0), nodup1, ⟨p.2.1, p.2.2, by rw [show n + 1 + p.1 = n + szN x.toNat by omega], by omega, rfl⟩⟩

theorem oct_Number (p : Option Addr) (n c : Nat) (l : List UInt8) (x : UInt64) (hl : l.length = n) (hp : p = none → n = 0) (hn : n ≤ 90000) : Meets Tryz.prog 152 [.slice p n c, u64 x] [] (fun W => SeesP W p (bytesV l)) (fun v out => FreshRow v out (bytesV (l ++ numB x)) 5 (n + szN x.toNat) 1) := by
 intro W hW
 have hz := szN_pos x.toNat
 refine calls_of (hp0 := []) Tryz.func152 J 11 Tryz.ntmps152 J (HRep.nil _) (Sat.seq (Sat.region (Tr.assign J J J (Tr.nil (at_n (Sat.seq (Sat.region (Tr.move J J J (Tr.move J J J (Tr.callV J J J J Body133 (oct_size _) (fun _ _ => trivial) (Tr.call J J J J Body129 (oct_grown p n c (szN x.toNat) l hl hp oM oM) (FreshRow.loose _ _ _ _) (fun w h => seesP_ext h J hW) ?_)))))))))))
 rintro v1 out1 ⟨q1, c1, rfl, hc1, rfl⟩
 refine Tr.move J J J (Tr.callL (L := [⟨q1, bytesV (l), 5, c1 * 1⟩]) J J J J J Body214 (oct_number q1 (n) c1 (l) x (by simp [hl]) hc1 oM) rem_here lO (fun w h => own_blk h Z0) ?_)
 rintro v2 out2 ⟨q2, c2, rfl, hc2, rfl⟩
 refine Tr.assign J J J (Tr.nil (at_n (Sat.ret (en_r ?_))))
 refine ⟨_, [⟨q2, bytesV (l ++ numB x), 5, c2 * 1⟩], res_tmp J J, (by intro b hb; rw [List.mem_singleton.1 hb]; exact mem0), nodup1, ⟨q2, c2, rfl, hc2, rfl⟩⟩

theorem oct_Block (p r : Option Addr) (n c m d : Nat) (l ys : List UInt8) (hl : l.length = n) (hy : ys.length = m) (hp : p = none → n = 0) (hr : r = none → m = 0) (hn : n ≤ 40000) (hm : m ≤ 40000) : Meets Tryz.prog 153 [.slice p n c, .slice r m d] [] (fun W => SeesP W p (bytesV l) ∧ SeesP W r (bytesV ys)) (fun v out => FreshRow v out (bytesV (l ++ numB (UInt64.ofNat m) ++ ys)) 5 (n + szN m + m) 1) := by
 intro W hW
 have hz := szN_pos m
 have hw : wordOf (m : Int) = UInt64.ofNat m := by simp only [wordOf]; congr 1; omega
 have hmn : (UInt64.ofNat m).toNat = m := by rw [UInt64.toNat_ofNat', Nat.mod_eq_of_lt oM]
 refine calls_of (hp0 := []) Tryz.func153 J 20 Tryz.ntmps153 J (HRep.nil _) (Sat.seq (Sat.region (Tr.assign J J J (Tr.nil (at_n (Sat.seq (Sat.region (Tr.move J J J (Tr.lenSl J J J Y39 (Tr.conv J J J Y3 Y22 (cv_i64_u64 _) ?_))))))))))
 rw [hw]
 refine Tr.assign J J J (Tr.nil (at_n (Sat.seq (Sat.region (Tr.move J J J (Tr.move J J J (Tr.callV J J J J Body133 (oct_size _) (fun _ _ => trivial) ?_)))))))
 rw [hmn]
 refine Tr.move J J J (Tr.lenSl J J J Y39 (Tr.add_i64 J J J J oM (Tr.call J J J J Body129 (oct_grown p n c (szN m + m) l hl hp oM oM) (FreshRow.loose _ _ _ _) (fun w h => seesP_ext h J hW.1) ?_)))
 rintro v1 out1 ⟨q1, c1, rfl, hc1, rfl⟩
 refine Tr.move J J J (Tr.callL (L := [⟨q1, bytesV (l), 5, c1 * 1⟩]) J J J J J Body214 (oct_number q1 n c1 l (UInt64.ofNat m) hl hc1 oM) rem_here lO (fun w h => own_blk h Z0) ?_)
 rintro v2 out2 ⟨q2, c2, rfl, hc2, rfl⟩
 rw [hmn] at hc2 ⊢
 refine Tr.move J J J (Tr.appendSl (z := u8 0) (by' := 1) (bytesV ys) J J J J J Y39 Y39 Sz5 Zr5 (by unfold By; kernel_rfl) J (fun w h => seesP_ext h J hW.2) hr (by simp [bytesV, isCell, u8]) rem_here J (by rw [bytesV, List.length_map, List.length_append, numB_length, hl, hmn, Nat.mul_one]) oM oM oM (by simp [bytesV, hy]) ?_)
 intro q3 c3 hq3
 refine Tr.assign J J J (Tr.nil (at_n (Sat.ret (en_r ?_))))
 refine ⟨_, [⟨q3, bytesV (l ++ numB (UInt64.ofNat m) ++ ys), 5, c3 * 1⟩], res_tmp J J, (by intro b hb; rw [List.mem_singleton.1 hb]; simp only [bytesV, List.map_append]; exact mem0), nodup1, ⟨q3, c3, rfl, hq3, rfl⟩⟩

end Go.Proofs.YtpacobmjjjillaaGreat
end

section
namespace Go.Proofs.YtpacobmjjjillaaGreat
open Go Hw
set_option linter.unusedVariables false
set_option linter.unusedSimpArgs false

theorem res_none {C : Cx} {fn : Func} {s : St} (hr : fn.results = #[]) : Res C fn s (.tuple #[]) := fun a w r => by
  simp [results, hr]
def rdr (n q N cp at' : Nat) (e : Int) : Reader := ⟨.pointer (some ⟨n, 0, none⟩), ⟨some ⟨q, 0, none⟩, N, cp⟩, (at' : Int), e⟩
/-- a reader's block: its number, its row, how much there is, where it stands, its error -/
def RB (n q N cp at' : Nat) (e : Int) : Blk := ⟨n, (rdr n q N cp at' e).cells, 140, 4⟩
/-- what Number reads: the number, where the reader then stands, its error -/
def numR (xs : List UInt8) (a : Nat) (e : Int) : UInt64 × Nat × Int :=
  if ¬ e = 0 then (0, a, e) else if xs.length ≤ a then (0, a, 5) else if xs.length < a + cntB (xs.getD a 0) then (0, a, 5) else if szN (numV xs a).toNat = cntB (xs.getD a 0) then (numV xs a, a + cntB (xs.getD a 0), 0) else (0, a, 4)
def digR (xs : List UInt8) (a : Nat) (e : Int) : List UInt8 × Nat × Int :=
  if ¬ e = 0 then (List.replicate 32 0, a, e) else if xs.length < a + 32 then (List.replicate 32 0, a, 5) else ((xs.drop a).take 32, a + 32, 0)
end Go.Proofs.YtpacobmjjjillaaGreat
end

section
namespace Go.Proofs.YtpacobmjjjillaaGreat
open Go Hw
set_option linter.unusedVariables false
set_option linter.unusedSimpArgs false

theorem BlkOk.keep {ex : List Nat} {w w' : World} {b : Blk} (h : Keeps ex w w') (hb : BlkOk w b) (hn : b.n ∉ ex) : BlkOk w' b := hb.of_heap (h.block b.n hb.lt hn)

/-- a new reader -/
def RdNew (N : Nat) (xs : List UInt8) (v : Value) (out : List Blk) : Prop := ∃ n q cp, v = ptr n 0 ∧ N ≤ cp ∧ out = [RB n q N cp 0 0, ⟨q, bytesV xs, 5, cp * 1⟩]
theorem RdNew.loose (N : Nat) (xs : List UInt8) : Loose (RdNew N xs) := fun k hk => by
  obtain ⟨q1, _, h1⟩ := fresh_is 0 k
  obtain ⟨q2, h2', h2⟩ := fresh_is (q1 + 1) k
  refine ⟨_, _, ⟨q2, q1, N, rfl, Nat.le_refl _, rfl⟩, ?_⟩
  simp only [RB, List.cons_append, List.nil_append, List.map_cons, List.nodup_cons, List.mem_cons]
  refine ⟨?_, fun h => ?_, hk⟩
  · rintro (h | h)
    · omega
    · obtain ⟨b, hb, e⟩ := List.mem_map.1 h; exact h2 b hb e
  · obtain ⟨b, hb, e⟩ := List.mem_map.1 h; exact h1 b hb e

def endR (N a : Nat) (e : Int) : Int := if e = 0 then (if (0 : Int) < (N : Int) - (a : Int) then 4 else 0) else e

/-- what Block reads: the bytes (none if there is an error), where the reader then stands, its error -/
def blkR (xs : List UInt8) (a : Nat) (e : Int) : Option (List UInt8) × Nat × Int :=
  if ¬ (numR xs a e).2.2 = 0 then (none, a, (numR xs a e).2.2) else if xs.length < (numR xs a e).2.1 + (numR xs a e).1.toNat then (none, a, 5) else (some ((xs.drop (numR xs a e).2.1).take (numR xs a e).1.toNat), (numR xs a e).2.1 + (numR xs a e).1.toNat, 0)

end Go.Proofs.YtpacobmjjjillaaGreat
end

section
namespace Go.Proofs.YtpacobmjjjillaaGreat
open Go Hw
set_option linter.unusedVariables false
set_option linter.unusedSimpArgs false

theorem clone_bytes (a : Addr) (n c : Nat) (l : List UInt8) (hl : l.length = n) (hn : n ≤ 90000) : Meets Tryz.prog 149 [.slice (some a) n c] [] (fun W => SeesP W (some a) (bytesV l)) (fun v out => FreshRow v out (bytesV l) 5 n 1) := by
 intro W hW
 refine calls_of (hp0 := []) Tryz.func149 J 8 Tryz.ntmps149 J (HRep.nil _) (Sat.seq (Sat.region (Tr.assign J J J (Tr.nil (at_n (Sat.seq (Sat.seq (Sat.region (Tr.move J J J (Tr.eqNilS (r := false) J J J J Y39 J (Tr.nil (at_n (Sat.cond_f J (rfl) (Sat.skip (at_n (Sat.seq (Sat.region (Tr.mkRow (z := u8 0) [] [] rfl J J Y39 Sz5 Zr5 J J (by intro v hv; cases hv) dE J ?_))))))))))))))))))
 intro q0
 refine Tr.move J J J (Tr.appendSl (z := u8 0) (by' := 1) (bytesV l) J J J J J Y39 Y39 Sz5 Zr5 (by unfold By; kernel_rfl) J (fun w h => seesP_ext h J hW) (fun e => by cases e) (by simp [bytesV, isCell, u8]) rem_here J J oM oM oM (by simp [bytesV, hl]) ?_)
 intro q1 c1 hq1
 refine Tr.assign J J J (Tr.nil (at_n (Sat.ret (en_r ?_))))
 refine ⟨_, [⟨q1, [] ++ bytesV l, 5, c1 * 1⟩], res_tmp J J, (by intro b hb; rw [List.mem_singleton.1 hb]; exact mem0), nodup1, ⟨q1, c1, by rw [Nat.zero_add], by omega, rfl⟩⟩

def bodyB (B : Block) (ls : List (List UInt8)) (ds : List UInt8) : List UInt8 := B.fWriter ++ numB B.fSeq ++ B.fPrev ++ numB (UInt64.ofNat B.fLinks.n) ++ ls.flatten ++ (numB (UInt64.ofNat B.fData.n) ++ ds)
theorem word_nat {n : Nat} (h : n ≤ 1000000) : wordOf (n : Int) = UInt64.ofNat n := by simp only [wordOf]; congr 1; omega
theorem ofNat_nat {n : Nat} (h : n ≤ 1000000) : (UInt64.ofNat n).toNat = n := by rw [UInt64.toNat_ofNat', Nat.mod_eq_of_lt oM]
theorem flatten_take_step {ls : List (List UInt8)} {k : Nat} (hk : k < ls.length) : (ls.take (k + 1)).flatten = (ls.take k).flatten ++ ls.getD k [] := by
  rw [List.take_succ_eq_append_getElem hk, List.flatten_append]
  simp [List.getD, hk]
theorem flatten_take_len {ls : List (List UInt8)} (h : ∀ l ∈ ls, l.length = 32) {k : Nat} (hk : k ≤ ls.length) : (ls.take k).flatten.length = k * 32 := by
  rw [flatten_len 32 _ (fun l hl => h l (List.mem_of_mem_take hl)), List.length_take, Nat.min_eq_left hk]

theorem block_body (B : Block) (hB : B.ok) (ls : List (List UInt8)) (ds : List UInt8) (hn : B.fLinks.n ≤ 40) (hd : B.fData.n ≤ 2000) : Meets Tryz.prog 93 [agg B.cells] [] (fun W => RowsAt W B.fLinks 32 ls ∧ BytesAt W B.fData ds) (fun v out => ∃ N, N = (bodyB B ls ds).length ∧ N ≤ 4000 ∧ FreshRow v out (bytesV (bodyB B ls ds)) 5 N 1) := by
 intro W hW
 have hz1 := szN_pos B.fSeq.toNat
 have hz2 := szN_pos (UInt64.ofNat B.fLinks.n).toNat
 have hz3 := szN_pos B.fData.n
 have hw2 := word_nat (n := B.fLinks.n) oM
 have hll := hW.1.len
 refine calls_of (hp0 := []) Tryz.func93 J 41 Tryz.ntmps93 J (HRep.nil _) (Sat.seq (Sat.region (Tr.boxA J J ?_)))
 intro n1 hn1 hf1
 refine Tr.assign J J J (Tr.nil (at_n (Sat.seq (Sat.region (Tr.fld J J J Y53 J Sz25 dE _ J (Tr.sliceArr J J J Y25 Sz5 (Tr.call J J J J Body149 (clone_bytes ⟨n1, 0, none⟩ 32 32 B.fWriter hB.l_fWriter oM) (FreshRow.loose _ _ _ _) (fun W2 W2h => (SeesP.of (sees_part W2h Z0 (Block.see_fWriter hB)))) ?_)))))))
 rintro v1 out1 ⟨q1, c1, rfl, hc1, rfl⟩
 refine Tr.assign J J J (Tr.nil (at_n (Sat.seq (Sat.region (Tr.move J J J (Tr.fld J J J Y53 J Sz22 dE _ J (Tr.load1 J J J Y22 J Z1 (by exact Block.get_fSeq zA) ?_)))))))
 refine Tr.call J J J J Body152 (oct_Number none 0 0 [] (B.fSeq) J (fun _ => rfl) oM) (FreshRow.loose _ _ _ _) (fun _ _ => SeesP.nil) ?_
 rintro v2 out2 ⟨q2, c2, rfl, hc2, rfl⟩
 refine Tr.appendSl (z := u8 0) (by' := 1) (bytesV ([] ++ numB B.fSeq)) J J J J J Y39 Y39 Sz5 Zr5 (by unfold By; kernel_rfl) J (fun w h => SeesP.of (sees_own h mem0)) (fun e => by cases e) (bytesV_cell _) (rem_there rem_here) J (by simp only [bytesV, List.length_map, List.length_append, numB_length, hB.l_fWriter, hB.l_fPrev, List.length_nil]; try omega) hc1 oM oM (by simp [numB_length]) ?_
 intro q3 c3 hq3
 refine Tr.assign J J J (Tr.nil (at_n (Sat.seq (Sat.region (Tr.move J J J (Tr.fld J J J Y53 J Sz24 dE _ J (Tr.sliceArr J J J Y24 Sz5 (Tr.appendSl (z := u8 0) (by' := 1) (bytesV B.fPrev) J J J J J Y39 Y39 Sz5 Zr5 (by unfold By; kernel_rfl) J (fun W2 W2h => (SeesP.of (sees_part W2h Z2 (Block.see_fPrev hB)))) (fun e => by cases e) (bytesV_cell _) rem_here J (by simp only [bytesV, List.length_map, List.length_append, numB_length, hB.l_fWriter, hB.l_fPrev, List.length_nil]; try omega) hq3 oM oM (by simp [hB.l_fPrev]) ?_))))))))
 intro q5 c5 hq5
 refine Tr.assign J J J (Tr.nil (at_n (Sat.seq (Sat.region (Tr.move J J J (Tr.fld J J J Y53 J Sz51 dE _ J (Tr.load1 J J J Y51 J Z2 (by exact Block.get_fLinks zA) ?_)))))))
 refine Tr.lenSl J J J Y51 (Tr.conv J J J Y3 Y22 (cv_i64_u64 _) ?_)
 rw [hw2]
 refine Tr.call J J J J Body152 (oct_Number none 0 0 [] (UInt64.ofNat B.fLinks.n) J (fun _ => rfl) oM) (FreshRow.loose _ _ _ _) (fun _ _ => SeesP.nil) ?_
 rintro v4 out4 ⟨q4, c4, rfl, hc4, rfl⟩
 refine Tr.appendSl (z := u8 0) (by' := 1) (bytesV ([] ++ numB (UInt64.ofNat B.fLinks.n))) J J J J J Y39 Y39 Sz5 Zr5 (by unfold By; kernel_rfl) J (fun w h => SeesP.of (sees_own h mem0)) (fun e => by cases e) (bytesV_cell _) (rem_there rem_here) J (by simp only [bytesV, List.length_map, List.length_append, numB_length, hB.l_fWriter, hB.l_fPrev, List.length_nil]; try omega) hq5 oM oM (by simp [numB_length]) ?_
 intro q6 c6 hq6
 refine Tr.assign J J J (Tr.nil (at_n (Sat.seq (Sat.seq (Sat.region (Tr.fld J J J Y53 J Sz51 dE _ J (Tr.load1 J J J Y51 J Z3 (by exact Block.get_fLinks zA) ?_)))))))
 refine Tr.lenSl J J J Y51 (Tr.move J J J (Tr.nil (at_n (Sat.block (Sat.loop (ι := Nat × Nat × Nat) (fun p => ⟨[(1, ptr n1 0), (3, .slice (some ⟨p.2.1, 0, none⟩) (32 + (0 + szN B.fSeq.toNat) + 32 + (0 + szN (UInt64.ofNat B.fLinks.n).toNat) + 32 * p.1) p.2.2), (26, B.fLinks.v), (27, i64 (B.fLinks.n : Int)), (28, i64 (p.1 : Int))], [⟨p.2.1, bytesV (B.fWriter ++ numB B.fSeq ++ B.fPrev ++ numB (UInt64.ofNat B.fLinks.n) ++ (ls.take p.1).flatten), 5, p.2.2 * 1⟩, ⟨n1, B.cells, 53, B.cells.length⟩]⟩) (fun p => p.1 ≤ B.fLinks.n ∧ 32 + (0 + szN B.fSeq.toNat) + 32 + (0 + szN (UInt64.ofNat B.fLinks.n).toNat) + 32 * p.1 ≤ p.2.2) (fun p => B.fLinks.n - p.1) ((0, q6, c6)) ?_ ?_ ?_)))))
 · exact ⟨Nat.zero_le _, by simp only []; omega⟩
 · exact weak_of (wk1 rfl (wk1 rfl (wk1 rfl (wk1 rfl (wk1 rfl wk0))))) (wh1 (by simp only [List.take_zero, List.flatten_nil, List.append_nil, bytesV, List.map_append, List.nil_append]; exact mem0) (wh1 Z3 wh0)) nD
 ·
  rintro p ⟨hp1, hp2⟩
  refine Sat.seq (Sat.region (Tr.lss J J J J J (Tr.nil (at_n (Sat.seq (Sat.condP J (fun hc0 => ?_) (fun hc0 => ?_)))))))
  ·
   have hp3 : p.1 < B.fLinks.n := by omega
   obtain ⟨b, o, hbp, hbs⟩ := hW.1.see.at (by rw [flatB_length hW.1.row]; omega)
   have hrk : (ls.getD p.1 []).length = 32 := getD_len hW.1.row oM
   refine Sat.skip (at_n (Sat.seq (Sat.block (Sat.seq (Sat.region (Tr.idxSlP 32 J J J hbp J Y51 Sz24 p.1 J oM (Tr.loadEN (bytesV (ls.getD p.1 [])) J J J Y24 J Sz24 sP (by rw [bytesV, List.length_map]; exact hrk) (sees_row hW.1.row hbs oM) ?_)))))))
   refine Tr.alloc (cs := (bytesV (List.replicate 32 0))) J Zr24 J ?_
   intro n5 hn5 hf5
   refine Tr.storeAll J J J J zE Sz24 (by (rw [bytesV, List.length_map]; assumption)) Z0 sP zU ?_
   refine Tr.nil (at_n (Sat.region (Tr.move J J J (Tr.sliceArr J J J Y24 Sz5 (Tr.appendSl (z := u8 0) (by' := 1) (bytesV (ls.getD p.1 [])) J J J J J Y39 Y39 Sz5 Zr5 (by unfold By; kernel_rfl) J (fun w h => SeesP.of (sees_own h mem0)) (fun e => by cases e) (bytesV_cell _) (rem_there rem_here) J (by simp only [bytesV, List.length_map, List.length_append, numB_length, hB.l_fWriter, hB.l_fPrev, flatten_take_len hW.1.row (show p.1 ≤ ls.length by omega)]; omega) hp2 oM oM (by rw [bytesV, List.length_map, hrk]) ?_)))))
   intro q7 c7 hq7
   refine Tr.assign J J J (Tr.nil (bl_n (at_n (Sat.region (Tr.add_i64 J J J J oM (Tr.move J J J (Tr.nil (at_n ?_))))))))
   exact ⟨(p.1 + 1, q7, c7), ⟨by simp only []; omega, by simp only []; omega⟩, by simp only []; omega, weak_of (wk1 rfl (wk1 (by rw [show 32 + (0 + szN B.fSeq.toNat) + 32 + (0 + szN (UInt64.ofNat B.fLinks.n).toNat) + 32 * (p.1 + 1) = 32 + (0 + szN B.fSeq.toNat) + 32 + (0 + szN (UInt64.ofNat B.fLinks.n).toNat) + 32 * p.1 + 32 by omega]; rfl) (wk1 rfl (wk1 rfl (wk1 rfl wk0))))) (wh1 (by rw [flatten_take_step oM, ← List.append_assoc]; simp only [bytesV, List.map_append]; exact mem0) (wh1 Z2 wh0)) nD⟩
  ·
   have hp3 : p.1 = B.fLinks.n := by omega
   refine Sat.exit (at_x (at_x (bl_h (at_n (Sat.seq (Sat.region (Tr.move J J J (Tr.fld J J J Y53 J Sz39 dE _ J (Tr.load1 J J J Y39 J Z1 (by exact Block.get_fData zA) ?_)))))))))
   refine Tr.call J J J J Body153 (oct_Block none B.fData.p 0 0 B.fData.n B.fData.c [] ds J hW.2.len (fun _ => rfl) (fun e => by have := hW.2.nil e; have := hW.2.cap; omega) oM oM) (FreshRow.loose _ _ _ _) (fun w h => ⟨SeesP.nil, seesP_ext h J hW.2.see⟩) ?_
   rintro v9 out9 ⟨q9, c9, rfl, hc9, rfl⟩
   refine Tr.appendSl (z := u8 0) (by' := 1) (bytesV ([] ++ numB (UInt64.ofNat B.fData.n) ++ ds)) J J J J J Y39 Y39 Sz5 Zr5 (by unfold By; kernel_rfl) J (fun w h => SeesP.of (sees_own h mem0)) (fun e => by cases e) (bytesV_cell _) (rem_there rem_here) J (by simp only [bytesV, List.length_map, List.length_append, numB_length, hB.l_fWriter, hB.l_fPrev, flatten_take_len hW.1.row (show p.1 ≤ ls.length by omega)]; omega) hp2 oM oM (by simp [numB_length, hW.2.len, ofNat_nat (show B.fData.n ≤ 1000000 by omega)]) ?_
   intro q8 c8 hq8
   refine Tr.assign J J J (Tr.nil (at_n (Sat.ret (en_r ?_))))
   have hN : 32 + (0 + szN B.fSeq.toNat) + 32 + (0 + szN (UInt64.ofNat B.fLinks.n).toNat) + 32 * p.1 + (0 + szN B.fData.n + B.fData.n) = (bodyB B ls ds).length := by
    have hfl := flatten_take_len hW.1.row (Nat.le_refl ls.length)
    rw [List.take_length] at hfl
    simp only [bodyB, List.length_append, numB_length, hB.l_fWriter, hB.l_fPrev, hfl, hW.2.len, ofNat_nat (show B.fData.n ≤ 1000000 by omega)]
    omega
   refine ⟨_, [⟨q8, bytesV (bodyB B ls ds), 5, c8 * 1⟩], res_tmp J J, (by intro b hb; rw [List.mem_singleton.1 hb, show bodyB B ls ds = B.fWriter ++ numB B.fSeq ++ B.fPrev ++ numB (UInt64.ofNat B.fLinks.n) ++ (ls.take p.1).flatten ++ (numB (UInt64.ofNat B.fData.n) ++ ds) by rw [bodyB, List.take_of_length_le oM]]; simp only [bytesV, List.map_append, List.append_assoc, List.nil_append]; exact mem0), nodup1, ⟨_, rfl, by omega, q8, c8, by rw [← hN], by omega, rfl⟩⟩

def bytesB (B : Block) (ls : List (List UInt8)) (ds : List UInt8) : List UInt8 := bodyB B ls ds ++ B.fSig

theorem body_small (B : Block) (hB : B.ok) (ls : List (List UInt8)) (ds : List UInt8) (hr : ∀ l ∈ ls, l.length = 32) (hl : ls.length = B.fLinks.n) (hd : ds.length = B.fData.n) (hn : B.fLinks.n ≤ 40) (hd2 : B.fData.n ≤ 2000) : (bodyB B ls ds).length ≤ 4000 := by
  have hz1 := szN_pos B.fSeq.toNat
  have hz2 := szN_pos (UInt64.ofNat B.fLinks.n).toNat
  have hz3 := szN_pos (UInt64.ofNat B.fData.n).toNat
  have hfl := flatten_take_len hr (Nat.le_refl ls.length)
  rw [List.take_length] at hfl
  simp only [bodyB, List.length_append, numB_length, hB.l_fWriter, hB.l_fPrev, hfl, hd]
  omega

end Go.Proofs.YtpacobmjjjillaaGreat
end

section
namespace Go.Proofs.YtpacobmjjjillaaGreat
open Go Hw
set_option linter.unusedVariables false
set_option linter.unusedSimpArgs false

theorem digests_any2 (p q : Option Addr) (n m c1 c2 : Nat) (xs ys : List (List UInt8)) (hx : ∀ l ∈ xs, l.length = 32) (hy : ∀ l ∈ ys, l.length = 32) (h1 : xs.length = n) (h2 : ys.length = m) (hn : n ≤ 1000000) :
    Meets Tryz.prog 54 [.slice p n c1, .slice q m c2] [] (fun W => SeesP W p (flatB xs) ∧ SeesP W q (flatB ys)) (fun v out => v = .bool (decide (xs = ys)) ∧ out = []) := by
  by_cases h : n = m
  · subst h; exact digests_eq p q n c1 c2 xs ys hx hy h1 h2 hn
  · exact digests_ne p q n m c1 c2 xs ys hx hy h1 h2 hn h

def sameB (A B : Block) (la lb : List (List UInt8)) (da db : List UInt8) : Bool := decide (A.fWriter = B.fWriter) && (decide ((A.fSeq.toNat : Int) = (B.fSeq.toNat : Int)) && (decide (A.fPrev = B.fPrev) && (decide (la = lb) && (decide (da = db) && decide (A.fSig = B.fSig)))))

theorem kit_block (A B : Block) (hA : A.ok) (hB : B.ok) (la lb : List (List UInt8)) (da db : List UInt8) (hn : A.fLinks.n ≤ 1000000) : Meets Tryz.prog 39 [agg A.cells, agg B.cells] [] (fun W => (RowsAt W A.fLinks 32 la ∧ BytesAt W A.fData da) ∧ (RowsAt W B.fLinks 32 lb ∧ BytesAt W B.fData db)) (fun v out => v = .bool (sameB A B la lb da db) ∧ out = []) := by
 intro W hW
 refine calls_of (hp0 := []) Tryz.func39 J 47 Tryz.ntmps39 J (HRep.nil _) (Sat.seq (Sat.region (Tr.boxA J J ?_)))
 intro n2 hn2 hf2
 refine Tr.boxA J J ?_
 intro n3 hn3 hf3
 refine Tr.assign J J J (Tr.nil (at_n (Sat.seq (Sat.region (Tr.fld J J J Y53 J Sz25 dE _ J (Tr.loadN (bytesV _) J J J Y25 J Sz25 Z1 (Block.row_fWriter zA) (Block.rl_fWriter zA) ?_))))))
 refine Tr.fld J J J Y53 J Sz25 dE _ J (Tr.loadN (bytesV _) J J J Y25 J Sz25 Z0 (Block.row_fWriter zA) (Block.rl_fWriter zA) ?_)
 refine two (fun r hr k => Tr.eql_bytes J J J J Tryz.eqGuardType25 Y25 Y5 Sz5 (by (simp [hA.l_fWriter]; done)) (by (simp [hB.l_fWriter]; done)) hr k) (fun hs1_40 => ?_) (fun hs1_40 => ?_)
 ·
  have hs1_4 := of_decide_eq_true hs1_40
  refine Tr.move J J J (Tr.fld J J J Y53 J Sz22 dE _ J (Tr.load1 J J J Y22 J Z1 (by exact Block.get_fSeq zA) ?_))
  refine Tr.fld J J J Y53 J Sz22 dE _ J (Tr.load1 J J J Y22 J Z0 (by exact Block.get_fSeq zA) ?_)
  refine two (fun r hr k => Tr.eqi J J J J hr k) (fun hs1_100 => ?_) (fun hs1_100 => ?_)
  ·
   have hs1_10 := of_decide_eq_true hs1_100
   refine Tr.pick J J J J J J (Tr.move J J J (Tr.fld J J J Y53 J Sz24 dE _ J (Tr.loadN (bytesV _) J J J Y24 J Sz24 Z1 (Block.row_fPrev zA) (Block.rl_fPrev zA) ?_)))
   refine Tr.fld J J J Y53 J Sz24 dE _ J (Tr.loadN (bytesV _) J J J Y24 J Sz24 Z0 (Block.row_fPrev zA) (Block.rl_fPrev zA) ?_)
   refine two (fun r hr k => Tr.eql_bytes J J J J Tryz.eqGuardType24 Y24 Y5 Sz5 (by (simp [hA.l_fPrev]; done)) (by (simp [hB.l_fPrev]; done)) hr k) (fun hs1_170 => ?_) (fun hs1_170 => ?_)
   ·
    have hs1_17 := of_decide_eq_true hs1_170
    refine Tr.pick J J J J J J (Tr.move J J J (Tr.fld J J J Y53 J Sz51 dE _ J (Tr.load1 J J J Y51 J Z1 (by exact Block.get_fLinks zA) ?_)))
    refine Tr.fld J J J Y53 J Sz51 dE _ J (Tr.load1 J J J Y51 J Z0 (by exact Block.get_fLinks zA) ?_)
    refine Tr.callB J J J J Body54 (digests_any2 _ _ _ _ _ _ la lb hW.1.1.row hW.2.1.row hW.1.1.len hW.2.1.len hn) (fun w h => ⟨seesP_ext h J hW.1.1.see, seesP_ext h J hW.2.1.see⟩) (fun hs1_240 => ?_) (fun hs1_240 => ?_)
    ·
     have hs1_24 := of_decide_eq_true hs1_240
     refine Tr.pick J J J J J J (Tr.move J J J (Tr.fld J J J Y53 J Sz39 dE _ J (Tr.load1 J J J Y39 J Z1 (by exact Block.get_fData zA) ?_)))
     refine Tr.toStr J J J Y39 Y5 Tryz.underlying9 (fun w h => seesP_ext h J hW.1.2.see) hW.1.2.len (Tr.fld J J J Y53 J Sz39 dE _ J (Tr.load1 J J J Y39 J Z0 (by exact Block.get_fData zA) ?_))
     refine Tr.toStr J J J Y39 Y5 Tryz.underlying9 (fun w h => seesP_ext h J hW.2.2.see) hW.2.2.len (two (fun r hr k => Tr.eql_str J J J J hr k) (fun hs1_330 => ?_) (fun hs1_330 => ?_))
     ·
      have hs1_33 := of_decide_eq_true hs1_330
      refine Tr.pick J J J J J J (Tr.move J J J (Tr.fld J J J Y53 J Sz27 dE _ J (Tr.loadN (bytesV _) J J J Y27 J Sz27 Z1 (Block.row_fSig zA) (Block.rl_fSig zA) ?_)))
      refine Tr.fld J J J Y53 J Sz27 dE _ J (Tr.loadN (bytesV _) J J J Y27 J Sz27 Z0 (Block.row_fSig zA) (Block.rl_fSig zA) ?_)
      refine Tr.eql_bytes J J J J Tryz.eqGuardType27 Y27 Y5 Sz5 (by (simp [hA.l_fSig]; done)) (by (simp [hB.l_fSig]; done)) J ?_
      refine Tr.pick J J J J J J (Tr.assign J J J (Tr.nil (at_n (Sat.ret (en_r ?_)))))
      refine ⟨_, [], res_tmp J J, sP, sP, ?_, rfl⟩
      simp_all [sameB]
     ·
      have hs1_33 := of_decide_eq_false hs1_330
      refine Tr.pick J J J J J J (Tr.move J J J (Tr.skp J J (Tr.skp J J (Tr.skp J J (Tr.skp J J (Tr.skp J J (Tr.pick J J J J J J (Tr.assign J J J (Tr.nil (at_n (Sat.ret (en_r ?_))))))))))))
      refine ⟨_, [], res_tmp J J, sP, sP, ?_, rfl⟩
      simp_all [sameB]
    ·
     have hs1_24 := of_decide_eq_false hs1_240
     refine Tr.pick J J J J J J (Tr.move J J J (Tr.skp J J (Tr.skp J J (Tr.skp J J (Tr.skp J J (Tr.skp J J (Tr.skp J J (Tr.skp J J (Tr.pick J J J J J J (Tr.move J J J (Tr.skp J J (Tr.skp J J (Tr.skp J J (Tr.skp J J (Tr.skp J J (Tr.pick J J J J J J (Tr.assign J J J (Tr.nil (at_n (Sat.ret (en_r ?_)))))))))))))))))))))
     refine ⟨_, [], res_tmp J J, sP, sP, ?_, rfl⟩
     simp_all [sameB]
   ·
    have hs1_17 := of_decide_eq_false hs1_170
    refine Tr.pick J J J J J J (Tr.move J J J (Tr.skp J J (Tr.skp J J (Tr.skp J J (Tr.skp J J (Tr.skp J J (Tr.pick J J J J J J (Tr.move J J J (Tr.skp J J (Tr.skp J J (Tr.skp J J (Tr.skp J J (Tr.skp J J (Tr.skp J J (Tr.skp J J (Tr.pick J J J J J J (Tr.move J J J (Tr.skp J J (Tr.skp J J (Tr.skp J J (Tr.skp J J (Tr.skp J J (Tr.pick J J J J J J (Tr.assign J J J (Tr.nil (at_n (Sat.ret (en_r ?_))))))))))))))))))))))))))))
    refine ⟨_, [], res_tmp J J, sP, sP, ?_, rfl⟩
    simp_all [sameB]
  ·
   have hs1_10 := of_decide_eq_false hs1_100
   refine Tr.pick J J J J J J (Tr.move J J J (Tr.skp J J (Tr.skp J J (Tr.skp J J (Tr.skp J J (Tr.skp J J (Tr.pick J J J J J J (Tr.move J J J (Tr.skp J J (Tr.skp J J (Tr.skp J J (Tr.skp J J (Tr.skp J J (Tr.pick J J J J J J (Tr.move J J J (Tr.skp J J (Tr.skp J J (Tr.skp J J (Tr.skp J J (Tr.skp J J (Tr.skp J J (Tr.skp J J (Tr.pick J J J J J J (Tr.move J J J (Tr.skp J J (Tr.skp J J (Tr.skp J J (Tr.skp J J (Tr.skp J J (Tr.pick J J J J J J (Tr.assign J J J (Tr.nil (at_n (Sat.ret (en_r ?_)))))))))))))))))))))))))))))))))))
   refine ⟨_, [], res_tmp J J, sP, sP, ?_, rfl⟩
   simp_all [sameB]
 ·
  have hs1_4 := of_decide_eq_false hs1_40
  refine Tr.move J J J (Tr.skp J J (Tr.skp J J (Tr.skp J J (Tr.skp J J (Tr.skp J J (Tr.pick J J J J J J (Tr.move J J J (Tr.skp J J (Tr.skp J J (Tr.skp J J (Tr.skp J J (Tr.skp J J (Tr.pick J J J J J J (Tr.move J J J (Tr.skp J J (Tr.skp J J (Tr.skp J J (Tr.skp J J (Tr.skp J J (Tr.pick J J J J J J (Tr.move J J J (Tr.skp J J (Tr.skp J J (Tr.skp J J (Tr.skp J J (Tr.skp J J (Tr.skp J J (Tr.skp J J (Tr.pick J J J J J J (Tr.move J J J (Tr.skp J J (Tr.skp J J (Tr.skp J J (Tr.skp J J (Tr.skp J J (Tr.pick J J J J J J (Tr.assign J J J (Tr.nil (at_n (Sat.ret (en_r ?_)))))))))))))))))))))))))))))))))))))))))
  refine ⟨_, [], res_tmp J J, sP, sP, ?_, rfl⟩
  simp_all [sameB]

end Go.Proofs.YtpacobmjjjillaaGreat
end

section
namespace Hw
open Go Go.RowKit
set_option linter.unusedSimpArgs false
set_option linter.unusedVariables false

def SRounds (C : Cx) (body : Code) (Q : Exit → St → Prop) : Nat → St → Prop
  | 0, _ => False
  | n + 1, s => Sat C body s (thenQ (SRounds C body Q n) Q)
theorem SRounds.more {C : Cx} {body : Code} {Q : Exit → St → Prop} {n : Nat} {s : St} (h : Sat C body s (thenQ (SRounds C body Q n) Q)) : SRounds C body Q (n + 1) s := h
theorem Sat.rounds {C : Cx} {body : Code} {Q : Exit → St → Prop} (n : Nat) {s : St} (h : SRounds C body Q n s) : Sat C (.loop body) s Q := by
  intro a w r
  refine wp_loop_rounds n ?_
  induction n generalizing s a w with
  | zero => exact h.elim
  | succ n ih =>
    rw [rounds_succ]
    refine wp_mono (h a w r) fun e a' w' ⟨s', r', q⟩ => ?_
    cases e with
    | normal => exact ih q a' w' r'
    | _ => exact ⟨s', r', q⟩

theorem lent_ok {L : List Blk} {lent : List Nat} (h : L.map (·.n) = lent) : ∀ n ∈ lent, ∃ b ∈ L, b.n = n := fun n hn => by
  subst h
  obtain ⟨b, hb, rfl⟩ := List.mem_map.1 hn
  exact ⟨b, hb, rfl⟩
theorem HRep.two {P : Program} {W : World} {N : Nat} {A B : Blk} (ha : BlkOk W A) (hb : BlkOk W B) (hn : A.n ≠ B.n) : HRep ⟨P, W, N, [A.n, B.n], [], []⟩ [A, B] W := by
  refine ⟨fun b h => ?_, by simpa using hn, fun b h => ?_, Keeps.refl _ _, fun _ h => (by cases h), fun _ _ _ h => (by cases h)⟩
  · rcases List.mem_cons.1 h with rfl | h
    · exact ha
    · rw [List.mem_singleton.1 h]; exact hb
  · rcases List.mem_cons.1 h with rfl | h
    · exact .inr List.mem_cons_self
    · rw [List.mem_singleton.1 h]; exact .inr (List.mem_cons_of_mem _ List.mem_cons_self)
end Hw
end

section
namespace Hw
open Go Go.RowKit
set_option linter.unusedSimpArgs false
set_option linter.unusedVariables false

section
variable {X Y l l' l'' hp hp1 R : List Blk} {x B : Blk} {n : Nat} {cs cs' : List Value} {T : TypeId} {m m' : Nat}
theorem rem_seg (h : l.Perm (B :: l')) : (X ++ l).Perm (B :: (X ++ l')) := (List.Perm.append_left X h).trans List.perm_middle
theorem sg_here : (X ++ l).Perm (X ++ l) := .refl _
theorem sg_there (h : l.Perm (X ++ l')) : (x :: l).Perm (X ++ (x :: l')) := (List.Perm.cons x h).trans List.perm_middle.symm
theorem sg_seg (h : l.Perm (X ++ l')) : (Y ++ l).Perm (X ++ (Y ++ l')) := by
  refine (List.Perm.append_left Y h).trans ?_
  rw [← List.append_assoc, ← List.append_assoc]
  exact List.Perm.append_right l' List.perm_append_comm
theorem sp_x {A K : List Blk} (h : l.Perm (A ++ K)) : (X ++ l).Perm ((X ++ A) ++ K) := by rw [List.append_assoc]; exact List.Perm.append_left X h
theorem sg_end : X.Perm (X ++ []) := by rw [List.append_nil]
theorem pm_nil : hp.Perm ([] ++ hp) := .refl _
theorem pm_cons (h : hp.Perm (x :: hp1)) (k : hp1.Perm (l ++ R)) : hp.Perm ((x :: l) ++ R) := h.trans (.cons x k)
theorem pm_consE (h : hp.Perm (⟨n, cs, T, m⟩ :: hp1)) (e : cs = cs') (e2 : m = m') (k : hp1.Perm (l ++ R)) : hp.Perm ((⟨n, cs', T, m'⟩ :: l) ++ R) := by subst e; subst e2; exact pm_cons h k
theorem pm_seg (h : hp.Perm (X ++ hp1)) (k : hp1.Perm (l ++ R)) : hp.Perm ((X ++ l) ++ R) := by
  rw [List.append_assoc]
  exact h.trans (List.Perm.append_left X k)
theorem pm_none (h : hp.Perm (l ++ R)) : hp.Perm (([] ++ l) ++ R) := h
theorem mem_seg (h : B ∈ l) : B ∈ X ++ l := List.mem_append_right _ h
theorem in_here : ∀ b ∈ X, b ∈ X ++ l := fun b hb => List.mem_append_left _ hb
theorem in_all : ∀ b ∈ X, b ∈ X := fun b hb => hb
theorem in_there (h : ∀ b ∈ X, b ∈ l) : ∀ b ∈ X, b ∈ x :: l := fun b hb => List.mem_cons_of_mem _ (h b hb)
theorem in_seg (h : ∀ b ∈ X, b ∈ l) : ∀ b ∈ X, b ∈ Y ++ l := fun b hb => List.mem_append_right _ (h b hb)
theorem Upd.seg {b : Nat} (h : Upd l b cs T m cs' l') : Upd (X ++ l) b cs T m cs' (X ++ l') := by
  induction X with
  | nil => exact h
  | cons x X ih => exact .tail ih
end
theorem weak_perm {sl sl' : List (Nat × Value)} {hp hp' R : List Blk} (h1 : wkl sl sl') (h2 : hp.Perm (hp' ++ R)) : Weak ⟨sl, hp⟩ ⟨sl', hp'⟩ :=
  ⟨wkl_mem h1, fun b hb => h2.symm.subset (List.mem_append_left _ hb), fun h => by
    have := (h2.map (·.n)).nodup_iff.1 h
    rw [List.map_append, List.nodup_append] at this
    exact this.1⟩
theorem end_perm {C : Cx} {fn : Func} {R : Value → List Blk → Prop} {s : St} {v : Value} {out K : List Blk} (hr : Res C fn s v) (hp : s.hp.Perm (out ++ K)) (h : R v out) : endAt C fn R s :=
  ⟨v, out, hr, fun b hb => hp.symm.subset (List.mem_append_left _ hb), fun hn => by
    have := (hp.map (·.n)).nodup_iff.1 hn
    rw [List.map_append, List.nodup_append] at this
    exact this.1, h⟩

theorem Meets.imp {P : Program} {f : FuncId} {args : List Value} {lent : List Nat} {Pre Pre' : World → Prop} {R R' : Value → List Blk → Prop} (h : Meets P f args lent Pre R) (hp : ∀ w, Pre' w → Pre w) (hr : ∀ v out, R v out → R' v out) : Meets P f args lent Pre' R' :=
  fun W hW => (h W (hp W hW)).mono fun e W' ⟨v, out, h1, h2, h3⟩ => ⟨v, out, h1, hr v out h2, h3⟩

/-- a fact that omega does not look into -/
structure Hid (p : Prop) : Prop where
  out : p

/-- whatever holds where these blocks lie -/
def Lies (bl : List Blk) (w : World) : Prop := ∀ b ∈ bl, BlkOk w b
theorem Lies.of {C : Cx} {hp bl : List Blk} {w : World} (h : HRep C hp w) (hb : ∀ b ∈ bl, b ∈ hp) : Lies bl w := fun b hb' => h.cells b (hb b hb')
theorem Lies.sub {bl bl' : List Blk} {w : World} (h : Lies bl w) (hb : ∀ b ∈ bl', b ∈ bl) : Lies bl' w := fun b hb' => h b (hb b hb')
theorem Lies.keep {bl : List Blk} {ex : List Nat} {w w' : World} (h : Lies bl w) (k : Keeps ex w w') (hn : ∀ b ∈ bl, b.n ∉ ex) : Lies bl w' := fun b hb => (h b hb).of_heap (k.block b.n (h b hb).lt (hn b hb))

/-- a row under construction: nil, or a block of one's own -/
def Acc (s : Sl) (bl : List Blk) (cells : List Value) (E : TypeId) (n size : Nat) : Prop :=
  (s = Sl.nil ∧ bl = [] ∧ cells = [] ∧ n = 0) ∨ ∃ q c, s = ⟨some ⟨q, 0, none⟩, n, c⟩ ∧ n ≤ c ∧ cells.length = n * size ∧ bl = [⟨q, cells, E, c * size⟩]
section
variable {s : Sl} {bl : List Blk} {cells : List Value} {E : TypeId} {n size : Nat}
theorem Acc.none : Acc Sl.nil [] [] E 0 size := .inl ⟨rfl, rfl, rfl, rfl⟩
theorem Acc.some {q c : Nat} (h : n ≤ c) (hl : cells.length = n * size) : Acc ⟨.some ⟨q, 0, .none⟩, n, c⟩ [⟨q, cells, E, c * size⟩] cells E n size := .inr ⟨q, c, rfl, h, hl, rfl⟩
theorem Acc.num (h : Acc s bl cells E n size) : s.n = n := by rcases h with ⟨rfl, _, _, rfl⟩ | ⟨q, c, rfl, _⟩ <;> rfl
theorem Acc.len (h : Acc s bl cells E n size) : cells.length = n * size := by rcases h with ⟨_, _, rfl, rfl⟩ | ⟨q, c, _, _, h, _⟩; simp; exact h
theorem Acc.cap (h : Acc s bl cells E n size) : s.n ≤ s.c := by rcases h with ⟨rfl, _⟩ | ⟨q, c, rfl, h, _⟩; exact Nat.le_refl _; exact h
theorem Acc.nil (h : Acc s bl cells E n size) (hp : s.p = .none) : s.n = 0 := by rcases h with ⟨rfl, _⟩ | ⟨q, c, rfl, _⟩; rfl; cases hp
theorem Acc.nilc (h : Acc s bl cells E n size) (hp : s.p = .none) : s.c = 0 := by rcases h with ⟨rfl, _⟩ | ⟨q, c, rfl, _⟩; rfl; cases hp
theorem Acc.see (h : Acc s bl cells E n size) {w : World} (hw : Lies bl w) : SeesP w s.p cells := by
  rcases h with ⟨_, _, rfl, _⟩ | ⟨q, c, rfl, _, _, rfl⟩
  · exact SeesP.nil
  · refine SeesP.of fun j v hj => ?_
    have := (hw _ (List.mem_singleton.2 rfl)).cell (o := 0 + j) (v := v) (by simpa using hj)
    simpa using this
end

section
variable {C : Cx} {ops : Array Oper} {rest : List (Nat × Oper)} {sl : List (Nat × Value)} {hp hp' : List Blk} {Q : St → Prop} {c d : Nat} {ty : TypeId} {pos : String} {af : Array Edge} {g : Option (Nat × Bool)}

/-- append to a row under construction -/
theorem Tr.appendAcc {x y : Operand} {s : Sl} {bl : List Blk} {n m size by' c2 : Nat} {T tx E E2 : TypeId} {z : Value} {olds : List Value} {p : Option Addr} (news : List Value) (hg : guardOk ops sl g = true) (hc : Nat.beq c 4 = true) (hd : Nat.blt d C.N = true)
    (hx : evIn sl x = some s.v) (hy : evIn sl y = some (.slice p m c2)) (hu : C.P.underlying T = some (.slice E)) (hut : C.P.underlying tx = some (.slice E2)) (hs : Sz C.P E size) (hz : Zr C.P E z) (hb : By C.P E by') (hzc : z.cells.size = size)
    (hacc : Acc s bl olds E n size) (hp1 : hp.Perm (bl ++ hp')) (hsee : ∀ w, HRep C hp w → SeesP w p news) (hpn : p = none → m = 0) (hcell : ∀ u ∈ news, isCell u = true)
    (hbig : n + m ≤ 1000000) (hfit : (n + m) * by' ≤ 140737488355328) (hnl : news.length = m * size)
    (k : ∀ s' bl', Acc s' bl' (olds ++ news) E (n + m) size → Tr C ops rest ⟨(d, s'.v) :: sl, bl' ++ hp'⟩ Q) :
    Tr C ops ((c, ⟨some d, .call { callee := .builtin .append, args := #[x, y], argTypes := #[T, tx] }, ty, pos, af, g⟩) :: rest) ⟨sl, hp⟩ Q := by
  rcases hacc with ⟨rfl, rfl, rfl, rfl⟩ | ⟨q, cp, rfl, hnc, hol, rfl⟩
  · rw [List.nil_append] at hp1
    simp only [Nat.zero_add, List.nil_append] at k hbig hfit
    by_cases hm : m = 0
    · subst hm
      have hnil : news = [] := by simpa using hnl
      subst hnil
      refine Tr.act (ρ := Unit) (fun _ => True) (fun _ => .slice none 0 0) (fun _ => hp') (nbeq' hc) (wantS_of_guardOk hg) (dst_some (nblt hd)) ⟨by simpa [Known, Op.operands, Call.operands] using known2 hx hy, fun a w hf hh => ?_⟩ (fun _ _ => k Sl.nil [] Acc.none)
      have h1 := hf x (by simp [Op.operands, Call.operands]); rw [hx] at h1
      have h2 := hf y (by simp [Op.operands, Call.operands]); rw [hy] at h2
      simp only [Option.some.injEq, Sl.v, Sl.nil] at h1 h2
      have rs := run_sz hs
      unfold Oper.wp
      have hex : (execOp a.eval ⟨some d, .call { callee := .builtin .append, args := #[x, y], argTypes := #[T, tx] }, ty, pos, af, g⟩).run C.P w = .ok (.value (.slice none 0 0)) w := by
        cases p <;> simp [execOp, resolve, invoke, builtin, ← h1, ← h2, Builtin.append_, run_underlying hu, run_underlying hut, rs, Builtin.lenOf, Builtin.firstCells, loadCells, loadCellsFrom, storeCells]
      rw [hex]
      exact ⟨(), trivial, rfl, hh.perm hp1⟩
    · refine Tr.act (ρ := Nat × Nat) (fun r => m ≤ r.2) (fun r => .slice (some ⟨r.1, 0, none⟩) m r.2) (fun r => ⟨r.1, news, E, r.2 * size⟩ :: hp') (nbeq' hc) (wantS_of_guardOk hg) (dst_some (nblt hd))
        ⟨by simpa [Known, Op.operands, Call.operands] using known2 hx hy, fun a w hf hh => ?_⟩ (fun r hr => k ⟨some ⟨r.1, 0, none⟩, m, r.2⟩ _ (Acc.some hr hnl))
      have h1 := hf x (by simp [Op.operands, Call.operands]); rw [hx] at h1
      have h2 := hf y (by simp [Op.operands, Call.operands]); rw [hy] at h2
      simp only [Option.some.injEq, Sl.v, Sl.nil] at h1 h2
      have hsz := hs
      unfold Sz at hs; unfold Zr at hz; unfold By at hb
      cases hi : C.P.info? E with
      | none => rw [hi] at hs; simp at hs
      | some i =>
        rw [hi] at hs hz hb
        simp only [Option.map_some, Option.some.injEq, Option.bind_some] at hs hz hb
        subst hs
        have hS : Src C.P i.size tx (.slice p m c2) m news w := Src.ofP hut (hsee w hh) hpn hnl hcell
        have hrun := run_append_grow_src (P := C.P) w T tx ty E i z hu hi hz none 0 0 [] (by simp [Builtin.firstCells]) _ m news hS oM oM (growslice_fits oM (by rw [hb]; simpa using hfit))
        simp only [Nat.zero_add, List.nil_append] at hrun
        have hge := grownCap_ge w m 0 E
        unfold Oper.wp
        have hex : (execOp a.eval ⟨some d, .call { callee := .builtin .append, args := #[x, y], argTypes := #[T, tx] }, ty, pos, af, g⟩).run C.P w = .ok (.value (.slice (some ⟨w.heap.size, 0, none⟩) m (grownCap w m 0 E))) (w.drew.alloc (.cells (news.toArray ++ Builtin.zeroCells z.cells (grownCap w m 0 E - m)) E)) := by
          simp [execOp, resolve, invoke, builtin, ← h1, ← h2, hrun]
        rw [hex]
        refine ⟨(w.heap.size, grownCap w m 0 E), hge, rfl, ?_⟩
        have hret : Ret [] [⟨w.heap.size, news, E, grownCap w m 0 E * i.size⟩] w (w.drew.alloc (.cells (news.toArray ++ Builtin.zeroCells z.cells (grownCap w m 0 E - m)) E)) := Ret.pushD _ _ _ _ (by
          have e : grownCap w m 0 E * i.size = m * i.size + (grownCap w m 0 E - m) * i.size := by rw [← Nat.add_mul]; congr 1; omega
          simp [Builtin.zeroCells, hnl, hzc, e]) sP
        exact (hh.perm hp1).grown hret
  · refine Tr.appendSl (z := z) (by' := by') news hg hc hd hx hy hu hut hs hz hb hzc hsee hpn hcell hp1 rfl hol hnc hbig hfit hnl (fun q' c' hq => ?_)
    exact k ⟨some ⟨q', 0, none⟩, n + m, c'⟩ _ (Acc.some hq (by rw [List.length_append, hol, hnl, Nat.add_mul]))

/-- the builtin copy, into an own block, elements of one cell, as many as both hold -/
theorem Tr.copyP {x y : Operand} {b o n cap1 m2 c2 : Nat} {p : Option Addr} {cs vs cs' : List Value} {BT T T2 E : TypeId} {m : Nat} (src : List Value) (k0 : Nat) (hg : guardOk ops sl g = true) (hc : Nat.beq c 4 = true) (hd : Nat.blt d C.N = true)
    (hx : evIn sl x = some (.slice (some ⟨b, o, none⟩) n cap1)) (hy : evIn sl y = some (.slice p m2 c2)) (hu : C.P.underlying T = some (.slice E)) (hs : Sz C.P E 1)
    (hsee : ∀ w, HRep C hp w → SeesP w p src) (hpn : p = none → m2 = 0) (hsl : src.length = m2) (hk0 : min n m2 = k0) (hvs : src.take k0 = vs) (hcell : ∀ u ∈ src, isCell u = true) (hb : (⟨b, cs, BT, m⟩ : Blk) ∈ hp) (hl : o + k0 ≤ cs.length) (hcs : upd cs o vs = cs') (hup : Upd hp b cs BT m cs' hp')
    (k : Tr C ops rest ⟨(d, i64 (k0 : Int)) :: sl, hp'⟩ Q) : Tr C ops ((c, ⟨some d, .call { callee := .builtin .copy, args := #[x, y], argTypes := #[T, T2] }, ty, pos, af, g⟩) :: rest) ⟨sl, hp⟩ Q := by
  refine Tr.act (ρ := Unit) (fun _ => True) (fun _ => i64 (k0 : Int)) (fun _ => hp') (nbeq' hc) (wantS_of_guardOk hg) (dst_some (nblt hd)) ⟨by simpa [Known, Op.operands, Call.operands] using known2 hx hy, fun a w hf hh => ?_⟩ (fun _ _ => k)
  have h1 := hf x (by simp [Op.operands, Call.operands]); rw [hx] at h1
  have h2 := hf y (by simp [Op.operands, Call.operands]); rw [hy] at h2
  simp only [Option.some.injEq] at h1 h2
  have hvl : vs.length = k0 := by rw [← hvs, List.length_take, hsl]; omega
  obtain ⟨full, fr, hbk⟩ := hh.cells _ hup.mem
  have hpl := hbk.pre.length_le
  simp only [Array.length_toList] at hpl
  have hlt := (hh.cells _ hup.mem).lt
  have hfc : (Builtin.firstCells 1 k0 (.slice p m2 c2)).run C.P w = .ok vs.toArray w := by
    cases p with
    | none =>
      have := hpn rfl
      subst this
      have : vs = [] := List.eq_nil_of_length_eq_zero oM
      subst this
      simp [Builtin.firstCells, ← hk0, loadCells, loadCellsFrom]
    | some ad =>
      refine run_firstCells_some w 1 k0 ad m2 c2 vs (by rw [hvl, Nat.mul_one]) fun j v hj => ?_
      have hj' : src[j]? = some v := by
        rw [← hvs, List.getElem?_take] at hj
        split at hj
        · exact hj
        · cases hj
      obtain ⟨b2, o2, e, hcc⟩ := hsee w hh j v hj'
      simp only [Option.some.injEq] at e
      subst e
      rw [add_addr]; exact hcc
  have hk1 : m2.min n = k0 := by rw [← hk0]; exact Nat.min_comm m2 n
  have hst := run_storeCells (P := C.P) (b := b) (o := o) vs 0 w full hbk.heap oM (by rw [hbk.size]; exact hbk.free) (fun u hu => hcell u (by rw [← hvs] at hu; exact List.mem_of_mem_take hu))
  have hrun : (execOp a.eval ⟨some d, .call { callee := .builtin .copy, args := #[x, y], argTypes := #[T, T2] }, ty, pos, af, g⟩).run C.P w = .ok (.value (i64 (k0 : Int))) (setBlk w b (putAll full o vs) BT fr) := by
    simp [execOp, resolve, invoke, builtin, Builtin.copy_, ← h1, ← h2, run_underlying hu, Builtin.lenOf, run_sz hs, hk1, hfc, hst, goInt]
  unfold Oper.wp
  rw [hrun]
  refine ⟨(), trivial, rfl, hh.upd hup hlt (by rw [putAll_size]; exact hbk.size) ?_ hbk.free⟩
  rw [← hcs]
  exact upd_pre hbk.pre (by rw [hvl]; exact hl)

theorem Tr.nd {l : List (Nat × Oper)} {s : St} (h : (s.hp.map (·.n)).Nodup → Tr C ops l s Q) : Tr C ops l s Q := by
  by_cases hn : (s.hp.map (·.n)).Nodup
  · exact h hn
  · exact .dup hn

variable {f : Operand} {fid : FuncId} {ars : List Operand} {ats : Array TypeId} {vs us : List Value} {fst cap : Array Value}
/-- a call in the text's order -/
theorem Tr.call4 {Pre : World → Prop} {R : Value → List Blk → Prop} (hg : guardOk ops sl g = true) (hk : Nat.beq c 4 = true) (hd : Nat.blt d C.N = true) (hfn : evIn sl f = some (.func (.func fid) #[] #[])) (hargs : evs sl ars = some vs) (hb : Body C.P fid)
    (hc : Meets C.P fid vs [] Pre R) (hpre : ∀ w, HRep C hp w → Pre w)
    (k : ∀ v out, R v out → Tr C ops rest ⟨(d, v) :: sl, out ++ hp⟩ Q) : Tr C ops ((c, ⟨some d, .call ⟨.value f, ars.toArray, ats⟩, ty, pos, af, g⟩) :: rest) ⟨sl, hp⟩ Q := by
  refine Tr.act (ρ := Value × List Blk) (fun r => R r.1 r.2) (·.1) (fun r => r.2 ++ hp) (nbeq' hk) (wantS_of_guardOk hg) (dst_some (nblt hd)) ⟨known_call hfn hargs, fun a w hf hh => ?_⟩ (fun r hr => k r.1 r.2 hr)
  unfold Oper.wp
  rw [run_call hfn hargs hf, hb]
  refine (hc w (hpre w hh)).mono fun e w' ⟨v, out, he, hR, hret⟩ => ?_
  subst he
  exact ⟨(v, out), hR, rfl, hh.grown hret⟩
end
end Hw
end

section
namespace Go.Proofs.YtpacobmjjjillaaGreat
open Go Hw
set_option linter.unusedVariables false
set_option linter.unusedSimpArgs false

def BB (b : Nat) (X : Block) : Blk := ⟨b, X.cells, 53, 131⟩
def takR (xs : List UInt8) (m a : Nat) (e : Int) : List UInt8 × Nat × Int :=
  if ¬ e = 0 then ([], a, e) else if xs.length < a + m then ([], a, 5) else ((xs.drop a).take m, a + m, 0)
/-- so many digests -/
def digsR (xs : List UInt8) : Nat → Nat → Int → List (List UInt8) × Nat × Int
  | 0, a, e => ([], a, e)
  | j + 1, a, e => ((digsR xs j a e).1 ++ [(digR xs (digsR xs j a e).2.1 (digsR xs j a e).2.2).1], (digR xs (digsR xs j a e).2.1 (digsR xs j a e).2.2).2)
end Go.Proofs.YtpacobmjjjillaaGreat
end

section
namespace Go.Proofs.YtpacobmjjjillaaGreat
open Go Hw
set_option linter.unusedVariables false
set_option linter.unusedSimpArgs false

/-- a block as plain data -/
structure DB where
  w : List UInt8
  seq : UInt64
  prev : List UInt8
  ls : List (List UInt8)
  ds : List UInt8
  sg : List UInt8
deriving DecidableEq
def DB.zero : DB := ⟨List.replicate 32 0, 0, List.replicate 32 0, [], [], List.replicate 64 0⟩
def DB.head (D : DB) : Bool := decide ((4294967295 : Int) < (D.seq.toNat : Int)) || (!decide (decide (D.prev = List.replicate 32 0) = decide ((D.seq.toNat : Int) = 0)) || (decide ((16 : Int) < (D.ls.length : Int)) || decide ((512 : Int) < (D.ds.length : Int))))
def DB.check (D : DB) : Int := if D.head = true then 2 else (if linksBad D.prev D.ls = true then 2 else 0)
def DB.body (D : DB) : List UInt8 := D.w ++ numB D.seq ++ D.prev ++ numB (UInt64.ofNat D.ls.length) ++ D.ls.flatten ++ (numB (UInt64.ofNat D.ds.length) ++ D.ds)
def DB.bytes (D : DB) : List UInt8 := D.body ++ D.sg
/-- the lengths that the types ask -/
structure DB.ok (D : DB) : Prop where
  w : D.w.length = 32
  prev : D.prev.length = 32
  sg : D.sg.length = 64
  ls : ∀ l ∈ D.ls, l.length = 32
structure BlockIs (W : World) (B : Block) (D : DB) : Prop where
  ok : B.ok
  w : B.fWriter = D.w
  seq : B.fSeq = D.seq
  prev : B.fPrev = D.prev
  ls : RowsAt W B.fLinks 32 D.ls
  ds : BytesAt W B.fData D.ds
  sg : B.fSig = D.sg
theorem BlockIs.dok {W : World} {B : Block} {D : DB} (h : BlockIs W B D) : D.ok := ⟨by rw [← h.w]; exact h.ok.l_fWriter, by rw [← h.prev]; exact h.ok.l_fPrev, by rw [← h.sg]; exact h.ok.l_fSig, h.ls.row⟩
theorem BlockIs.check {W : World} {B : Block} {D : DB} (h : BlockIs W B D) : bcheck B D.ls = D.check := by
  simp only [bcheck, bheadB, DB.check, DB.head, h.seq, h.prev, h.ls.len, h.ds.len]
theorem BlockIs.body {W : World} {B : Block} {D : DB} (h : BlockIs W B D) : bodyB B D.ls D.ds = D.body := by
  simp only [bodyB, DB.body, h.w, h.seq, h.prev, h.ls.len, h.ds.len]
theorem BlockIs.bytes {W : World} {B : Block} {D : DB} (h : BlockIs W B D) : bytesB B D.ls D.ds = D.bytes := by
  simp only [bytesB, DB.bytes, h.body, h.sg]
theorem acc_rows {s : Sl} {bl : List Blk} {ls : List (List UInt8)} {E : TypeId} {n : Nat} {w : World} (h : Acc s bl (flatB ls) E n 32) (hl : Lies bl w) (hr : ∀ l ∈ ls, l.length = 32) (hn : ls.length = n) (hm : n ≤ 1000000) : RowsAt w s 32 ls :=
  ⟨by rw [h.num, hn], hr, h.cap, h.see hl, by rw [h.num]; unfold maxLen; omega, h.nilc⟩
theorem acc_bytes {s : Sl} {bl : List Blk} {l : List UInt8} {E : TypeId} {n : Nat} {w : World} (h : Acc s bl (bytesV l) E n 1) (hl : Lies bl w) (hn : l.length = n) (hm : n ≤ 1000000) : BytesAt w s l :=
  ⟨by rw [h.num, hn], h.cap, h.see hl, by rw [h.num]; unfold maxLen; omega, h.nilc⟩
/-- what is read: the data of a block -/
def readP (xs : List UInt8) : DB × Nat × Int :=
  let r1 := digR xs 0 0
  let r2 := numR xs r1.2.1 r1.2.2
  let r3 := digR xs r2.2.1 r2.2.2
  let r4 := numR xs r3.2.1 r3.2.2
  let r5 := digsR xs (min r4.1.toNat 17) r4.2.1 r4.2.2
  let r6 := blkR xs r5.2.1 r5.2.2
  let r7 := takR xs 64 r6.2.1 r6.2.2
  (⟨r1.1, r2.1, r3.1, r5.1, r6.1.getD [], r7.1 ++ (List.replicate 64 0).drop r7.1.length⟩, r7.2)
def readD (xs : List UInt8) : DB × Int :=
  if endR xs.length (readP xs).2.1 (readP xs).2.2 = 0 ∧ (readP xs).1.check = 0 then ((readP xs).1, 0) else (DB.zero, 4)
theorem readD_ok {xs : List UInt8} (h : endR xs.length (readP xs).2.1 (readP xs).2.2 = 0 ∧ (readP xs).1.check = 0) : readD xs = ((readP xs).1, 0) := if_pos h
end Go.Proofs.YtpacobmjjjillaaGreat
end

section
namespace Hw
open Go
set_option linter.unusedSimpArgs false
set_option linter.unusedVariables false

/-- turned to the left by s bits -/
def rolW (x : UInt64) (s : Nat) : UInt64 := shl64 x s ||| shr64 x (64 - s)
def schA (p : List UInt8) : Nat → List UInt64
  | 0 => List.replicate 80 0
  | i + 1 => (schA p i).set (i / 8) (shl64 ((schA p i).getD (i / 8) 0) 8 ||| (p.getD i 0).toUInt64)
theorem schA_length (p : List UInt8) : ∀ i, (schA p i).length = 80
  | 0 => rfl
  | i + 1 => by rw [schA, List.length_set, schA_length p i]
def sig0 (x : UInt64) : UInt64 := rolW x 63 ^^^ rolW x 56 ^^^ shr64 x 7
def sig1 (y : UInt64) : UInt64 := rolW y 45 ^^^ rolW y 3 ^^^ shr64 y 6
def schB (w : List UInt64) : Nat → List UInt64
  | 0 => w
  | j + 1 => (schB w j).set (16 + j) ((schB w j).getD j 0 + sig0 ((schB w j).getD (j + 1) 0) + (schB w j).getD (j + 9) 0 + sig1 ((schB w j).getD (j + 14) 0))
theorem schB_length (w : List UInt64) : ∀ j, (schB w j).length = w.length
  | 0 => rfl
  | j + 1 => by rw [schB, List.length_set, schB_length w j]
def schW (p : List UInt8) : List UInt64 := schB (schA p 128) 64
structure W8 where
  a : UInt64
  b : UInt64
  c : UInt64
  d : UInt64
  e : UInt64
  f : UInt64
  g : UInt64
  h : UInt64
def W8.l (s : W8) : List UInt64 := [s.a, s.b, s.c, s.d, s.e, s.f, s.g, s.h]
def W8.of (l : List UInt64) : W8 := ⟨l.getD 0 0, l.getD 1 0, l.getD 2 0, l.getD 3 0, l.getD 4 0, l.getD 5 0, l.getD 6 0, l.getD 7 0⟩
def rndT1 (s : W8) (k w : UInt64) : UInt64 := s.h + (rolW s.e 50 ^^^ rolW s.e 46 ^^^ rolW s.e 23) + ((s.e &&& s.f) ^^^ ((18446744073709551615 ^^^ s.e) &&& s.g)) + k + w
def rndT2 (s : W8) : UInt64 := (rolW s.a 36 ^^^ rolW s.a 30 ^^^ rolW s.a 25) + ((s.a &&& s.b) ^^^ (s.a &&& s.c) ^^^ (s.b &&& s.c))
def rnd1 (s : W8) (k w : UInt64) : W8 := ⟨rndT1 s k w + rndT2 s, s.a, s.b, s.c, s.d + rndT1 s k w, s.e, s.f, s.g⟩
def rnds (k w : List UInt64) (s : W8) : Nat → W8
  | 0 => s
  | t + 1 => rnd1 (rnds k w s t) (k.getD t 0) (w.getD t 0)
def addUp (st xs : List UInt64) : Nat → List UInt64
  | 0 => st
  | i + 1 => (addUp st xs i).set i ((addUp st xs i).getD i 0 + xs.getD i 0)
theorem addUp_length (st xs : List UInt64) : ∀ i, (addUp st xs i).length = st.length
  | 0 => rfl
  | i + 1 => by rw [addUp, List.length_set, addUp_length st xs i]
theorem addUp_get (st xs : List UInt64) : ∀ i j, i ≤ j → (addUp st xs i).getD j 0 = st.getD j 0
  | 0, j, _ => rfl
  | i + 1, j, h => by
    rw [addUp, List.getD_eq_getElem?_getD, List.getElem?_set_ne oM, ← List.getD_eq_getElem?_getD]
    exact addUp_get st xs i j oM
def pieceW (k st : List UInt64) (p : List UInt8) : List UInt64 := addUp st (rnds k (schW p) (W8.of st) 80).l 8
theorem pieceW_length (k st : List UInt64) (p : List UInt8) : (pieceW k st p).length = st.length := addUp_length _ _ _
def sumUp (st : List UInt64) : Nat → List UInt8
  | 0 => List.replicate 64 0
  | i + 1 => (sumUp st i).set i (shr64 (st.getD (i / 8) 0) (56 - 8 * (i % 8))).toUInt8
theorem sumUp_length (st : List UInt64) : ∀ i, (sumUp st i).length = 64
  | 0 => rfl
  | i + 1 => by rw [sumUp, List.length_set, sumUp_length st i]
/-- the zeros behind the 128 -/
def padZ (n : Nat) : Nat := (239 - n % 128) % 128
theorem padZ_lt (n : Nat) : padZ n < 128 := Nat.mod_lt _ dE
theorem padZ_at (n j : Nat) (h : j ≤ padZ n) : (n + 1 + j) % 128 = 112 ↔ j = padZ n := by unfold padZ at *; omega
def beUp (x : UInt64) : Nat → List UInt8
  | 0 => []
  | j + 1 => beUp x j ++ [(shr64 x (56 - 8 * j)).toUInt8]
theorem beUp_length (x : UInt64) : ∀ j, (beUp x j).length = j
  | 0 => rfl
  | j + 1 => by rw [beUp, List.length_append, beUp_length x j]; rfl
def padB (l : List UInt8) : List UInt8 := l ++ [128] ++ List.replicate (padZ l.length) 0 ++ beUp 0 8 ++ beUp (UInt64.ofNat (8 * l.length)) 8
theorem padB_length (l : List UInt8) : (padB l).length = l.length + 17 + padZ l.length := by
  simp only [padB, List.length_append, beUp_length, List.length_replicate, List.length_singleton]; omega
theorem padB_mod (l : List UInt8) : (padB l).length = 128 * ((padB l).length / 128) := by
  rw [padB_length]; unfold padZ; omega
def runW (k st : List UInt64) (bs : List UInt8) : Nat → List UInt64
  | 0 => st
  | i + 1 => pieceW k (runW k st bs i) ((bs.drop (128 * i)).take 128)
theorem runW_length (k st : List UInt64) (bs : List UInt8) : ∀ i, (runW k st bs i).length = st.length
  | 0 => rfl
  | i + 1 => by rw [runW, pieceW_length, runW_length k st bs i]
def allW (k st : List UInt64) (l : List UInt8) : List UInt64 := runW k st (padB l) ((padB l).length / 128)
theorem allW_length (k st : List UInt64) (l : List UInt8) : (allW k st l).length = st.length := runW_length _ _ _ _
end Hw
end

section
namespace Go.Proofs.YtpacobmjjjillaaGreat
open Go Hw
set_option linter.unusedVariables false
set_option linter.unusedSimpArgs false

def kW : List UInt64 := [4794697086780616226, 8158064640168781261, 13096744586834688815, 16840607885511220156, 4131703408338449720, 6480981068601479193, 10538285296894168987, 12329834152419229976, 15566598209576043074, 1334009975649890238, 2608012711638119052, 6128411473006802146, 8268148722764581231, 9286055187155687089, 11230858885718282805, 13951009754708518548, 16472876342353939154, 17275323862435702243, 1135362057144423861, 2597628984639134821, 3308224258029322869, 5365058923640841347, 6679025012923562964, 8573033837759648693, 10970295158949994411, 12119686244451234320, 12683024718118986047, 13788192230050041572, 14330467153632333762, 15395433587784984357, 489312712824947311, 1452737877330783856, 2861767655752347644, 3322285676063803686, 5560940570517711597, 5996557281743188959, 7280758554555802590, 8532644243296465576, 9350256976987008742, 10552545826968843579, 11727347734174303076, 12113106623233404929, 14000437183269869457, 14369950271660146224, 15101387698204529176, 15463397548674623760, 17586052441742319658, 1182934255886127544, 1847814050463011016, 2177327727835720531, 2830643537854262169, 3796741975233480872, 4115178125766777443, 5681478168544905931, 6601373596472566643, 7507060721942968483, 8399075790359081724, 8693463985226723168, 9568029438360202098, 10144078919501101548, 10430055236837252648, 11840083180663258601, 13761210420658862357, 14299343276471374635, 14566680578165727644, 15097957966210449927, 16922976911328602910, 17689382322260857208, 500013540394364858, 748580250866718886, 1242879168328830382, 1977374033974150939, 2944078676154940804, 3659926193048069267, 4368137639120453308, 4836135668995329356, 5532061633213252278, 6448918945643986474, 6902733635092675308, 7801388544844847127]
def startW : List UInt64 := [7640891576956012808, 13503953896175478587, 4354685564936845355, 11912009170470909681, 5840696475078001361, 11170449401992604703, 2270897969802886507, 6620516959819538809]

theorem sha_K  : Meets Tryz.prog 237 [] [] (fun _ => True) (fun v out => v = agg (wordsV kW) ∧ out = []) := by
 intro W hW
 refine calls_of (hp0 := []) Tryz.func237 J 2 Tryz.ntmps237 J (HRep.nil _) (Sat.seq (Sat.region (Tr.alloc (cs := (wordsV (List.replicate 80 0))) J Zr209 J ?_)))
 intro n0 hn0 hf0
 refine Tr.nil (at_n (Sat.seq (Sat.region (Tr.build (cs := wordsV kW) J J J (fun w => by kernel_rfl) ?_))))
 refine Tr.storeAll J J J J zB Sz209 (by (simp [kW]; done)) Z0 sP zU ?_
 refine Tr.nil (at_n (Sat.ret (en_r ?_)))
 refine ⟨_, [], res_cell J J Y209 J Sz209 Z0 (by simp [kW]), sP, sP, ?_, rfl⟩
 rfl

theorem sha_Start  : Meets Tryz.prog 204 [] [] (fun _ => True) (fun v out => v = agg (wordsV startW) ∧ out = []) := by
 intro W hW
 refine calls_of (hp0 := []) Tryz.func204 J 2 Tryz.ntmps204 J (HRep.nil _) (Sat.seq (Sat.region (Tr.alloc (cs := (wordsV (List.replicate 8 0))) J Zr135 J ?_)))
 intro n0 hn0 hf0
 refine Tr.nil (at_n (Sat.seq (Sat.region (Tr.build (cs := wordsV startW) J J J (fun w => by kernel_rfl) ?_))))
 refine Tr.storeAll J J J J zB Sz135 (by (simp [startW]; done)) Z0 sP zU ?_
 refine Tr.nil (at_n (Sat.ret (en_r ?_)))
 refine ⟨_, [], res_cell J J Y135 J Sz135 Z0 (by simp [startW]), sP, sP, ?_, rfl⟩
 rfl

theorem bits_rol (x : UInt64) (k : Int) (s : Nat) (hk : -64 ≤ k ∧ k ≤ 64) (hs : (wordOf k &&& 63).toNat = s) (hs2 : s ≤ 63) : Meets Tryz.prog 238 [u64 x, i64 k] [] (fun _ => True) (fun v out => v = u64 (rolW x s) ∧ out = []) := by
 intro W hW
 have h64 : ((64 : UInt64) - (wordOf k &&& 63)).toNat = 64 - s := by rw [UInt64.toNat_sub_of_le _ _ (by rw [UInt64.le_iff_toNat_le, hs]; show s ≤ 64; omega), hs]; rfl
 refine calls_of (hp0 := []) Tryz.func238 J 17 Tryz.ntmps238 J (HRep.nil _) (Sat.seq (Sat.region (Tr.assign J J (show evIn _ _ = some (u64 0) from rfl) (Tr.nil (at_n (Sat.seq (Sat.region (Tr.move J J J (Tr.conv J J J Y3 Y35 (cv_i64_u64 _) (Tr.and_u64 J J J (show evIn _ _ = some (u64 63) from rfl) (Tr.assign J J J (Tr.nil (at_n (Sat.seq (Sat.region (Tr.move J J J (Tr.move J J J (Tr.shl_u64 J J J J s oM oM (Tr.move J J J (Tr.move J J J (Tr.sub_u64 J J (show evIn _ _ = some (u64 64) from rfl) J (Tr.shr_u64 J J J J (64 - s) oM oM (Tr.or_u64 J J J J (Tr.assign J J J (Tr.nil (at_n (Sat.ret (en_r ?_))))))))))))))))))))))))))))
 refine ⟨_, [], res_tmp J J, sP, sP, ?_, rfl⟩
 rfl

theorem sha_schedule (p : List UInt8) (hp : p.length = 128) (A w : List UInt64) (hA : Hid (schA p 128 = A)) (hwp : Hid (schB A 64 = w)) : Meets Tryz.prog 236 [agg (bytesV p)] [] (fun _ => True) (fun v out => v = agg (wordsV w) ∧ out = []) := by
 intro W hW
 have hA80 : A.length = 80 := by rw [← hA.out]; exact schA_length p 128
 have hw80 : w.length = 80 := by rw [← hwp.out, schB_length]; exact hA80
 refine calls_of (hp0 := []) Tryz.func236 J 72 Tryz.ntmps236 J (HRep.nil _) (Sat.seq (Sat.region (Tr.boxA J J ?_)))
 intro n1 hn1 hf1
 refine Tr.alloc (cs := (wordsV (List.replicate 80 0))) J Zr209 J ?_
 intro n2 hn2 hf2
 refine Tr.nil (at_n (Sat.seq (Sat.region (Tr.alloc (cs := (wordsV (List.replicate 80 0))) J Zr209 J ?_))))
 intro n3 hn3 hf3
 refine Tr.nil (at_n (Sat.seq (Sat.seq (Sat.region (Tr.loadAll J J J Tryz.underlying191 J Sz191 Z2 (by (simp [hp]; done)) ?_)))))
 refine Tr.move J J J (Tr.nil (at_n (Sat.block (Sat.loop (ι := Nat) (fun k => ⟨[(3, ptr n3 0), (2, ptr n2 0), (11, agg (bytesV p)), (12, i64 (k : Int))], [⟨n3, wordsV (schA p k), 209, 80⟩, ⟨n2, wordsV (List.replicate 80 0), 209, 80⟩]⟩) (fun k => k ≤ 128) (fun k => 128 - k) (0) ?_ ?_ ?_))))
 · omega
 · exact weak_of (wk1 rfl (wk1 rfl (wk1 rfl (wk1 rfl wk0)))) (wh1 Z0 (wh1 Z1 wh0)) nD
 ·
  rintro k hi
  have hlk := schA_length p k
  refine Sat.seq (Sat.region (Tr.lss J J J J J (Tr.nil (at_n (Sat.seq (Sat.condP J (fun hc0 => ?_) (fun hc0 => ?_)))))))
  ·
   refine Sat.skip (at_n (Sat.seq (Sat.block (Sat.seq (Sat.region (Tr.move J J J (Tr.idxA1 J J J J Tryz.underlying191 Sz5 Y5 J _ J oM zG ?_)))))))
   refine Tr.assign J J J (Tr.assign J J J (Tr.nil (at_n (Sat.region (Tr.move J J J (Tr.quo_i64 J J J J oM (Tr.move J J J (Tr.quo_i64 J J J J oM (Tr.idxArr1 J J J J Y209 Sz22 (k / 8) oM oM (Tr.load1 J J J Y22 J Z0 (by exact get_words oM) ?_))))))))))
   refine Tr.shl_u64 J J J J 8 J dE (Tr.move J J J (Tr.conv J J J Y5 Y22 (cv_u8_u64 _) (Tr.or_u64 J J J J (Tr.idxArr1 J J J J Y209 Sz22 (k / 8) oM oM (Tr.store1 J J J J J Sz22 Z0 (by (simp [schA_length]; omega)) (by exact set_words _ _ _) zU ?_)))))
   refine Tr.nil (bl_n (at_n (Sat.region (Tr.add_i64 J J J J oM (Tr.move J J J (Tr.nil (at_n ?_)))))))
   exact ⟨k + 1, by omega, by omega, weak_of (wk1 rfl (wk1 rfl (wk1 rfl (wk1 rfl wk0)))) (wh1 Z0 (wh1 Z1 wh0)) nD⟩
  ·
   obtain rfl : k = 128 := by omega
   rw [hA.out]
   clear hlk
   refine Sat.exit (at_x (at_x (bl_h (at_n (Sat.seq (Sat.seq (Sat.region (Tr.assign J J J (Tr.nil (at_n (Sat.block (Sat.loop (ι := Nat) (fun j => ⟨[(3, ptr n3 0), (2, ptr n2 0), (6, i64 (16 + (j : Int)))], [⟨n3, wordsV (schB A j), 209, 80⟩, ⟨n2, wordsV (List.replicate 80 0), 209, 80⟩]⟩) (fun j => j ≤ 64) (fun j => 64 - j) (0) ?_ ?_ ?_))))))))))))
   · omega
   · exact weak_of (wk1 rfl (wk1 rfl (wk1 rfl wk0))) (wh1 Z0 (wh1 Z1 wh0)) nD
   ·
    rintro j hi
    have hlj := schB_length A j
    refine Sat.seq (Sat.seq (Sat.region (Tr.move J J J (Tr.lss J J J J J (Tr.nil (at_n (Sat.condP J (fun hc1 => ?_) (fun hc1 => ?_))))))))
    ·
     refine Sat.skip (at_n (Sat.seq (Sat.block (Sat.seq (Sat.draw [(0, 0), (0, 1), (0, 2), (1, 3), (0, 4), (0, 5), (0, 6), (1, 7), (0, 8), (0, 9)] Mixed zK (Tr.move J J J (Tr.sub_i64 J J J J oM (Tr.idxArr1 J J J J Y209 Sz22 (j + 1) oM oM (Tr.load1 J J J Y22 J Z0 (by exact get_words oM) ?_)))))))))
     refine Tr.move J J J (Tr.sub_i64 J J J J oM (Tr.idxArr1 J J J J Y209 Sz22 (j + 14) oM oM (Tr.load1 J J J Y22 J Z0 (by exact get_words oM) ?_)))
     refine Tr.assign J J J (Tr.assign J J J (Tr.nil (at_n (Sat.seq (Sat.region (Tr.move J J J (Tr.callV J J J J Body238 (bits_rol _ (-1) 63 dE dE dE) (fun _ _ => trivial) (Tr.move J J J (Tr.callV J J J J Body238 (bits_rol _ (-8) 56 dE dE dE) (fun _ _ => trivial) (Tr.xor_u64 J J J J (Tr.move J J J (Tr.shr_u64 J J J J 7 J dE (Tr.xor_u64 J J J J (Tr.assign J J J (Tr.nil (at_n (Sat.seq (Sat.region (Tr.move J J J (Tr.callV J J J J Body238 (bits_rol _ (-19) 45 dE dE dE) (fun _ _ => trivial) (Tr.move J J J (Tr.callV J J J J Body238 (bits_rol _ (-61) 3 dE dE dE) (fun _ _ => trivial) (Tr.xor_u64 J J J J (Tr.move J J J (Tr.shr_u64 J J J J 6 J dE (Tr.xor_u64 J J J J (Tr.assign J J J (Tr.nil (at_n (Sat.draw [(0, 0), (0, 1), (0, 2), (0, 3), (1, 4), (0, 5), (0, 6), (0, 7), (0, 8), (0, 9), (1, 10), (0, 11), (0, 12), (0, 13), (0, 14), (4, 15)] Mixed zK (Tr.move J J J (Tr.move J J J (Tr.sub_i64 J J J J oM (Tr.idxArr1 J J J J Y209 Sz22 j oM oM (Tr.load1 J J J Y22 J Z0 (by exact get_words oM) ?_)))))))))))))))))))))))))))))))))))
     refine Tr.move J J J (Tr.add_u64 J J J J (Tr.move J J J (Tr.sub_i64 J J J J oM (Tr.idxArr1 J J J J Y209 Sz22 (j + 9) oM oM (Tr.load1 J J J Y22 J Z0 (by exact get_words oM) ?_)))))
     refine Tr.add_u64 J J J J (Tr.move J J J (Tr.add_u64 J J J J (Tr.idxArr1 J J J J Y209 Sz22 (16 + j) oM oM (Tr.store1 J J J J J Sz22 Z0 (by (simp [schB_length, hA80]; omega)) (by exact set_words _ _ _) zU ?_))))
     refine Tr.nil (bl_n (at_n (Sat.region (Tr.move J J J (Tr.add_i64 J J J J oM (Tr.assign J J J (Tr.nil (at_n ?_))))))))
     exact ⟨j + 1, by omega, by omega, weak_of (wk1 rfl (wk1 rfl (wk1 (congrArg (fun z => some (i64 z)) oM) wk0))) (wh1 Z0 (wh1 Z1 wh0)) nD⟩
    ·
     obtain rfl : j = 64 := by omega
     rw [hwp.out]
     clear hlj
     refine Sat.exit (at_x (at_x (bl_h (at_n (Sat.seq (Sat.region (Tr.loadAll J J J Y209 J Sz209 Z0 (by (simp [hw80]; done)) ?_)))))))
     refine Tr.storeAll J J J J zB Sz209 (by (simp [hw80]; done)) Z1 sP zV ?_
     refine Tr.nil (at_n (Sat.ret (en_r ?_)))
     refine ⟨_, [], res_cell J J Y209 J Sz209 Z1 (by simp [hw80]), sP, sP, ?_, rfl⟩
     rfl

theorem sha_Kk (k : List UInt64) (hk : Hid (kW = k)) : Meets Tryz.prog 237 [] [] (fun _ => True) (fun v out => v = agg (wordsV k) ∧ out = []) := by
  rw [← hk.out]; exact sha_K
theorem W8.l_length (R : W8) : R.l.length = 8 := rfl

theorem sha_Piece (st : List UInt64) (hst : st.length = 8) (p : List UInt8) (hp : p.length = 128) (A w k : List UInt64) (R : W8) (hA : Hid (schA p 128 = A)) (hwp : Hid (schB A 64 = w)) (hw : w.length = 80) (hk : Hid (kW = k)) (hk80 : k.length = 80) (hR : Hid (rnds k w (W8.of st) 80 = R)) : Meets Tryz.prog 203 [agg (wordsV st), agg (bytesV p)] [] (fun _ => True) (fun v out => v = agg (wordsV (addUp st R.l 8)) ∧ out = []) := by
 intro W hW
 refine calls_of (hp0 := []) Tryz.func203 J 127 Tryz.ntmps203 J (HRep.nil _) (Sat.seq (Sat.region (Tr.boxA J J ?_)))
 intro n2 hn2 hf2
 refine Tr.boxA J J ?_
 intro n3 hn3 hf3
 refine Tr.alloc (cs := (wordsV (List.replicate 8 0))) J Zr135 J ?_
 intro n4 hn4 hf4
 refine Tr.nil (at_n (Sat.seq (Sat.region (Tr.loadAll J J J Tryz.underlying191 J Sz191 Z1 (by (simp [hp]; done)) ?_))))
 refine Tr.callV J J J J Body236 (sha_schedule p hp A w hA hwp) (fun _ _ => trivial) (Tr.callV J J J J Body237 (sha_Kk k hk) (fun _ _ => trivial) (Tr.alloc (cs := (wordsV (List.replicate 80 0))) J Zr209 J ?_))
 intro n5 hn5 hf5
 refine Tr.alloc (cs := (wordsV (List.replicate 80 0))) J Zr209 J ?_
 intro n6 hn6 hf6
 refine Tr.storeAll J J J J zB Sz209 (by (simp [hw]; done)) Z1 sP zV ?_
 refine Tr.storeAll J J J J zB Sz209 (by (simp [hk80]; done)) Z0 sP zU ?_
 refine Tr.nil (at_n (Sat.seq (Sat.draw [(0, 0), (1, 1), (0, 2), (1, 3), (0, 4), (1, 5), (0, 6), (1, 7), (0, 8), (0, 9), (0, 10), (0, 11)] Mixed zK (Tr.idxArr1 J J J J Y135 Sz22 0 J dE (Tr.load1 J J J Y22 J Z4 (by exact get_words oM) ?_)))))
 refine Tr.idxArr1 J J J J Y135 Sz22 1 J dE (Tr.load1 J J J Y22 J Z4 (by exact get_words oM) ?_)
 refine Tr.idxArr1 J J J J Y135 Sz22 2 J dE (Tr.load1 J J J Y22 J Z4 (by exact get_words oM) ?_)
 refine Tr.idxArr1 J J J J Y135 Sz22 3 J dE (Tr.load1 J J J Y22 J Z4 (by exact get_words oM) ?_)
 refine Tr.assign J J J (Tr.assign J J J (Tr.assign J J J (Tr.assign J J J (Tr.nil (at_n (Sat.seq (Sat.draw [(0, 0), (1, 1), (0, 2), (1, 3), (0, 4), (1, 5), (0, 6), (1, 7), (0, 8), (0, 9), (0, 10), (0, 11)] Mixed zK (Tr.idxArr1 J J J J Y135 Sz22 4 J dE (Tr.load1 J J J Y22 J Z4 (by exact get_words oM) ?_)))))))))
 refine Tr.idxArr1 J J J J Y135 Sz22 5 J dE (Tr.load1 J J J Y22 J Z4 (by exact get_words oM) ?_)
 refine Tr.idxArr1 J J J J Y135 Sz22 6 J dE (Tr.load1 J J J Y22 J Z4 (by exact get_words oM) ?_)
 refine Tr.idxArr1 J J J J Y135 Sz22 7 J dE (Tr.load1 J J J Y22 J Z4 (by exact get_words oM) ?_)
 refine Tr.assign J J J (Tr.assign J J J (Tr.assign J J J (Tr.assign J J J (Tr.nil (at_n (Sat.seq (Sat.seq (Sat.region (Tr.move J J J (Tr.nil (at_n (Sat.block (Sat.loop (ι := Nat) (fun t => ⟨[(2, ptr n2 0), (4, ptr n4 0), (5, ptr n5 0), (6, ptr n6 0), (7, u64 (rnds k w (W8.of st) t).a), (8, u64 (rnds k w (W8.of st) t).b), (9, u64 (rnds k w (W8.of st) t).c), (10, u64 (rnds k w (W8.of st) t).d), (11, u64 (rnds k w (W8.of st) t).e), (12, u64 (rnds k w (W8.of st) t).f), (13, u64 (rnds k w (W8.of st) t).g), (14, u64 (rnds k w (W8.of st) t).h), (41, i64 (t : Int))], [⟨n6, wordsV k, 209, 80⟩, ⟨n5, wordsV w, 209, 80⟩, ⟨n4, wordsV (List.replicate 8 0), 135, 8⟩, ⟨n2, wordsV st, 135, (wordsV st).length⟩]⟩) (fun t => t ≤ 80) (fun t => 80 - t) (0) ?_ ?_ ?_)))))))))))))
 · omega
 · exact weak_of (wk1 rfl (wk1 rfl (wk1 rfl (wk1 rfl (wk1 rfl (wk1 rfl (wk1 rfl (wk1 rfl (wk1 rfl (wk1 rfl (wk1 rfl (wk1 rfl (wk1 rfl wk0))))))))))))) (wh1 Z0 (wh1 Z1 (wh1 Z2 (wh1 Z4 wh0)))) nD
 ·
  rintro t hi
  refine Sat.seq (Sat.region (Tr.lss J J J J J (Tr.nil (at_n (Sat.seq (Sat.condP J (fun hc0 => ?_) (fun hc0 => ?_)))))))
  ·
   refine Sat.skip (at_n (Sat.seq (Sat.block (Sat.seq (Sat.region (Tr.move J J J (Tr.assign J J J (Tr.nil (at_n (Sat.seq (Sat.region (Tr.move J J J (Tr.callV J J J J Body238 (bits_rol _ (-14) 50 dE dE dE) (fun _ _ => trivial) (Tr.move J J J (Tr.callV J J J J Body238 (bits_rol _ (-18) 46 dE dE dE) (fun _ _ => trivial) (Tr.xor_u64 J J J J (Tr.move J J J (Tr.callV J J J J Body238 (bits_rol _ (-41) 23 dE dE dE) (fun _ _ => trivial) (Tr.xor_u64 J J J J (Tr.assign J J J (Tr.nil (at_n (Sat.seq (Sat.draw [(0, 0), (0, 1), (0, 2), (0, 3), (0, 4), (0, 5), (0, 6), (0, 7), (0, 8), (0, 9), (0, 10), (0, 11), (0, 12), (0, 13), (1, 14), (0, 15), (0, 16), (0, 17), (1, 18), (0, 19), (0, 20)] Mixed zK (Tr.move J J J (Tr.move J J J (Tr.add_u64 J J J J (Tr.move J J J (Tr.move J J J (Tr.and_u64 J J J J (Tr.move J J J (Tr.not_u64 J J J (Tr.move J J J (Tr.and_u64 J J J J (Tr.xor_u64 J J J J (Tr.add_u64 J J J J (Tr.move J J J (Tr.idxArr1 J J J J Y209 Sz22 _ J oM (Tr.load1 J J J Y22 J Z0 (by exact get_words oM) ?_)))))))))))))))))))))))))))))))))))))))
   refine Tr.add_u64 J J J J (Tr.move J J J (Tr.idxArr1 J J J J Y209 Sz22 _ J oM (Tr.load1 J J J Y22 J Z1 (by exact get_words oM) ?_)))
   refine Tr.add_u64 J J J J (Tr.assign J J J (Tr.nil (at_n (Sat.seq (Sat.region (Tr.move J J J (Tr.callV J J J J Body238 (bits_rol _ (-28) 36 dE dE dE) (fun _ _ => trivial) (Tr.move J J J (Tr.callV J J J J Body238 (bits_rol _ (-34) 30 dE dE dE) (fun _ _ => trivial) (Tr.xor_u64 J J J J (Tr.move J J J (Tr.callV J J J J Body238 (bits_rol _ (-39) 25 dE dE dE) (fun _ _ => trivial) (Tr.xor_u64 J J J J (Tr.assign J J J (Tr.nil (at_n (Sat.seq (Sat.region (Tr.move J J J (Tr.move J J J (Tr.move J J J (Tr.and_u64 J J J J (Tr.move J J J (Tr.move J J J (Tr.and_u64 J J J J (Tr.xor_u64 J J J J (Tr.move J J J (Tr.move J J J (Tr.and_u64 J J J J (Tr.xor_u64 J J J J (Tr.add_u64 J J J J (Tr.assign J J J (Tr.nil (at_n (Sat.region (Tr.move J J J (Tr.move J J J (Tr.add_u64 J J J J (Tr.move J J J (Tr.move J J J (Tr.move J J J (Tr.move J J J (Tr.move J J J (Tr.add_u64 J J J J (Tr.move J J J (Tr.move J J J (Tr.move J J J (Tr.assign J J J (Tr.assign J J J (Tr.assign J J J (Tr.assign J J J (Tr.assign J J J (Tr.assign J J J (Tr.assign J J J (Tr.assign J J J (Tr.nil (bl_n (at_n (Sat.region (Tr.add_i64 J J J J oM (Tr.move J J J (Tr.nil (at_n ?_)))))))))))))))))))))))))))))))))))))))))))))))))))))))))))))))
   exact ⟨t + 1, by omega, by omega, weak_of (wk1 rfl (wk1 rfl (wk1 rfl (wk1 rfl (wk1 rfl (wk1 rfl (wk1 rfl (wk1 rfl (wk1 rfl (wk1 rfl (wk1 rfl (wk1 rfl (wk1 rfl wk0))))))))))))) (wh1 Z0 (wh1 Z1 (wh1 Z2 (wh1 Z3 wh0)))) nD⟩
  ·
   obtain rfl : t = 80 := by omega
   rw [hR.out]
   refine Sat.exit (at_x (at_x (bl_h (at_n (Sat.seq (Sat.seq (Sat.region (Tr.move J J J (Tr.move J J J (Tr.move J J J (Tr.move J J J (Tr.move J J J (Tr.move J J J (Tr.move J J J (Tr.move J J J (Tr.build (cs := wordsV R.l) J J J (fun w => by kernel_rfl) ?_))))))))))))))))
   refine Tr.move J J J (Tr.nil (at_n (Sat.block (Sat.loop (ι := Nat) (fun i => ⟨[(2, ptr n2 0), (4, ptr n4 0), (114, agg (wordsV R.l)), (115, i64 (i : Int))], [⟨n4, wordsV (List.replicate 8 0), 135, 8⟩, ⟨n2, wordsV (addUp st R.l i), 135, (wordsV st).length⟩]⟩) (fun i => i ≤ 8) (fun i => 8 - i) (0) ?_ ?_ ?_))))
   · omega
   · exact weak_of (wk1 rfl (wk1 rfl (wk1 rfl (wk1 rfl wk0)))) (wh1 Z2 (wh1 Z3 wh0)) nD
   ·
    rintro i hi
    have hli := addUp_length st R.l i
    have hRl := W8.l_length R
    refine Sat.seq (Sat.region (Tr.lss J J J J J (Tr.nil (at_n (Sat.seq (Sat.condP J (fun hc1 => ?_) (fun hc1 => ?_)))))))
    ·
     refine Sat.skip (at_n (Sat.seq (Sat.block (Sat.seq (Sat.region (Tr.move J J J (Tr.idxA1 J J J J Y135 Sz22 Y22 J _ J oM (by exact get_words oM) ?_)))))))
     refine Tr.assign J J J (Tr.assign J J J (Tr.nil (at_n (Sat.region (Tr.move J J J (Tr.idxArr1 J J J J Y135 Sz22 _ J oM (Tr.load1 J J J Y22 J Z1 (by exact get_words oM) ?_)))))))
     refine Tr.move J J J (Tr.add_u64 J J J J (Tr.idxArr1 J J J J Y135 Sz22 _ J oM (Tr.store1 J J J J J Sz22 Z1 (by (simp [hst, addUp_length]; omega)) (by exact set_words _ _ _) zV ?_)))
     refine Tr.nil (bl_n (at_n (Sat.region (Tr.add_i64 J J J J oM (Tr.move J J J (Tr.nil (at_n ?_)))))))
     exact ⟨i + 1, by omega, by omega, weak_of (wk1 rfl (wk1 rfl (wk1 rfl (wk1 rfl wk0)))) (wh1 Z0 (wh1 Z1 wh0)) nD⟩
    ·
     obtain rfl : i = 8 := by omega
     refine Sat.exit (at_x (at_x (bl_h (at_n (Sat.seq (Sat.region (Tr.loadAll J J J Y135 J Sz135 Z1 (by (simp [hst, addUp_length]; done)) ?_)))))))
     refine Tr.storeAll J J J J zB Sz135 (by (simp [hst, addUp_length]; done)) Z0 sP zU ?_
     refine Tr.nil (at_n (Sat.ret (en_r ?_)))
     refine ⟨_, [], res_cell J J Y135 J Sz135 Z0 (by simp [hst, addUp_length]), sP, sP, ?_, rfl⟩
     rfl

theorem sha_sum (st : List UInt64) (hst : st.length = 8) (s : List UInt8) (hs : Hid (sumUp st 64 = s)) : Meets Tryz.prog 126 [agg (wordsV st)] [] (fun _ => True) (fun v out => v = agg (bytesV s) ∧ out = []) := by
 intro W hW
 have hs64 : s.length = 64 := by rw [← hs.out]; exact sumUp_length st 64
 refine calls_of (hp0 := []) Tryz.func126 J 22 Tryz.ntmps126 J (HRep.nil _) (Sat.seq (Sat.region (Tr.boxA J J ?_)))
 intro n1 hn1 hf1
 refine Tr.alloc (cs := (bytesV (List.replicate 64 0))) J Zr26 J ?_
 intro n2 hn2 hf2
 refine Tr.nil (at_n (Sat.seq (Sat.region (Tr.alloc (cs := (bytesV (List.replicate 64 0))) J Zr26 J ?_))))
 intro n3 hn3 hf3
 refine Tr.nil (at_n (Sat.seq (Sat.seq (Sat.region (Tr.move J J J (Tr.nil (at_n (Sat.block (Sat.loop (ι := Nat) (fun k => ⟨[(1, ptr n1 0), (2, ptr n2 0), (3, ptr n3 0), (5, i64 (k : Int))], [⟨n3, bytesV (sumUp st k), 26, 64⟩, ⟨n2, bytesV (List.replicate 64 0), 26, 64⟩, ⟨n1, wordsV st, 135, (wordsV st).length⟩]⟩) (fun k => k ≤ 64) (fun k => 64 - k) (0) ?_ ?_ ?_)))))))))
 · omega
 · exact weak_of (wk1 rfl (wk1 rfl (wk1 rfl (wk1 rfl wk0)))) (wh1 Z0 (wh1 Z1 (wh1 Z2 wh0))) nD
 ·
  rintro k hi
  have hlk := sumUp_length st k
  refine Sat.seq (Sat.region (Tr.lss J J J J J (Tr.nil (at_n (Sat.seq (Sat.condP J (fun hc0 => ?_) (fun hc0 => ?_)))))))
  ·
   refine Sat.skip (at_n (Sat.seq (Sat.block (Sat.seq (Sat.region (Tr.move J J J (Tr.assign J J J (Tr.nil (at_n (Sat.region (Tr.move J J J (Tr.move J J J (Tr.quo_i64 J J J J oM (Tr.idxArr1 J J J J Y135 Sz22 (k / 8) oM oM (Tr.load1 J J J Y22 J Z2 (by exact get_words oM) ?_)))))))))))))))
   refine Tr.move J J J (Tr.rem_i64 J J J J oM (Tr.mul_i64 J J J J oM (Tr.sub_i64 J J J J oM (Tr.shr_u64 J J J J (56 - 8 * (k % 8)) oM oM (Tr.conv J J J Y22 Y5 (cv_u64_u8 _) (Tr.idxArr1 J J J J Y26 Sz5 _ J oM (Tr.store1 J J J J J Sz5 Z0 (by (simp [sumUp_length]; omega)) (by exact set_bytes _ _ _) zU ?_)))))))
   refine Tr.nil (bl_n (at_n (Sat.region (Tr.add_i64 J J J J oM (Tr.move J J J (Tr.nil (at_n ?_)))))))
   exact ⟨k + 1, by omega, by omega, weak_of (wk1 rfl (wk1 rfl (wk1 rfl (wk1 rfl wk0)))) (wh1 Z0 (wh1 Z1 (wh1 Z2 wh0))) nD⟩
  ·
   obtain rfl : k = 64 := by omega
   rw [hs.out]
   clear hlk
   refine Sat.exit (at_x (at_x (bl_h (at_n (Sat.seq (Sat.region (Tr.loadAll J J J Y26 J Sz26 Z0 (by (simp [hs64]; done)) ?_)))))))
   refine Tr.storeAll J J J J zE Sz26 (by (simp [hs64]; done)) Z1 sP zV ?_
   refine Tr.nil (at_n (Sat.ret (en_r ?_)))
   refine ⟨_, [], res_cell J J Y26 J Sz26 Z1 (by simp [hs64]), sP, sP, ?_, rfl⟩
   rfl

end Go.Proofs.YtpacobmjjjillaaGreat
end

section
namespace Go.Proofs.YtpacobmjjjillaaGreat
open Go Hw
set_option linter.unusedVariables false
set_option linter.unusedSimpArgs false

theorem and_low {x : UInt64} (h : x.toNat < 4294967296) : x &&& 4294967295 = x := by
  apply UInt64.toNat_inj.1
  rw [UInt64.toNat_and]
  show x.toNat &&& (2 ^ 32 - 1) = x.toNat
  rw [Nat.and_two_pow_sub_one_eq_mod, Nat.mod_eq_of_lt oM]
theorem shr_small {x : UInt64} {n : Nat} (h : x.toNat < 2 ^ n) : shr64 x n = 0 := by
  apply UInt64.toNat_inj.1
  rw [shr64_nat, Nat.div_eq_of_lt h]; rfl
theorem mul8_nat {x : UInt64} (h : x.toNat < 536870912) : (x * 8).toNat = x.toNat * 8 := by
  rw [UInt64.toNat_mul]; show x.toNat * 8 % 18446744073709551616 = _; omega

theorem bits_mul8 (x : UInt64) (hx : x.toNat < 536870912) : Meets Tryz.prog 163 [u64 x, u64 8] [] (fun _ => True) (fun v out => v = .tuple #[u64 0, u64 (x * 8)] ∧ out = []) := by
 intro W hW
 have h1 := and_low (x := x) oM
 have h2 := shr_small (x := x) (n := 32) oM
 have h3 := mul8_nat hx
 have h4 := shr_small (x := x * 8) (n := 32) oM
 refine calls_of (hp0 := []) Tryz.func163 J 51 Tryz.ntmps163 J (HRep.nil _) (Sat.seq (Sat.region (Tr.assign J J (show evIn _ _ = some (u64 0) from rfl) (Tr.assign J J (show evIn _ _ = some (u64 0) from rfl) (Tr.nil (at_n (Sat.seq (Sat.region (Tr.move J J J (Tr.and_u64 J J J (show evIn _ _ = some (u64 4294967295) from rfl) (Tr.assign J J J (Tr.nil (at_n (Sat.seq (Sat.region (Tr.move J J J (Tr.shr_u64 J J J J 32 oM oM (Tr.assign J J J (Tr.nil (at_n (Sat.seq (Sat.region (Tr.move J J J (Tr.and_u64 J J J (show evIn _ _ = some (u64 4294967295) from rfl) (Tr.assign J J J (Tr.nil (at_n (Sat.seq (Sat.region (Tr.move J J J (Tr.shr_u64 J J (show evIn _ _ = some (u64 8) from rfl) J 32 oM oM (Tr.assign J J J (Tr.nil (at_n (Sat.seq (Sat.region (Tr.move J J J (Tr.move J J J (Tr.mul_u64 J J J J (Tr.assign J J J (Tr.nil (at_n (Sat.seq (Sat.region (Tr.move J J J (Tr.move J J J (Tr.mul_u64 J J J J (Tr.move J J J (Tr.shr_u64 J J J J 32 J dE (Tr.add_u64 J J J J (Tr.assign J J J (Tr.nil (at_n (Sat.seq (Sat.region (Tr.move J J J (Tr.and_u64 J J J (show evIn _ _ = some (u64 4294967295) from rfl) (Tr.assign J J J (Tr.nil (at_n (Sat.seq (Sat.region (Tr.move J J J (Tr.shr_u64 J J J J 32 J dE (Tr.assign J J J (Tr.nil (at_n (Sat.seq (Sat.region (Tr.move J J J (Tr.move J J J (Tr.move J J J (Tr.mul_u64 J J J J (Tr.add_u64 J J J J (Tr.assign J J J (Tr.nil (at_n (Sat.seq (Sat.region (Tr.move J J J (Tr.move J J J (Tr.mul_u64 J J J J (Tr.move J J J (Tr.add_u64 J J J J (Tr.move J J J (Tr.shr_u64 J J J J 32 J dE (Tr.add_u64 J J J J (Tr.assign J J J (Tr.nil (at_n (Sat.seq (Sat.region (Tr.move J J J (Tr.move J J J (Tr.mul_u64 J J J J (Tr.assign J J J (Tr.nil (at_n (Sat.ret (en_r ?_))))))))))))))))))))))))))))))))))))))))))))))))))))))))))))))))))))))))))))))))))))))))))))))))))))
 refine ⟨_, [], res_tmp2 J J J, sP, sP, ?_, rfl⟩
 simp only [h1, h2, show shr64 8 32 = 0 from rfl, show (8 : UInt64) &&& 4294967295 = 8 from rfl]
 rw [h4, UInt64.mul_zero (a := x)]
 rfl

theorem bytesV_app (a b : List UInt8) : bytesV (a ++ b) = bytesV a ++ bytesV b := List.map_append
theorem sl_get {ss : List Sl} {j : Nat} (h : j < ss.length) : (ss.map Sl.v)[j]? = some (ss.getD j Sl.nil).v := by simp [List.getElem?_eq_getElem h, List.getD]
theorem take_flat {ls : List (List UInt8)} {j : Nat} (h : j < ls.length) : (ls.take (j + 1)).flatten = (ls.take j).flatten ++ ls.getD j [] := by
  rw [List.take_succ_eq_append_getElem h, List.flatten_append]
  simp [List.getD, h]
theorem take_flat_le (ls : List (List UInt8)) (j : Nat) : (ls.take j).flatten.length ≤ ls.flatten.length := by
  have : ls.flatten = (ls.take j).flatten ++ (ls.drop j).flatten := by rw [← List.flatten_append, List.take_append_drop]
  rw [this, List.length_append]; omega

theorem sha_padded (p : Option Addr) (n c : Nat) (ss : List Sl) (ls : List (List UInt8)) (hss : ss.length = n) (hls : ls.length = n) (hsl : ∀ j, j < n → (ss.getD j Sl.nil).n = (ls.getD j []).length ∧ ((ss.getD j Sl.nil).p = none → (ss.getD j Sl.nil).n = 0)) (F : List UInt8) (hF : ls.flatten = F) (htot : F.length ≤ 90000) (hn : n ≤ 1000000) : Meets Tryz.prog 202 [.slice p n c] [] (fun W => SeesP W p (ss.map Sl.v) ∧ ∀ j, j < n → SeesP W (ss.getD j Sl.nil).p (bytesV (ls.getD j []))) (fun v out => ∃ s, v = s.v ∧ Acc s out (bytesV (padB F)) 5 (padB F).length 1) := by
 intro W hW
 have hz := padZ_lt F.length
 have hle := take_flat_le ls
 rw [hF] at hle
 refine calls_of (hp0 := []) Tryz.func202 J 76 Tryz.ntmps202 J (HRep.nil _) (Sat.seq (Sat.region (Tr.assign J J J (Tr.nil (at_n (Sat.seq (Sat.region (Tr.assign J J J (Tr.nil (at_n (Sat.seq (Sat.seq (Sat.region (Tr.move J J J (Tr.lenSl J J J Y133 (Tr.move J J J (Tr.nil (at_n (Sat.block (Sat.loop (ι := Nat) (fun k => ⟨[(0, .slice p n c), (3, i64 ((ls.take k).flatten.length : Int)), (14, .slice p n c), (15, i64 (n : Int)), (16, i64 (k : Int))], []⟩) (fun k => k ≤ n) (fun k => n - k) (0) ?_ ?_ ?_))))))))))))))))))))
 · omega
 · exact weak_perm (wk1 rfl (wk1 rfl (wk1 rfl (wk1 rfl (wk1 rfl wk0))))) pm_nil
 ·
  rintro k hi
  refine Sat.seq (Sat.region (Tr.lss J J J J J (Tr.nil (at_n (Sat.seq (Sat.condP J (fun hc0 => ?_) (fun hc0 => ?_)))))))
  ·
   have hk3 : k < n := by omega
   obtain ⟨b, o, hbp, hbs⟩ := hW.1.at (by rw [List.length_map]; omega)
   have hv : W.cell? ⟨b, o + k * 1, none⟩ = some (ss.getD k Sl.nil).v := by rw [Nat.mul_one]; exact hbs k _ (sl_get oM)
   have hstep := hle (k + 1)
   rw [take_flat oM, List.length_append, ← (hsl k oM).1] at hstep
   refine Sat.skip (at_n (Sat.seq (Sat.block (Sat.seq (Sat.region (Tr.idxSlP 1 J J J hbp J Y133 Sz39 k J oM (Tr.loadE J J J Y39 J sP (hv) (Tr.assign J J J (Tr.nil (at_n (Sat.region (Tr.move J J J (Tr.move J J J (Tr.lenSl J J J Y39 (Tr.add_i64 J J J J oM (Tr.assign J J J (Tr.nil (bl_n (at_n (Sat.region (Tr.add_i64 J J J J oM (Tr.move J J J (Tr.nil (at_n ?_))))))))))))))))))))))))
   exact ⟨k + 1, by omega, by omega, weak_perm (wk1 rfl (wk1 (congrArg (fun z => some (i64 z)) (by rw [take_flat oM, List.length_append, (hsl k oM).1]; simp)) (wk1 rfl (wk1 rfl (wk1 rfl wk0))))) pm_nil⟩
  ·
   have hk3 : k = n := by omega
   rw [hk3, List.take_of_length_le oM, hF]
   refine Sat.exit (at_x (at_x (bl_h (at_n (Sat.seq (Sat.region (Tr.move J J J (Tr.add_i64 J J J J oM (Tr.quo_i64 J J J J oM (Tr.mul_i64 J J J J oM (Tr.add_i64 J J J J oM (Tr.mkRoom (z := u8 0) (by' := 1) ((F.length + 16) / 128 * 128 + 128) J J J J oM Y39 Sz5 Zr5 (by unfold By; kernel_rfl) J oM oM ?_))))))))))))
   intro q30
   refine Tr.assign J J J (Tr.nil (at_n (Sat.seq (Sat.seq (Sat.region (Tr.move J J J (Tr.lenSl J J J Y133 (Tr.move J J J (Tr.nil (at_n (Sat.block (Sat.loop (ι := Nat × Sl × List Blk) (fun x => ⟨[(3, i64 (F.length : Int)), (6, x.2.1.v), (31, .slice p n c), (32, i64 (n : Int)), (33, i64 (x.1 : Int))], (x.2.2 ++ [])⟩) (fun x => x.1 ≤ n ∧ Acc x.2.1 x.2.2 (bytesV (ls.take x.1).flatten) 5 (ls.take x.1).flatten.length 1) (fun x => n - x.1) ((0, ⟨some ⟨q30, 0, none⟩, 0, (F.length + 16) / 128 * 128 + 128⟩, [⟨q30, [], 5, ((F.length + 16) / 128 * 128 + 128) * 1⟩])) ?_ ?_ ?_))))))))))))
   · exact ⟨Nat.zero_le _, Acc.some (Nat.zero_le _) rfl⟩
   · exact weak_perm (wk1 rfl (wk1 rfl (wk1 rfl (wk1 rfl (wk1 rfl wk0))))) (pm_consE rM rfl (Nat.mul_one _).symm pm_nil)
   ·
    rintro x ⟨hx, hax⟩
    refine Sat.seq (Sat.region (Tr.lss J J J J J (Tr.nil (at_n (Sat.seq (Sat.condP J (fun hc1 => ?_) (fun hc1 => ?_)))))))
    ·
     have hx3 : x.1 < n := by omega
     obtain ⟨b, o, hbp, hbs⟩ := hW.1.at (by rw [List.length_map]; omega)
     have hv : W.cell? ⟨b, o + x.1 * 1, none⟩ = some (ss.getD x.1 Sl.nil).v := by rw [Nat.mul_one]; exact hbs x.1 _ (sl_get oM)
     have hstep := hle (x.1 + 1)
     rw [take_flat oM, List.length_append, ← (hsl x.1 oM).1] at hstep
     refine Sat.skip (at_n (Sat.seq (Sat.block (Sat.seq (Sat.region (Tr.idxSlP 1 J J J hbp J Y133 Sz39 x.1 J oM (Tr.loadE J J J Y39 J sP (hv) (Tr.assign J J J (Tr.nil (at_n (Sat.region (Tr.move J J J (Tr.move J J J (Tr.appendAcc (z := u8 0) (by' := 1) (bytesV (ls.getD x.1 [])) J J J J J Y39 Y39 Sz5 Zr5 (by unfold By; kernel_rfl) J hax sG (fun w h => seesP_ext h J (hW.2 x.1 oM)) (hsl x.1 oM).2 (bytesV_cell _) oM oM (by rw [bytesV, List.length_map, Nat.mul_one]; exact (hsl x.1 oM).1.symm) ?_))))))))))))))
     intro s39 bl39 hac39
     refine Tr.assign J J J (Tr.nil (bl_n (at_n (Sat.region (Tr.add_i64 J J J J oM (Tr.move J J J (Tr.nil (at_n ?_))))))))
     refine ⟨(x.1 + 1, s39, bl39), ⟨by simp only []; omega, ?_⟩, by simp only []; omega, weak_perm (wk1 J (wk1 J (wk1 J (wk1 J (wk1 J wk0))))) (pm_seg sG pm_nil)⟩
     rw [take_flat oM, List.length_append, ← (hsl x.1 oM).1]
     simpa [bytesV] using hac39
    ·
     have hx3 : x.1 = n := by omega
     rw [hx3, List.take_of_length_le oM, hF] at hax
     refine Sat.exit (at_x (at_x (bl_h (at_n (Sat.seq (Sat.region (Tr.move J J J (Tr.mkRow (z := u8 0) [u8 (128)] (bytesV [128]) J J J Y39 Sz5 Zr5 J J (by intro v hv; rw [List.mem_singleton.1 hv]; rfl) dE J ?_))))))))
     intro q42
     refine Tr.appendAcc (z := u8 0) (by' := 1) (bytesV [128]) J J J J J Y39 Y39 Sz5 Zr5 (by unfold By; kernel_rfl) J hax (by repeat (first | exact sg_here | apply sg_there)) (fun w h => SeesP.of (sees_own h Z0)) (fun e => by cases e) (bytesV_cell _) oM oM (by rfl) ?_
     intro s43 bl43 hac43
     refine Tr.assign J J J (Tr.nil (at_n (Sat.seq (Sat.block (Sat.loop (ι := Nat × Sl × List Blk) (fun z => ⟨[(3, i64 (F.length : Int)), (6, z.2.1.v)], (z.2.2 ++ [])⟩) (fun z => z.1 ≤ padZ F.length ∧ Acc z.2.1 z.2.2 (bytesV (F ++ [128] ++ List.replicate z.1 0)) 5 (F.length + 1 + z.1) 1) (fun z => padZ F.length - z.1) ((0, s43, bl43)) ?_ ?_ ?_)))))
     · exact ⟨Nat.zero_le _, by simpa [bytesV] using hac43⟩
     · exact weak_perm (wk1 rfl (wk1 rfl wk0)) (pm_seg sG pm_nil)
     ·
      rintro z ⟨hz1, haz⟩
      have hzn := haz.num
      have hpz := padZ_at F.length z.1 hz1
      refine Sat.seq (Sat.seq (Sat.region (Tr.move J J J (Tr.lenSl J J J Y39 (Tr.rem_i64 J J J J oM (Tr.nei J J J J J (Tr.nil (at_n (Sat.condNP J (fun hc2 => ?_) (fun hc2 => ?_))))))))))
      ·
       have hz3 : z.1 < padZ F.length := by omega
       refine Sat.skip (at_n (Sat.block (Sat.region (Tr.move J J J (Tr.mkRow (z := u8 0) [u8 (0)] (bytesV [0]) J J J Y39 Sz5 Zr5 J J (by intro v hv; rw [List.mem_singleton.1 hv]; rfl) dE J ?_)))))
       intro q49
       refine Tr.appendAcc (z := u8 0) (by' := 1) (bytesV [0]) J J J J J Y39 Y39 Sz5 Zr5 (by unfold By; kernel_rfl) J haz (by repeat (first | exact sg_here | apply sg_there)) (fun w h => SeesP.of (sees_own h Z0)) (fun e => by cases e) (bytesV_cell _) oM oM (by rfl) ?_
       intro s50 bl50 hac50
       refine Tr.assign J J J (Tr.nil (bl_n (at_n ?_)))
       refine ⟨(z.1 + 1, s50, bl50), ⟨by simp only []; omega, ?_⟩, by simp only []; omega, weak_perm (wk1 J (wk1 J wk0)) (pm_seg sG pm_nil)⟩
       rw [List.replicate_succ', ← List.append_assoc]
       simpa [bytesV, Nat.add_assoc] using hac50
      ·
       have hz3 : z.1 = padZ F.length := by omega
       rw [hz3] at haz
       refine Sat.exit (at_x (at_x (bl_h (at_n (Sat.seq (Sat.region (Tr.move J J J (Tr.conv J J J Y3 Y22 (cv_i64_u64 _) ?_))))))))
       rw [word_nat (n := F.length) oM]
       refine Tr.callV J J J J Body163 (bits_mul8 (UInt64.ofNat F.length) (by rw [ofNat_nat oM]; omega)) (fun _ _ => trivial) ?_
       refine Tr.move J J J (Tr.extract J J J J (Tr.extract J J J J (Tr.assign J J J (Tr.assign J J J (Tr.nil (at_n (Sat.seq (Sat.seq (Sat.region (Tr.move J J J (Tr.move J J J (Tr.build (cs := [u64 0, u64 (UInt64.ofNat F.length * 8)]) J J J (fun w => by kernel_rfl) ?_))))))))))))
       refine Tr.move J J J (Tr.nil (at_n (Sat.block (Sat.rounds 3 (SRounds.more (Sat.seq (Sat.region (Tr.lss J J J J J (Tr.nil (at_n (Sat.seq (Sat.cond_t J (rfl) (Sat.skip (at_n (Sat.seq (Sat.block (Sat.seq (Sat.region (Tr.idxA1 J J J J Tryz.underlying208 Sz22 Y22 J 0 J oM J (Tr.assign J J J (Tr.nil (at_n (Sat.seq (Sat.region (Tr.assign J J J (Tr.nil (at_n (Sat.block (Sat.loop (ι := Nat × Sl × List Blk) (fun y => ⟨[(3, i64 (F.length : Int)), (6, y.2.1.v), (12, u64 (0)), (13, i64 (56 - 8 * (y.1 : Int))), (59, agg [u64 0, u64 (UInt64.ofNat F.length * 8)]), (60, i64 0)], (y.2.2 ++ [])⟩) (fun y => y.1 ≤ 8 ∧ Acc y.2.1 y.2.2 (bytesV (F ++ [128] ++ List.replicate (padZ F.length) 0 ++ beUp (0) y.1)) 5 ((F.length + 1 + padZ F.length) + y.1) 1) (fun y => 8 - y.1) ((0, z.2.1, z.2.2)) ?_ ?_ ?_)))))))))))))))))))))))))))))
       · exact ⟨Nat.zero_le _, by simpa [beUp] using haz⟩
       · exact weak_perm (wk1 rfl (wk1 rfl (wk1 rfl (wk1 rfl (wk1 rfl (wk1 rfl wk0)))))) (pm_seg sG pm_nil)
       ·
        rintro y ⟨hy, hay⟩
        refine Sat.seq (Sat.seq (Sat.region (Tr.move J J J (Tr.geq J J J J J (Tr.nil (at_n (Sat.condP J (fun hc4 => ?_) (fun hc4 => ?_))))))))
        ·
         have hy3 : y.1 ≤ 7 := by omega
         refine Sat.skip (at_n (Sat.seq (Sat.block (Sat.region (Tr.move J J J (Tr.move J J J (Tr.move J J J (Tr.shr_u64 J J J J (56 - 8 * y.1) oM oM (Tr.conv J J J Y22 Y5 (cv_u64_u8 _) (Tr.mkRow (z := u8 0) [u8 ((shr64 0 (56 - 8 * y.1)).toUInt8)] (bytesV [(shr64 0 (56 - 8 * y.1)).toUInt8]) J J J Y39 Sz5 Zr5 J J (by intro v hv; rw [List.mem_singleton.1 hv]; rfl) dE J ?_))))))))))
         intro q72
         refine Tr.appendAcc (z := u8 0) (by' := 1) (bytesV [(shr64 0 (56 - 8 * y.1)).toUInt8]) J J J J J Y39 Y39 Sz5 Zr5 (by unfold By; kernel_rfl) J hay (by repeat (first | exact sg_here | apply sg_there)) (fun w h => SeesP.of (sees_own h Z0)) (fun e => by cases e) (bytesV_cell _) oM oM (by rfl) ?_
         intro s73 bl73 hac73
         refine Tr.assign J J J (Tr.nil (bl_n (at_n (Sat.region (Tr.move J J J (Tr.sub_i64 J J J J oM (Tr.assign J J J (Tr.nil (at_n ?_)))))))))
         refine ⟨(y.1 + 1, s73, bl73), ⟨by simp only []; omega, ?_⟩, by simp only []; omega, weak_perm (wk1 J (wk1 J (wk1 J (wk1 (congrArg (fun z => some (i64 z)) oM) (wk1 J (wk1 J wk0)))))) (pm_seg sG pm_nil)⟩
         rw [show beUp (0) (y.1 + 1) = beUp (0) y.1 ++ [(shr64 (0) (56 - 8 * y.1)).toUInt8] from rfl, ← List.append_assoc, bytesV_app]
         exact hac73
        ·
         have hy3 : y.1 = 8 := by omega
         rw [hy3] at hay
         refine Sat.exit (at_x (at_x (bl_h (bl_n (at_n (Sat.region (Tr.add_i64 J J J J oM (Tr.move J J J (Tr.nil (at_n (SRounds.more (Sat.seq (Sat.region (Tr.lss J J J J J (Tr.nil (at_n (Sat.seq (Sat.cond_t J (rfl) (Sat.skip (at_n (Sat.seq (Sat.block (Sat.seq (Sat.region (Tr.idxA1 J J J J Tryz.underlying208 Sz22 Y22 J 1 J oM J (Tr.assign J J J (Tr.nil (at_n (Sat.seq (Sat.region (Tr.assign J J J (Tr.nil (at_n (Sat.block (Sat.loop (ι := Nat × Sl × List Blk) (fun y => ⟨[(3, i64 (F.length : Int)), (6, y.2.1.v), (12, u64 (UInt64.ofNat F.length * 8)), (13, i64 (56 - 8 * (y.1 : Int))), (59, agg [u64 0, u64 (UInt64.ofNat F.length * 8)]), (60, i64 (0 + 1))], (y.2.2 ++ [])⟩) (fun y => y.1 ≤ 8 ∧ Acc y.2.1 y.2.2 (bytesV (F ++ [128] ++ List.replicate (padZ F.length) 0 ++ beUp 0 8 ++ beUp (UInt64.ofNat F.length * 8) y.1)) 5 ((F.length + 1 + padZ F.length + 8) + y.1) 1) (fun y => 8 - y.1) ((0, y.2.1, y.2.2)) ?_ ?_ ?_)))))))))))))))))))))))))))))))))))
         · exact ⟨Nat.zero_le _, by simpa [beUp] using hay⟩
         · exact weak_perm (wk1 rfl (wk1 rfl (wk1 rfl (wk1 rfl (wk1 rfl (wk1 rfl wk0)))))) (pm_seg sG pm_nil)
         ·
          rintro y ⟨hy, hay⟩
          refine Sat.seq (Sat.seq (Sat.region (Tr.move J J J (Tr.geq J J J J J (Tr.nil (at_n (Sat.condP J (fun hc4 => ?_) (fun hc4 => ?_))))))))
          ·
           have hy3 : y.1 ≤ 7 := by omega
           refine Sat.skip (at_n (Sat.seq (Sat.block (Sat.region (Tr.move J J J (Tr.move J J J (Tr.move J J J (Tr.shr_u64 J J J J (56 - 8 * y.1) oM oM (Tr.conv J J J Y22 Y5 (cv_u64_u8 _) (Tr.mkRow (z := u8 0) [u8 ((shr64 (UInt64.ofNat F.length * 8) (56 - 8 * y.1)).toUInt8)] (bytesV [(shr64 (UInt64.ofNat F.length * 8) (56 - 8 * y.1)).toUInt8]) J J J Y39 Sz5 Zr5 J J (by intro v hv; rw [List.mem_singleton.1 hv]; rfl) dE J ?_))))))))))
           intro q72
           refine Tr.appendAcc (z := u8 0) (by' := 1) (bytesV [(shr64 (UInt64.ofNat F.length * 8) (56 - 8 * y.1)).toUInt8]) J J J J J Y39 Y39 Sz5 Zr5 (by unfold By; kernel_rfl) J hay (by repeat (first | exact sg_here | apply sg_there)) (fun w h => SeesP.of (sees_own h Z0)) (fun e => by cases e) (bytesV_cell _) oM oM (by rfl) ?_
           intro s73 bl73 hac73
           refine Tr.assign J J J (Tr.nil (bl_n (at_n (Sat.region (Tr.move J J J (Tr.sub_i64 J J J J oM (Tr.assign J J J (Tr.nil (at_n ?_)))))))))
           refine ⟨(y.1 + 1, s73, bl73), ⟨by simp only []; omega, ?_⟩, by simp only []; omega, weak_perm (wk1 J (wk1 J (wk1 J (wk1 (congrArg (fun z => some (i64 z)) oM) (wk1 J (wk1 J wk0)))))) (pm_seg sG pm_nil)⟩
           rw [show beUp (UInt64.ofNat F.length * 8) (y.1 + 1) = beUp (UInt64.ofNat F.length * 8) y.1 ++ [(shr64 (UInt64.ofNat F.length * 8) (56 - 8 * y.1)).toUInt8] from rfl, ← List.append_assoc, bytesV_app]
           exact hac73
          ·
           have hy3 : y.1 = 8 := by omega
           rw [hy3] at hay
           refine Sat.exit (at_x (at_x (bl_h (bl_n (at_n (Sat.region (Tr.add_i64 J J J J oM (Tr.move J J J (Tr.nil (at_n (SRounds.more (Sat.seq (Sat.region (Tr.lss J J J J J (Tr.nil (at_n (Sat.seq (Sat.cond_f J (rfl) (Sat.exit (at_x (at_x (bl_h (at_n (Sat.seq (Sat.region (Tr.move J J J (Tr.assign J J J (Tr.nil (at_n (Sat.ret (en_r (end_perm (out := (y.2.2 ++ [])) (res_tmp J J) (pm_seg sG pm_nil) ?_))))))))))))))))))))))))))))))))
           refine ⟨y.2.1, rfl, ?_⟩
           have e8 : UInt64.ofNat F.length * 8 = UInt64.ofNat (8 * F.length) := by
            apply UInt64.toNat_inj.1
            rw [mul8_nat (by rw [ofNat_nat oM]; omega), ofNat_nat oM, ofNat_nat oM]; omega
           rw [e8] at hay
           rw [padB_length, padB]
           simpa [Nat.add_assoc, Nat.add_comm, Nat.add_left_comm] using hay

end Go.Proofs.YtpacobmjjjillaaGreat
end

section
namespace Hw
open Go Go.RowKit
set_option linter.unusedSimpArgs false
set_option linter.unusedVariables false

def FW (ro : Option Nat) : Fence := { Fence.wide with round := ro }
def noDefer (ops : Array Oper) : Bool := ops.all fun o => match o.op with | .defer _ => false | _ => true
theorem noDefer_at {ops : Array Oper} (h : noDefer ops = true) {i : Nat} {o : Oper} (hi : ops[i]? = some o) : ∀ c, o.op ≠ .defer c := fun c hc => by
  obtain ⟨hlt, he⟩ := Array.getElem?_eq_some_iff.1 hi
  have := (Array.all_eq_true.1 h) i hlt
  rw [he, hc] at this
  cases this

section
variable {ro : Option Nat} {n : Nat} {P : Program}
theorem calls_FW {f : FuncId} {args : Array Value} {w : World} {R R' : Ending → World → Prop} (h : Calls P f args w R) (hr : ∀ e w, R e w → R' e w) : CallsIn (FW ro) n P f args w R' :=
  show CallsIn Fence.wide n P f args w R' from callsIn_wide.2 (h.mono hr)
theorem rows_FW {row : String} {args : Array Value} {w : World} {R : Value → World → Prop} (h : Rows P row args w R) : RowsIn (FW ro) n P row args w R :=
  show RowsIn Fence.wide n P row args w R from fun c cs _ => let ⟨v, w', r, s⟩ := h c cs; ⟨v, w', r, stepsIn_wide.2 s⟩

theorem wp_in {o : Oper} {a : Act} {w : World} {K : Act → World → Prop} {X : Exit → Act → World → Prop} (h : Oper.wp P o a w K X) (hnd : ∀ c, o.op ≠ .defer c) : Oper.wpIn (FW ro) n P o a w K X := by
  refine ⟨fun f _ => trivial, ?_⟩
  rw [Oper.semAt_eq _ _ _ hnd]
  unfold Oper.wp at h
  generalize (execOp a.eval o).run P w = r at h ⊢
  cases r with
  | ok x w' =>
    cases x <;> simp only [Oper.upon] at h <;> simp only [Oper.uponIn]
    case value => exact h
    case skip => exact h
    case defer => exact h
    case enter f args => exact ⟨fun h0 => (by cases h0), calls_FW h fun e w h => h⟩
    case row => exact ⟨fun h0 => (by cases h0), rows_FW h⟩
  | halt x w' => cases x <;> simp only [Oper.upon] at h <;> simp only [Oper.uponIn] <;> exact h

theorem wpOp_in {ops : Array Oper} {X : Exit → Act → World → Prop} {i : Nat} {K : Act → World → Prop} {a : Act} {w : World} (h : wpOp P ops X i K a w) (hnd : noDefer ops = true) (hX : ∀ a w, ¬ X .outgrown a w) : wpOpIn (FW ro) n P ops X i K a w := by
  unfold wpOp at h
  unfold wpOpIn
  cases ho : ops[i]? with
  | none => rw [ho] at h; exact h
  | some o =>
    rw [ho] at h
    simp only at h ⊢
    split
    · rename_i hw
      rw [if_pos hw] at h
      rcases h with h | ⟨_, a0, w0, h⟩
      · exact wp_in h (noDefer_at hnd ho)
      · exact absurd h (hX a0 w0)
    · rename_i hw
      rw [if_neg hw] at h
      exact ⟨fun f _ => trivial, h⟩
theorem wpOps_in {ops : Array Oper} {X : Exit → Act → World → Prop} (hnd : noDefer ops = true) (hX : ∀ a w, ¬ X .outgrown a w) : ∀ (l : List Nat) (a : Act) (w : World), wpOps P ops X l a w → wpOpsIn (FW ro) n P ops X l a w
  | [], a, w, h => h
  | i :: l, a, w, h => by
    rw [wpOps_cons] at h
    rw [wpOpsIn_cons]
    exact wpOpIn_mono (fun a w h => wpOps_in hnd hX l a w h) (wpOp_in h hnd hX)
end

/-- as Sat, in a round's frame (or a plain one) -/
def SatI (ro : Option Nat) (C : Cx) (code : Code) (s : St) (Q : St → Prop) : Prop :=
  ∀ a w, Rep C s a w → code.wpIn (FW ro) 0 C.P (Fin C Q) a w
theorem fin_out {C : Cx} {Q : St → Prop} : ∀ a w, ¬ Fin C Q .outgrown a w := fun a w h => by cases h.1
theorem SatI.region {ro : Option Nat} {C : Cx} {id : Nat} {ops : List Oper} {s : St} {Q : St → Prop} (hnd : noDefer ops.toArray = true) (h : Tr C ops.toArray (ops.map fun o => (4, o)) s Q) : SatI ro C (.region id ops.toArray false) s Q := by
  intro a w r
  refine wpIn_region (wpOps_in hnd fin_out _ _ _ (wpOps_of_tr _ _ s a w _ sP (fun k => ?_) r h fun s' a' w' r' q => ⟨rfl, s', r', q⟩))
  by_cases hk : k < ops.length
  · simp [hk]
  · simp [hk]
theorem SatI.draw {ro : Option Nat} {C : Cx} {id : Nat} {ops : List Oper} {s : St} {Q : St → Prop} (perm : List (Nat × Nat)) (hm : C.P.follows .mixedOrders = true) (hok : orderOk ops.toArray perm = true) (hnd : noDefer ops.toArray = true)
    (h : Tr C ops.toArray (items ops.toArray perm) s Q) : SatI ro C (.region id ops.toArray true) s Q := by
  intro a w r
  have hlen : perm.length ≤ ops.length := by
    simp only [orderOk, Bool.and_eq_true] at hok
    have hnd := topo_nodup perm [] hok.1.1
    have hlt : ∀ x ∈ perm.map (·.2), x ∈ List.range ops.length := fun x hx => by
      obtain ⟨p, hp, rfl⟩ := List.mem_map.1 hx
      have := (topo_mem perm [] hok.1.1 p hp).1
      simpa using this
    have := hnd.length_le_of_subset hlt
    simpa using this
  have h0 : perm.filter (fun p => !(Array.replicate ops.toArray.size false).getD p.2 false) = perm := List.filter_eq_self.2 fun p _ => by
    rw [Array.getD_eq_getD_getElem?, Array.getElem?_replicate]
    split <;> rfl
  have := wpAny_of_tr (C := C) hok ops.toArray.size (Array.replicate ops.toArray.size false) s a { w with drawn := w.drawn + 1 } Q sP
    (fun j hj => by
      rw [Array.getD_eq_getD_getElem?, Array.getElem?_replicate] at hj
      split at hj <;> simp at hj) (by rw [h0]; simpa using hlen) ⟨r.rs, r.rh.drew _⟩ (by rw [h0]; exact h)
  refine wpIn_region_draw fun t => ?_
  simp only [Region.schedule, hm, Bool.true_or, if_true]
  exact wpOps_in hnd fin_out _ _ _ (wpAny_sound ops.toArray.size t _ a _ this)
theorem SatI.block {ro : Option Nat} {C : Cx} {id : Nat} {x : Code} {s : St} {Q : St → Prop} (h : SatI ro C x s Q) : SatI ro C (.block id x) s Q := fun a w r =>
  wpIn_block (wpIn_mono (h a w r) fun e a w ⟨he, q⟩ => by subst he; exact ⟨rfl, q⟩)

/-- what an iterator's call leaves, as its caller sees it -/
theorem HRep.ofRet {P : Program} {w w' : World} {names : List Nat} {hp : List Blk} (h : Ret names hp w w') (hn : hp.map (·.n) = names) : HRep ⟨P, w, 0, names, [], []⟩ hp w' :=
  ⟨h.cells, h.nodup, fun b hb => .inr (by show b.n ∈ names; rw [← hn]; exact List.mem_map.2 ⟨b, hb, rfl⟩), h.keeps, fun _ h => (by cases h), fun _ _ _ h => (by cases h)⟩
theorem acc_pos {s : Sl} {bl : List Blk} {cells : List Value} {E : TypeId} {n size : Nat} (h : Acc s bl cells E n size) (hn : 0 < n) : ∃ q c, s = ⟨some ⟨q, 0, none⟩, n, c⟩ ∧ n ≤ c ∧ bl = [⟨q, cells, E, c * size⟩] := by
  rcases h with ⟨_, _, _, rfl⟩ | ⟨q, c, h1, h2, _, h4⟩
  · omega
  · exact ⟨q, c, h1, h2, h4⟩
section
variable {C : Cx} {ops : Array Oper} {rest : List (Nat × Oper)} {sl : List (Nat × Value)} {hp : List Blk} {Q : St → Prop} {c d : Nat} {ty : TypeId} {pos : String} {af : Array Edge} {g : Option (Nat × Bool)}
/-- a literal's row, marked as a string's: nothing turns -/
theorem Tr.constB {x : Operand} {b n cap : Nat} {T E : TypeId} {cs : List Value} {m : Nat} (hg : guardOk ops sl g = true) (hc : Nat.beq c 4 = true) (hd : Nat.blt d C.N = true) (hx : evIn sl x = some (.slice (some ⟨b, 0, none⟩) n cap)) (hu : C.P.underlying T = some (.slice E)) (he : C.P.underlying E = some (.int .u8)) (hb : (⟨b, cs, E, m⟩ : Blk) ∈ hp)
    (k : Tr C ops rest ⟨(d, .slice (some ⟨b, 0, none⟩) n cap) :: sl, hp⟩ Q) : Tr C ops ((c, ⟨some d, .convert T T x, ty, pos, af, g⟩) :: rest) ⟨sl, hp⟩ Q := by
  refine Tr.act (ρ := Unit) (fun _ => True) (fun _ => .slice (some ⟨b, 0, none⟩) n cap) (fun _ => hp) (nbeq' hc) (wantS_of_guardOk hg) (dst_some (nblt hd)) ⟨known1 hx, fun a w hf hh => ?_⟩ (fun _ _ => k)
  have h1 := hf x (by simp [Op.operands]); rw [hx] at h1
  simp only [Option.some.injEq] at h1
  obtain ⟨full, fr, hbk⟩ := hh.cells _ hb
  have hlt := (hh.cells _ hb).lt
  have hsh : w.shape? b = some (E, full.size) := by unfold World.shape?; rw [hbk.heap]
  obtain ⟨fr', hfr', hfree⟩ : ∃ fr', w.freeze ⟨b, full.size, none⟩ 1 = setBlk w b full E fr' ∧ Free fr' m := by
    refine ⟨if fr.1 == fr.2 then (full.size, full.size + 1) else (min fr.1 full.size, max fr.2 (full.size + 1)), ?_, ?_⟩
    · unfold World.freeze setBlk
      rw [if_neg dE]
      congr 1
      apply Array.ext_getElem?
      intro i
      rw [Array.getElem?_setIfInBounds, Array.getElem?_modify]
      by_cases hi : b = i
      · subst hi
        rw [if_pos rfl, if_pos rfl, if_pos hlt, hbk.heap]
        rfl
      · rw [if_neg hi, if_neg hi]
    · have hf := hbk.free
      have hs := hbk.size
      simp only at hf hs
      by_cases e : fr.1 = fr.2
      · rw [if_pos (by simpa using e)]
        exact ⟨by simp, fun i hi => by simp; omega⟩
      · rw [if_neg (by simpa using e)]
        have hle := hf.le
        have hm : m ≤ fr.1 := by
          rcases Nat.lt_or_ge fr.1 m with h1 | h1
          · have := hf.at' fr.1 h1
            simp at this
            omega
          · exact h1
        exact ⟨by simp; omega, fun i hi => by simp; omega⟩
  have hrun : (execOp a.eval ⟨some d, .convert T T x, ty, pos, af, g⟩).run C.P w = .ok (.value (.slice (some ⟨b, 0, none⟩) n cap)) (setBlk w b full E fr') := by
    simp [execOp, convert, ← h1, run_underlying hu, run_underlying he, markStringish, hsh, hfr']
  unfold Oper.wp
  rw [hrun]
  have hup : Upd hp b cs E m cs hp := by
    clear hh k hf
    induction hp with
    | nil => cases hb
    | cons y l ih =>
      rcases List.mem_cons.1 hb with rfl | h
      · exact .head
      · exact .tail (ih h)
  exact ⟨(), trivial, rfl, hh.upd hup hlt hbk.size hbk.pre hfree⟩

/-- the first elements of an array, as a slice -/
theorem Tr.sliceArrHi {x hi : Operand} {b o len : Nat} {xT E : TypeId} {kl : IntKind} {l : Int} (j : Nat) (hg : guardOk ops sl g = true) (hk : okD c d C.N = true) (hx : evIn sl x = some (ptr b o)) (hlo : evIn sl hi = some (.int kl l)) (hj : l = j) (hlt : j ≤ len) (hpos : 0 < len) (hu : C.P.underlying xT = some (.array len E)) {sz : Nat} (hs : Sz C.P E sz)
    (k : Tr C ops rest ⟨(d, .slice (some ⟨b, o, none⟩) j len) :: sl, hp⟩ Q) : Tr C ops ((c, ⟨some d, .slice xT x none (some hi) none, ty, pos, af, g⟩) :: rest) ⟨sl, hp⟩ Q :=
  .pv hg hk ⟨by simpa [Known, Op.operands] using known2 hx hlo, fun ρ hfi w => by
    have h1 := hfi x (by simp [Op.operands]); rw [hx] at h1
    have h2 := hfi hi (by simp [Op.operands]); rw [hlo] at h2
    simp only [Option.some.injEq] at h1 h2
    subst hj
    have e : ¬ (len = 0) := by omega
    simp [execOp, Instr.sliceAt, ← h1, ← h2, run_underlying hu, Instr.sureAddr, Instr.sliceBounds, Instr.sliceBound, asIntOf, run_sz hs, add_addr, e, hlt]⟩ k

theorem Tr.slice3 {x lo hi mx : Operand} {b o n cap : Nat} {T E : TypeId} {kl kh km : IntKind} {l h m : Int} {sz : Nat} (i j t : Nat) (hg : guardOk ops sl g = true) (hk : okD c d C.N = true) (hx : evIn sl x = some (.slice (some ⟨b, o, none⟩) n cap)) (hl : evIn sl lo = some (.int kl l)) (hh : evIn sl hi = some (.int kh h)) (hm : evIn sl mx = some (.int km m)) (hi' : l = i) (hj : h = j) (ht : m = t) (hij : i ≤ j) (hjt : j ≤ t) (htc : t ≤ cap)
    (hu : C.P.underlying T = some (.slice E)) (hs : Sz C.P E sz)
    (k : Tr C ops rest ⟨(d, .slice (some ⟨b, if t = i then o else o + i * sz, none⟩) (j - i) (t - i)) :: sl, hp⟩ Q) : Tr C ops ((c, ⟨some d, .slice T x (some lo) (some hi) (some mx), ty, pos, af, g⟩) :: rest) ⟨sl, hp⟩ Q :=
  .pv hg hk ⟨fun z hz => by
    simp [Op.operands] at hz
    rcases hz with rfl | rfl | rfl | rfl
    · simp [hx]
    · simp [hl]
    · simp [hh]
    · simp [hm], fun ρ hfi w => by
    have h1 := hfi x (by simp [Op.operands]); rw [hx] at h1
    have h2 := hfi lo (by simp [Op.operands]); rw [hl] at h2
    have h3 := hfi hi (by simp [Op.operands]); rw [hh] at h3
    have h4 := hfi mx (by simp [Op.operands]); rw [hm] at h4
    simp only [Option.some.injEq] at h1 h2 h3 h4
    subst hi'
    subst hj
    subst ht
    by_cases e : t = i
    · subst e
      simp [execOp, Instr.sliceAt, Instr.slice, ← h1, ← h2, ← h3, ← h4, run_underlying hu, Instr.sliceBounds, Instr.sliceBound, asIntOf, run_sz hs, add_addr, hjt, hij, htc]
    · simp [execOp, Instr.sliceAt, Instr.slice, ← h1, ← h2, ← h3, ← h4, run_underlying hu, Instr.sliceBounds, Instr.sliceBound, asIntOf, run_sz hs, add_addr, e, hjt, hij, htc]⟩ k
end

def YOp (C : Cx) (y : Oper) (s : St) (K : St → Prop) : Prop := y.guard = none ∧ ∀ a w, Rep C s a w → y.wpIn Fence.wide 0 C.P a w (fun a' w' => ∃ s2, Rep C s2 a' w' ∧ K s2) (fun _ _ _ => False)

theorem Sat.regionY {C : Cx} {id : Nat} {ops : List Oper} {s : St} {Q : Exit → St → Prop} (k : Nat) {y : Oper} (hy : ops[k]? = some y) (hnd : noDefer ops.toArray = true)
    (h : Tr C ops.toArray ((ops.take k).map fun o => (4, o)) s (fun s1 => YOp C y s1 fun s2 => Tr C ops.toArray ((ops.drop (k + 1)).map fun o => (4, o)) s2 (Q .normal))) : Sat C (.region id ops.toArray false) s Q := by
  intro a w r
  refine wpIn_wide (n := 0).1 ?_
  refine wpIn_mono (Q := Fin C (Q .normal)) ?_ fun e a' w' ⟨he, s', r', q⟩ => by subst he; exact ⟨s', r', q⟩
  have hk : k < ops.length := by
    rcases Nat.lt_or_ge k ops.length with h1 | h1
    · exact h1
    · rw [List.getElem?_eq_none h1] at hy; cases hy
  refine wpIn_region ?_
  have e : List.range ops.toArray.size = List.range k ++ k :: List.range' (k + 1) (ops.length - (k + 1)) := by
    rw [List.size_toArray, List.range_eq_range', List.range_eq_range', show ops.length = k + (1 + (ops.length - (k + 1))) by omega, ← List.range'_append_1, ← List.range'_append_1]
    simp
    omega
  rw [e]
  have hB : ∀ s2 a w, Rep C s2 a w → Tr C ops.toArray ((ops.drop (k + 1)).map fun o => (4, o)) s2 (Q .normal) → wpOpsIn Fence.wide 0 C.P ops.toArray (Fin C (Q .normal)) (List.range' (k + 1) (ops.length - (k + 1))) a w := fun s2 a w r2 h2 => by
    refine wpOps_in (ro := none) hnd fin_out _ _ _ (wpOps_of_tr _ _ s2 a w _ sP (fun j => ?_) r2 h2 fun s' a' w' r' q => ⟨rfl, s', r', q⟩)
    by_cases hj : j < ops.length - (k + 1)
    · rw [List.getElem?_range' hj]
      simp only [Option.bind_some, List.getElem?_map, List.getElem?_drop, List.getElem?_toArray, Nat.one_mul]
      cases ops[k + 1 + j]? <;> rfl
    · rw [List.getElem?_eq_none (by simp; omega), List.getElem?_map, List.getElem?_drop, List.getElem?_eq_none oM]
      rfl
  have hA : ∀ (l : List (Nat × Oper)) (is : List Nat) (s : St) (a : Act) (w : World), is.length = l.length → (∀ j : Nat, (is[j]?).bind (fun i => ops.toArray[i]?) = (l[j]?).map Prod.snd) → Rep C s a w →
      Tr C ops.toArray l s (fun s1 => YOp C y s1 fun s2 => Tr C ops.toArray ((ops.drop (k + 1)).map fun o => (4, o)) s2 (Q .normal)) →
      wpOpsIn Fence.wide 0 C.P ops.toArray (Fin C (Q .normal)) (is ++ k :: List.range' (k + 1) (ops.length - (k + 1))) a w := by
    intro l
    induction l with
    | nil =>
      intro is s a w hl _ r h
      have : is = [] := List.eq_nil_of_length_eq_zero hl
      subst this
      cases h with
      | dup h => exact absurd r.rh.nodup h
      | nil h =>
        rw [List.nil_append, wpOpsIn_cons]
        unfold wpOpIn
        have hy' : ops.toArray[k]? = some y := by simpa using hy
        rw [hy']
        simp only
        rw [if_pos (by unfold Region.wanted; rw [h.1])]
        have := h.2 a w r
        refine Oper.wpIn_mono (K := fun a' w' => ∃ s2, Rep C s2 a' w' ∧ Tr C ops.toArray ((ops.drop (k + 1)).map fun o => (4, o)) s2 (Q .normal)) (fun a' w' ⟨s2, r2, h2⟩ => hB s2 a' w' r2 h2) ?_
        unfold Oper.wpIn at this ⊢
        refine ⟨this.1, ?_⟩
        have := this.2
        generalize (y.semAt Fence.wide.round a.eval).run C.P w = res at this ⊢
        cases res with
        | ok x w' =>
          cases x <;> simp only [Oper.uponIn] at this ⊢
          case value => exact this
          case skip => exact this
          case defer => exact this
          case enter f args =>
            refine ⟨this.1, CallsIn.mono this.2 fun e w'' he => ?_⟩
            cases e with
            | returned v => exact he
            | panicked ch => exact he.elim
            | outgrown => exact he.elim (fun _ hx => hx.elim (fun _ hy => hy.elim))
          case row row args => exact this
          case round l f tmps ars bd =>
            refine ⟨this.1, RoundIn.mono this.2 fun e w'' he => ?_⟩
            cases e with
            | returned v => exact he
            | panicked ch => exact he.elim
            | outgrown => exact he.elim (fun _ hx => hx.elim (fun _ hy => hy.elim))
        | halt x w' => cases x <;> simp only [Oper.uponIn] at this
    | cons p l ih =>
      intro is s a w hl he r h
      obtain ⟨c, o⟩ := p
      cases is with
      | nil => cases hl
      | cons i is =>
        rw [List.cons_append, wpOpsIn_cons]
        have h0 : ops.toArray[i]? = some o := by simpa using he 0
        refine wpOp_in (ro := none) (X := Fin C (Q .normal)) (Tr.step h0 h a w r _ (fun s' a' w' r' k' => ?_) _) hnd fin_out
        exact ih is s' a' w' (by simpa using hl) (fun j => by simpa using he (j + 1)) r' k'
  refine hA _ (List.range k) s a w (by simp; omega) (fun j => ?_) r h
  by_cases hj : j < k
  · rw [List.getElem?_range hj]
    simp only [Option.bind_some, List.getElem?_map, List.getElem?_toArray]
    rw [List.getElem?_take_of_lt hj]
    cases ops[j]? <;> rfl
  · rw [List.getElem?_eq_none (by simp; omega), List.getElem?_map, List.getElem?_eq_none (by simp; omega)]
    rfl

theorem yop {P : Program} {w1 : World} {N : Nat} {names : List Nat} {sl : List (Nat × Value)} {hp hp' : List Blk} {d : Nat} {ty : TypeId} {pos : String} {af : Array Edge} {f x : Operand} {ats : Array TypeId} {l : Nat} {v : Value} {K : St → Prop} (hd : Nat.blt d N = true)
    (hf : evIn sl f = some (.func (.yield l) #[] #[])) (hx : evIn sl x = some v) (hY : ∀ w, HRep ⟨P, w1, 0, names, [], []⟩ hp w → YieldAt Fence.wide 0 P l #[v] w fun e w' => e = .returned (.bool true) ∧ HRep ⟨P, w1, 0, names, [], []⟩ hp' w')
    (k : K ⟨(d, .bool true) :: sl, hp'⟩) : YOp ⟨P, w1, N, names, [], []⟩ ⟨some d, .call ⟨.value f, #[x], ats⟩, ty, pos, af, none⟩ ⟨sl, hp⟩ K := by
  refine ⟨rfl, fun a w r => ?_⟩
  have h1 := r.rs.eval hf
  have h2 := r.rs.eval hx
  obtain ⟨fn, tmps, ars, bd, hrun, hR⟩ := hY w ⟨r.rh.cells, r.rh.nodup, r.rh.own, r.rh.keeps, r.rh.kok, r.rh.kd⟩
  refine ⟨fun _ _ => trivial, ?_⟩
  rw [show (Oper.semAt Fence.wide.round a.eval ⟨some d, .call ⟨.value f, #[x], ats⟩, ty, pos, af, none⟩).run P w = .ok (.round l fn tmps ars bd) w by
    rw [Oper.semAt_eq _ _ _ (by intro c hc; cases hc)]
    simp [execOp, resolve, Deferred.ofValue, h1, h2, invoke, hrun]]
  simp only [Oper.uponIn]
  refine ⟨fun h0 => (by cases h0), RoundIn.mono hR fun e w' ⟨he, hh⟩ => ?_⟩
  subst he
  exact ⟨⟨(d, .bool true) :: sl, hp'⟩, ⟨r.rs.put (some d) (.bool true) fun t ht => by cases ht; exact nblt hd, hh.cells, hh.nodup, hh.own, hh.keeps, hh.kok, hh.kd⟩, k⟩

theorem HRep.base {P : Program} {w : World} {N : Nat} {names : List Nat} {hp : List Blk} (hc : ∀ b ∈ hp, BlkOk w b) (hn : hp.map (·.n) = names) (hd : names.Nodup) : HRep ⟨P, w, N, names, [], []⟩ hp w :=
  ⟨hc, by rw [hn]; exact hd, fun b hb => .inr (by rw [← hn]; exact List.mem_map.2 ⟨b, hb, rfl⟩), Keeps.refl _ _, fun _ h => (by cases h), fun _ _ _ h => (by cases h)⟩
theorem HRep.reN {P : Program} {w w' : World} {N N' : Nat} {names : List Nat} {hp : List Blk} (h : HRep ⟨P, w, N, names, [], []⟩ hp w') : HRep ⟨P, w, N', names, [], []⟩ hp w' :=
  ⟨h.cells, h.nodup, h.own, h.keeps, h.kok, h.kd⟩

theorem wpIn_range {C : Cx} {sl : List (Nat × Value)} {g : Operand} {p0 : Tmp} {assign body : Code} {QQ : Exit → Act → World → Prop} {a : Act} {w : World} {gf : Nat} {lb : Array Value} (hpF : Nat → List Blk) (names : List Nat) (enc : Nat → Value) (K : Nat) (slA : Nat → List (Nat × Value))
    (hrep : Rep C ⟨sl, hpF 0⟩ a w) (hkb : C.kb = []) (hg : evIn sl g = some (.func (.func gf) #[] lb)) (eg : Body C.P gf) (hp0 : p0 < C.N) (hnames : ∀ i, (hpF i).map (·.n) = names)
    (iter : ∀ (l : Nat) (w1 : World), HRep ⟨C.P, w1, 0, names, [], []⟩ (hpF 0) w1 →
      (∀ i, i < K → ∀ W, HRep ⟨C.P, w1, 0, names, [], []⟩ (hpF i) W → YieldAt Fence.wide 0 C.P l #[enc i] W fun e W' => e = .returned (.bool true) ∧ HRep ⟨C.P, w1, 0, names, [], []⟩ (hpF (i + 1)) W') →
      CallsIn Fence.wide 0 C.P gf (#[.func (.yield l) #[] #[]] ++ lb) w1 fun e W' => (∃ v, e = .returned v) ∧ HRep ⟨C.P, w1, 0, names, [], []⟩ (hpF K) W')
    (hassign : ∀ i, i < K → ∀ l W, HRep ⟨C.P, W, C.N, names, [], []⟩ (hpF i) W → SatI (some l) ⟨C.P, W, C.N, names, [], []⟩ assign ⟨(p0, enc i) :: sl, hpF i⟩ (fun s' => s'.hp = hpF i ∧ s'.sl = slA i))
    (hbody : ∀ i, i < K → ∀ l W, HRep ⟨C.P, W, C.N, names, [], []⟩ (hpF i) W → SatI (some l) ⟨C.P, W, C.N, names, [], []⟩ body ⟨slA i, hpF i⟩ (fun s' => s'.hp = hpF (i + 1)))
    (hdone : ∀ D W, HRep C (hpF K) W → W.heap[D]? = some (.deferred (some [])) → C.W0.heap.size ≤ D → D ∉ names → QQ .normal { a with defers := { target := .collected D, args := #[] } :: a.defers } W) :
    (Code.rangeFunc g #[p0] assign body).wpIn Fence.wide 0 C.P QQ a w := by
  have hnd : names.Nodup := by rw [← hnames 0]; exact hrep.rh.nodup
  have hlt : ∀ k ∈ names, k < w.heap.size := fun k hk => by
    rw [← hnames 0] at hk
    obtain ⟨b, hb, rfl⟩ := List.mem_map.1 hk
    exact (hrep.rh.cells b hb).lt
  have inN : ∀ i, ∀ b ∈ hpF i, b.n ∈ names := fun i b hb => by rw [← hnames i]; exact List.mem_map.2 ⟨b, hb, rfl⟩
  refine wpIn_rangeFunc ?_
  intro fn _
  obtain ⟨rec, hrec⟩ : ∃ rec : LoopState → Option Code → Loop, rec = fun st pe => { state := st, pending := pe, fn, tmps := a.tmps, params := #[p0], assign, body, defers := w.heap.size } := ⟨_, rfl⟩
  obtain ⟨w1, hw1⟩ : ∃ w1, (w.alloc (.deferred (some []))).alloc (.loop (rec .ready none)) = w1 := ⟨_, rfl⟩
  have hsz1 : w1.heap.size = w.heap.size + 2 := by rw [← hw1]; simp
  have hL1 : w1.heap[w.heap.size + 1]? = some (.loop (rec .ready none)) := by
    rw [← hw1]; have := World.alloc_heap_new (w.alloc (.deferred (some []))) (.loop (rec .ready none)); rwa [World.size_alloc] at this
  have hK1 : w1.heap[w.heap.size]? = some (.deferred (some [])) := by
    rw [← hw1]; exact (Below.heap_alloc _ _ _ sP).trans (World.alloc_heap_new w _)
  have hold : ∀ k, k < w.heap.size → w1.heap[k]? = w.heap[k]? := fun k hk => by
    rw [← hw1]; exact (Below.heap_alloc _ _ _ (by simp; omega)).trans (Below.heap_alloc _ _ _ hk)
  have hH : HRep ⟨C.P, w1, 0, names, [], []⟩ (hpF 0) w1 := HRep.base (fun b hb => (hrep.rh.cells b hb).of_heap (hold _ (hrep.rh.cells b hb).lt)) (hnames 0) hnd
  have lN : w.heap.size + 1 ∉ names := fun h => by have := hlt _ h; omega
  have dN : w.heap.size ∉ names := fun h => by have := hlt _ h; omega
  refine ⟨w.heap.size + 1, [{ target := .collected w.heap.size, args := #[] }], w1, { target := .fn (.func gf) lb, args := #[.func (.yield (w.heap.size + 1)) #[] #[]] }, w1, gf,
    #[.func (.yield (w.heap.size + 1)) #[] #[]] ++ lb, w1, ?_, ?_, fun _ _ => trivial, ?_, fun h => (by cases h), ?_⟩
  · rw [← hw1, hrec]; exact run_enterLoop_outer _ _ _ _ _
  · have := hrep.rs.eval hg
    simp only [resolve, this]
    simp [go_sem]
  · have := eg (#[.func (.yield (w.heap.size + 1)) #[] #[]] ++ lb) w1
    simpa [invoke] using this
  refine (iter (w.heap.size + 1) w1 hH fun i hi W hh => ?_).mono ?_
  · -- one round
    have hl : W.heap[w.heap.size + 1]? = some (.loop (rec .ready none)) := (hh.keeps.block _ (by show _ < w1.heap.size; omega) lN).trans hL1
    have hy := run_yield (P := C.P) (args := #[enc i]) hl (by rw [hrec]; rfl)
    rw [hrec] at hy
    have rep0 : Rep ⟨C.P, W, C.N, names, [], []⟩ ⟨(p0, enc i) :: sl, hpF i⟩ { tmps := (#[p0].zip #[enc i]).foldl (fun t (p, v) => t.setIfInBounds p v) a.tmps, defers := [] } W := by
      refine ⟨?_, HRep.base hh.cells (hnames i) hnd⟩
      have s0 : SRep [] C.N sl ⟨a.tmps, []⟩ := ⟨hrep.rs.size, rfl, hrep.rs.slots⟩
      have s1 := s0.put (some p0) (enc i) fun t ht => by cases ht; exact hp0
      have e : (#[p0].zip #[enc i]).foldl (fun t (p, v) => t.setIfInBounds p v) a.tmps = a.tmps.setIfInBounds p0 (enc i) := by simp
      rw [e]
      exact s1
    refine ⟨fn, _, assign, body, hy, roundIn_of_wpIn trivial ?_⟩
    refine wpIn_mono (hassign i hi (w.heap.size + 1) W (HRep.base hh.cells (hnames i) hnd) _ _ rep0) fun e a1 W1 ⟨he, s1, r1, hs1, hs2⟩ => ?_
    subst he
    have hl1 : W1.heap[w.heap.size + 1]? = some (.loop (rec .ready none)) := (r1.rh.keeps.block _ (Array.getElem?_eq_some_iff.1 hl).1 lN).trans hl
    have hlt1 := (Array.getElem?_eq_some_iff.1 hl1).1
    refine ⟨_, run_beginRound hl1 (by rw [hrec]), ?_⟩
    obtain ⟨W2, hW2⟩ : ∃ W2, W1.putObj (w.heap.size + 1) (.loop { rec .ready none with state := .busy }) = W2 := ⟨_, rfl⟩
    rw [hW2]
    have ne1 : ∀ j, ∀ b ∈ hpF j, b.n ≠ w.heap.size + 1 := fun j b hb e => lN (e ▸ inN j b hb)
    have hc2 : ∀ b ∈ hpF i, BlkOk W2 b := fun b hb => by
      rw [← hs1] at hb
      refine (r1.rh.cells b hb).of_heap ?_
      rw [← hW2]
      rw [hs1] at hb
      exact World.putObj_heap_other (ne1 i b hb)
    have hl2 : W2.heap[w.heap.size + 1]? = some (.loop { rec .ready none with state := .busy }) := by rw [← hW2]; exact World.putObj_heap_same hlt1
    have rep2 : Rep ⟨C.P, W2, C.N, names, [], []⟩ ⟨slA i, hpF i⟩ a1 W2 := ⟨by have := r1.rs; rw [hs2] at this; exact this, HRep.base hc2 (hnames i) hnd⟩
    refine wpIn_mono (hbody i hi (w.heap.size + 1) W2 (HRep.base hc2 (hnames i) hnd) _ _ rep2) fun e a3 W3 ⟨he, s3, r3, hs3⟩ => ?_
    subst he
    have hl3 : W3.heap[w.heap.size + 1]? = some (.loop { rec .ready none with state := .busy }) := (r3.rh.keeps.block _ (Array.getElem?_eq_some_iff.1 hl2).1 lN).trans hl2
    have hend := run_endRound (P := C.P) none hl3
    refine ⟨_, _, hend, rfl, ?_⟩
    have hlt3 := (Array.getElem?_eq_some_iff.1 hl3).1
    refine ⟨fun b hb => ?_, by rw [hnames]; exact hnd, fun b hb => .inr (inN _ b hb), ?_, fun _ h => (by cases h), fun _ _ _ h => (by cases h)⟩
    · refine BlkOk.of_heap (r3.rh.cells b (by rw [hs3]; exact hb)) ?_
      exact World.putObj_heap_other (ne1 _ b hb)
    · have k1 := hh.keeps
      have k2 := r1.rh.keeps
      have k3 := r3.rh.keeps
      have os2 : W2.os = W1.os := by rw [← hW2]; rfl
      have tp2 : W2.tape = W1.tape := by rw [← hW2]; rfl
      have ot2 : W2.output = W1.output := by rw [← hW2]; rfl
      have sz2 : W2.heap.size = W1.heap.size := by rw [← hW2]; simp [World.putObj]
      refine ⟨k3.os.trans (os2.trans (k2.os.trans k1.os)), k3.tape.trans (tp2.trans (k2.tape.trans k1.tape)), k3.output.trans (ot2.trans (k2.output.trans k1.output)), ?_, fun j hj hjn => ?_⟩
      · have h1 := k1.size
        have h2 := k2.size
        have h3 := k3.size
        show w1.heap.size ≤ _
        have : (W3.putObj (w.heap.size + 1) (.loop { rec .ready none with state := .ready })).heap.size = W3.heap.size := by simp [World.putObj]
        simp only [World.putObj, Array.size_setIfInBounds]
        simp only at h1 h2 h3
        omega
      · by_cases hjl : j = w.heap.size + 1
        · subst hjl
          rw [hL1]
          refine (World.putObj_heap_same hlt3).trans ?_
          rw [hrec]
          rfl
        · refine (World.putObj_heap_other hjl).trans ?_
          have h1 := k1.size
          have h2 := k2.size
          simp only at h1 h2 hj
          refine (k3.block j (by simp only; omega) hjn).trans ?_
          simp only
          rw [← hW2]
          refine (World.putObj_heap_other hjl).trans ?_
          exact (k2.block j (by simp only; omega) hjn).trans (k1.block j hj hjn)
  · -- behind the iterator
    rintro e W ⟨⟨v, rfl⟩, hh⟩
    have hl : W.heap[w.heap.size + 1]? = some (.loop (rec .ready none)) := (hh.keeps.block _ (by show _ < w1.heap.size; omega) lN).trans hL1
    have hd : W.heap[w.heap.size]? = some (.deferred (some [])) := (hh.keeps.block _ (by simp only; omega) dN).trans hK1
    refine ⟨none, _, by have := run_endLoop (P := C.P) hl (by rw [hrec]; simp); rw [hrec] at this; exact this, ?_⟩
    have kw := hrep.rh.keeps
    refine hdone w.heap.size _ ⟨fun b hb => (hh.cells b hb).of_heap (World.putObj_heap_other fun e => lN (e ▸ inN K b hb)), by rw [hnames]; exact hnd, fun b hb => ?_, ?_, by rw [hkb]; exact fun _ h => (by cases h), by rw [hkb]; exact fun _ _ _ h => (by cases h)⟩
      ((World.putObj_heap_other oM).trans hd) kw.size dN
    · have := inN K b hb
      rw [← hnames 0] at this
      obtain ⟨b0, hb0, e⟩ := List.mem_map.1 this
      rw [← e]
      exact hrep.rh.own b0 hb0
    · have k1 := hh.keeps
      have osw : w1.os = w.os ∧ w1.tape = w.tape ∧ w1.output = w.output := by rw [← hw1]; exact ⟨rfl, rfl, rfl⟩
      refine ⟨k1.os.trans (osw.1.trans kw.os), k1.tape.trans (osw.2.1.trans kw.tape), k1.output.trans (osw.2.2.trans kw.output), ?_, fun j hj hjn => ?_⟩
      · have h1 := k1.size
        have h2 := kw.size
        simp only [World.putObj, Array.size_setIfInBounds]
        simp only at h1
        omega
      · have h2 := kw.size
        have hjN : j ∉ names := fun h => by
          rw [← hnames 0] at h
          obtain ⟨b0, hb0, e⟩ := List.mem_map.1 h
          rcases hrep.rh.own b0 hb0 with h3 | h3
          · omega
          · exact hjn (e ▸ h3)
        refine (World.putObj_heap_other oM).trans ?_
        exact (k1.block j (by simp only; omega) hjN).trans ((hold j oM).trans (kw.block j hj hjn))

/-- the end of a function, whatever world its frame began in -/
def endAtA (P : Program) (N : Nat) (ds : List Deferred) (fn : Func) (R : Value → List Blk → Prop) (s : St) : Prop :=
  ∃ v out, (∀ W names, Res ⟨P, W, N, names, [], ds⟩ fn s v) ∧ (∀ b ∈ out, b ∈ s.hp) ∧ ((s.hp.map (·.n)).Nodup → (out.map (·.n)).Nodup) ∧ R v out
def endQA (P : Program) (N : Nat) (ds : List Deferred) (fn : Func) (R : Value → List Blk → Prop) : Exit → St → Prop
  | .normal, s | .ret, s => endAtA P N ds fn R s
  | _, _ => False
theorem enA_r {P : Program} {N : Nat} {ds : List Deferred} {fn : Func} {R : Value → List Blk → Prop} {s : St} (h : endAtA P N ds fn R s) : endQA P N ds fn R .ret s := h
/-- what a function owes at its one range over a function -/
def RangeSt (P : Program) (W : World) (N : Nat) (fn : Func) (g : Operand) (p0 : Tmp) (assign body tail : Code) (R : Value → List Blk → Prop) (s : St) : Prop :=
  ∃ (gf : Nat) (lb : Array Value) (hpF : Nat → List Blk) (names : List Nat) (enc : Nat → Value) (K : Nat) (slA : List (Nat × Value) → Nat → List (Nat × Value)), s.hp = hpF 0 ∧ evIn s.sl g = some (.func (.func gf) #[] lb) ∧ Body P gf ∧ p0 < N ∧ (∀ i, (hpF i).map (·.n) = names) ∧
    (∀ (l : Nat) (w1 : World), HRep ⟨P, w1, 0, names, [], []⟩ (hpF 0) w1 →
      (∀ i, i < K → ∀ W, HRep ⟨P, w1, 0, names, [], []⟩ (hpF i) W → YieldAt Fence.wide 0 P l #[enc i] W fun e W' => e = .returned (.bool true) ∧ HRep ⟨P, w1, 0, names, [], []⟩ (hpF (i + 1)) W') →
      CallsIn Fence.wide 0 P gf (#[.func (.yield l) #[] #[]] ++ lb) w1 fun e W' => (∃ v, e = .returned v) ∧ HRep ⟨P, w1, 0, names, [], []⟩ (hpF K) W') ∧
    (∀ i, i < K → ∀ l W, HRep ⟨P, W, N, names, [], []⟩ (hpF i) W → SatI (some l) ⟨P, W, N, names, [], []⟩ assign ⟨(p0, enc i) :: s.sl, hpF i⟩ (fun s' => s'.hp = hpF i ∧ s'.sl = slA s.sl i)) ∧
    (∀ i, i < K → ∀ l W, HRep ⟨P, W, N, names, [], []⟩ (hpF i) W → SatI (some l) ⟨P, W, N, names, [], []⟩ body ⟨slA s.sl i, hpF i⟩ (fun s' => s'.hp = hpF (i + 1))) ∧
    (∀ D W2, Sat ⟨P, W2, N, names, [], [{ target := .collected D, args := #[] }]⟩ tail ⟨s.sl, hpF K⟩ (endQA P N [{ target := .collected D, args := #[] }] fn R))

theorem calls_range {P : Program} {f : FuncId} {fn : Func} {R0 R1 assign body tail : Code} {id : Nat} {g : Operand} {p0 : Tmp} {args : List Value} {W : World} {R : Value → List Blk → Prop}
    (hf : P.funcs[f]? = some fn) (hb : fn.body = some (.seq R0 (.seq (.seq R1 (.block id (.rangeFunc g #[p0] assign body))) tail))) (N : Nat) (hN : fn.ntmps = N) (hlen : Nat.ble args.length N = true)
    (h : Sat ⟨P, W, N, [], [], []⟩ R0 ⟨argSlots 0 args, []⟩ (thenQ (fun s' => Sat ⟨P, W, N, [], [], []⟩ R1 s' (thenQ (RangeSt P W N fn g p0 assign body tail R) (fun _ _ => False))) (fun _ _ => False))) :
    Calls P f args.toArray W fun e W' => ∃ v out, e = .returned v ∧ R v out ∧ Ret [] out W W' := by
  have hlen := Nat.le_of_ble_eq_true hlen
  subst hN
  refine callsIn_wide.1 (callsIn_of_wp_marks (F := Fence.wide) (n := 0) hf hb trivial ?_)
  have rep0 : Rep ⟨P, W, fn.ntmps, [], [], []⟩ ⟨argSlots 0 args, []⟩ { tmps := args.toArray ++ Array.replicate (fn.ntmps - args.toArray.size) undef, defers := [] } W := by
    refine ⟨⟨?_, rfl, fun t v ht => ?_⟩, HRep.nil _⟩
    · simp; omega
    · have := argSlots_look args 0 t v ht
      rw [Array.getElem?_append]
      have hlt : t < args.length := by
        rcases Nat.lt_or_ge t args.length with h1 | h1
        · exact h1
        · rw [List.getElem?_eq_none oM] at this; cases this.2
      simp only [List.size_toArray]
      rw [if_pos hlt]
      simpa using this.2
  refine wpIn_seq (wpIn_wide.2 (wp_mono (h _ _ rep0) fun e a w ⟨s, r, q⟩ => ?_))
  cases e with
  | normal =>
    refine wpIn_seq (wpIn_seq (wpIn_wide.2 (wp_mono (q a w r) fun e a1 w1 ⟨s1, r1, q1⟩ => ?_)))
    cases e with
    | normal =>
      obtain ⟨gf, lb, hpF, names, enc, K, slA, hs, hg, eg, hp0, hnames, iter, hassign, hbody, htail⟩ := q1
      obtain ⟨sl, hp⟩ := s1
      simp only at hs hg hassign htail
      subst hs
      refine wpIn_block (wpIn_range (C := ⟨P, W, fn.ntmps, [], [], []⟩) hpF names enc K (slA sl) r1 rfl hg eg hp0 hnames iter hassign hbody fun D W2 hh hD hDl hDn => ?_)
      refine wpIn_wide.2 ?_
      have hnd : names.Nodup := by rw [← hnames K]; exact hh.nodup
      have rep2 : Rep ⟨P, W2, fn.ntmps, names, [], [{ target := .collected D, args := #[] }]⟩ ⟨sl, hpF K⟩ { a1 with defers := { target := .collected D, args := #[] } :: a1.defers } W2 := by
        refine ⟨⟨r1.rs.size, ?_, r1.rs.slots⟩, hh.cells, hh.nodup, fun b hb => .inr ?_, Keeps.refl _ _, fun _ h => (by cases h), fun _ _ _ h => (by cases h)⟩
        · show _ :: a1.defers = _
          rw [r1.rs.defers]
        · show b.n ∈ names
          rw [← hnames K]; exact List.mem_map.2 ⟨b, hb, rfl⟩
      refine wp_mono (htail D W2 _ _ rep2) fun e a3 W3 ⟨s3, r3, q3⟩ => ?_
      have own : ∀ b : Blk, (W2.heap.size ≤ b.n ∨ b.n ∈ names) → W.heap.size ≤ b.n := fun b hb => by
        rcases hb with h1 | h1
        · exact Nat.le_trans hh.keeps.size h1
        · rw [← hnames K] at h1
          obtain ⟨b0, hb0, e⟩ := List.mem_map.1 h1
          rcases hh.own b0 hb0 with h2 | h2
          · rw [← e]; exact h2
          · cases h2
      have fin : endAtA P fn.ntmps [{ target := .collected D, args := #[] }] fn R s3 → LeavesInM Fence.wide 0 P fn a3.tmps (fun e W' => ∃ v out, e = .returned v ∧ R v out ∧ Ret [] out W W') a3.defers .returning W3 := by
        rintro ⟨v, out, hr, hsub, hnd3, hR⟩
        have hd3 : a3.defers = [{ target := .collected D, args := #[] }] := r3.rs.defers
        rw [hd3]
        have hD3 : W3.heap[D]? = some (.deferred (some [])) := (r3.rh.keeps.block D (Array.getElem?_eq_some_iff.1 hD).1 hDn).trans hD
        refine ⟨by simp, .inl ⟨D, _, rfl, run_takeDeferred hD3, ?_⟩⟩
        have hDout : ∀ b ∈ s3.hp, b.n ≠ D := fun b hb e => by
          obtain ⟨full, fr, hbk⟩ := r3.rh.cells b hb
          have := hbk.heap
          rw [e, hD3] at this
          cases this
        have rep4 : Rep ⟨P, W3.putObj D (.deferred none), fn.ntmps, s3.hp.map (·.n), [], [{ target := .collected D, args := #[] }]⟩ s3 a3 (W3.putObj D (.deferred none)) :=
          ⟨⟨r3.rs.size, r3.rs.defers, r3.rs.slots⟩, fun b hb => (r3.rh.cells b hb).of_heap (World.putObj_heap_other (hDout b hb)), r3.rh.nodup, fun b hb => .inr (List.mem_map.2 ⟨b, hb, rfl⟩), Keeps.refl _ _, fun _ h => (by cases h), fun _ _ _ h => (by cases h)⟩
        refine ⟨v, ?_, v, out, rfl, hR, ⟨?_, fun b hb => rep4.rh.cells b (hsub b hb), hnd3 r3.rh.nodup, fun b hb => .inl (own b (r3.rh.own b (hsub b hb)))⟩⟩
        · exact hr _ _ _ _ rep4
        · have k1 := hh.keeps
          have k2 := r3.rh.keeps
          refine ⟨k2.os.trans k1.os, k2.tape.trans k1.tape, k2.output.trans k1.output, ?_, fun j hj hjn => ?_⟩
          · have h1 := k1.size
            have h2 := k2.size
            simp only [World.putObj, Array.size_setIfInBounds]
            simp only at h1 h2
            omega
          · simp only at hDl
            refine (World.putObj_heap_other oM).trans ?_
            have h1 := k1.size
            simp only at h1
            refine (k2.block j (by simp only; omega) (fun hjn2 => ?_)).trans (k1.block j hj hjn)
            have := own ⟨j, [], 0, 0⟩ (.inr hjn2)
            simp only at this
            omega
      cases e with
      | normal => exact fin q3
      | ret => exact fin q3
      | _ => exact q3.elim
    | _ => exact q1.elim
  | _ => exact q.elim
end Hw
end

section
namespace Go.Proofs.YtpacobmjjjillaaGreat
open Go Hw
set_option linter.unusedVariables false
set_option linter.unusedSimpArgs false

theorem mk_chunk (p : Option Addr) (n c : Nat) : Meets Tryz.prog 201 [.slice p n c, i64 128] [] (fun _ => True) (fun v out => ∃ b1 b2, v = .func (.func 235) #[] #[ptr b1 0, ptr b2 0] ∧ out = [⟨b1, [.slice p n c], 39, 1⟩, ⟨b2, [i64 128], 3, 1⟩]) := by
 intro W hW
 refine calls_of (hp0 := []) Tryz.func201 J 9 Tryz.ntmps201 J (HRep.nil _) (Sat.seq (Sat.region (Tr.box1 J J J ?_)))
 intro n2 hn2 hf2
 refine Tr.box1 J J J ?_
 intro n3 hn3 hf3
 refine Tr.assign J J J (Tr.nil (at_n (Sat.seq (Sat.seq (Sat.region (Tr.load1 J J J Y3 J Z0 (by rfl) ?_))))))
 refine Tr.lss J J J J J (Tr.nil (at_n (Sat.cond_f J dE (Sat.skip (at_n (Sat.seq (Sat.region (Tr.makeFunc J J J J (Tr.assign J J J (Tr.nil (at_n (Sat.ret (en_r (end_perm (out := (⟨n2, [.slice p n c], 39, 1⟩ :: (⟨n3, [i64 128], 3, 1⟩ :: []))) (res_tmp J J) (pm_cons rM (pm_cons rM pm_nil)) ?_))))))))))))))
 exact ⟨n2, n3, rfl, by simp⟩

/-- a chunk of 128 bytes -/
def encC (q i : Nat) : Value := .slice (some ⟨q, 128 * i, none⟩) 128 128
theorem encC_eq (q i : Nat) : (.slice (some ⟨q, if 128 * i + 128 = 128 * i then 0 else 0 + 128 * i * 1, none⟩) (128 * i + 128 - 128 * i) (128 * i + 128 - 128 * i) : Value) = encC q i := by
  have e1 : 128 * i + 128 - 128 * i = 128 := by omega
  have e2 : 0 + 128 * i * 1 = 128 * i := by omega
  rw [if_neg oM, e1, e2]; rfl

theorem chunk_iter (l b1 b2 q n c K : Nat) (X : Nat → List Blk) (names : List Nat) (hnk : n = 128 * K) (hnc : n ≤ c) (hbig : n ≤ 1000000) : Meets Tryz.prog 235 [.func (.yield l) #[] #[], ptr b1 0, ptr b2 0] names (fun W => HRep ⟨Tryz.prog, W, 0, names, [], []⟩ (⟨b1, [.slice (some ⟨q, 0, none⟩) n c], 39, 1⟩ :: ⟨b2, [i64 128], 3, 1⟩ :: X 0) W ∧ ∀ i, i < K → ∀ W2, HRep ⟨Tryz.prog, W, 0, names, [], []⟩ (⟨b1, [.slice (some ⟨q, 0, none⟩) n c], 39, 1⟩ :: ⟨b2, [i64 128], 3, 1⟩ :: X i) W2 → YieldAt Fence.wide 0 Tryz.prog l #[encC q i] W2 fun e W3 => e = .returned (.bool true) ∧ HRep ⟨Tryz.prog, W, 0, names, [], []⟩ (⟨b1, [.slice (some ⟨q, 0, none⟩) n c], 39, 1⟩ :: ⟨b2, [i64 128], 3, 1⟩ :: X (i + 1)) W3) (fun v out => v = .tuple #[] ∧ out = ⟨b1, [.slice (some ⟨q, 0, none⟩) n c], 39, 1⟩ :: ⟨b2, [i64 128], 3, 1⟩ :: X K) := by
 intro W hW
 refine calls_of (hp0 := ⟨b1, [.slice (some ⟨q, 0, none⟩) n c], 39, 1⟩ :: ⟨b2, [i64 128], 3, 1⟩ :: X 0) Tryz.func235 J 31 Tryz.ntmps235 J (HRep.reN hW.1) (Sat.seq (Sat.region (Tr.assign J J J (Tr.nil (at_n (Sat.block (Sat.loop (ι := Nat) (fun i => ⟨[(0, .func (.yield l) #[] #[]), (1, ptr b1 0), (2, ptr b2 0), (4, i64 (128 * (i : Int)))], (⟨b1, [.slice (some ⟨q, 0, none⟩) n c], 39, 1⟩ :: (⟨b2, [i64 128], 3, 1⟩ :: (X i ++ [])))⟩) (fun i => i ≤ K) (fun i => K - i) (0) ?_ ?_ ?_)))))))
 · exact Nat.zero_le _
 · exact weak_perm (wk1 rfl (wk1 rfl (wk1 rfl (wk1 rfl wk0)))) (pm_cons rM (pm_cons rM (pm_seg (by repeat (exact sg_end)) pm_nil)))
 ·
  rintro i hi
  refine Sat.seq (Sat.seq (Sat.region (Tr.move J J J (Tr.load1 J J J Y39 J Z0 (by rfl) ?_))))
  refine Tr.lenSl J J J Y39 (Tr.lss J J J J J (Tr.nil (at_n (Sat.condP J (fun hc0 => ?_) (fun hc0 => ?_)))))
  ·
   have hi3 : i < K := by omega
   refine Sat.skip (at_n (Sat.seq (Sat.block (Sat.seq (Sat.draw [(1, 0), (1, 1), (0, 2), (0, 3), (0, 4), (0, 5), (0, 6)] Mixed zK (Tr.load1 J J J Y3 J Z1 (by rfl) ?_))))))
   refine Tr.load1 J J J Y39 J Z0 (by rfl) ?_
   refine Tr.move J J J (Tr.sliceLoN (128*i) J J J J oM oM oM Y39 Sz5 (Tr.lenSl J J J Y39 (Tr.min2 J J J J (show Value.int .i64 (if ((n - 128 * i : Nat) : Int) < (128 : Int) then ((n - 128 * i : Nat) : Int) else (128 : Int)) = i64 128 from by rw [if_neg oM]) ?_)))
   refine Tr.assign J J J (Tr.nil (at_n (Sat.seq (Sat.regionY 10 J zK (Tr.move J J J (Tr.load1 J J J Y39 J Z0 (by rfl) ?_))))))
   refine Tr.move J J J (Tr.move J J J (Tr.move J J J (Tr.add_i64 J J J J oM (Tr.move J J J (Tr.move J J J (Tr.add_i64 J J J J oM (Tr.slice3 (128*i) (128*i+128) (128*i+128) J J J J J J oM oM oM oM oM oM Y39 Sz5 (Tr.nil (yop J J (congrArg some (encC_eq q i)) (fun w h => hW.2 i hi3 w (by rw [List.append_nil] at h; exact h)) ?_)))))))))
   refine Tr.not J J J (Tr.nil (at_n (Sat.cond_f J (rfl) (Sat.skip (bl_n (at_n (Sat.region (Tr.move J J J (Tr.load1 J J J Y3 J Z1 (by rfl) ?_)))))))))
   refine Tr.add_i64 J J J J oM (Tr.assign J J J (Tr.nil (at_n ?_)))
   exact ⟨i + 1, by omega, by omega, weak_perm (wk1 rfl (wk1 rfl (wk1 rfl (wk1 (congrArg (fun z => some (i64 z)) oM) wk0)))) (pm_cons rM (pm_cons rM (pm_seg (by repeat (exact sg_end)) pm_nil)))⟩
  ·
   have hi3 : i = K := by omega
   refine Sat.exit (at_x (at_x (bl_h (en_n (end_perm (out := (⟨b1, [.slice (some ⟨q, 0, none⟩) n c], 39, 1⟩ :: (⟨b2, [i64 128], 3, 1⟩ :: (X i ++ [])))) (res_none J) (pm_cons rM (pm_cons rM (pm_seg sG pm_nil))) ?_)))))
   rw [hi3]; exact ⟨rfl, by simp⟩

theorem chunk_seq {l b1 b2 q n c K : Nat} {X : Nat → List Blk} {names : List Nat} (hnk : n = 128 * K) (hnc : n ≤ c) (hbig : n ≤ 1000000) (hnm : ∀ i, (⟨b1, [.slice (some ⟨q, 0, none⟩) n c], 39, 1⟩ :: ⟨b2, [i64 128], 3, 1⟩ :: X i).map (·.n) = names) (w1 : World) (hh : HRep ⟨Tryz.prog, w1, 0, names, [], []⟩ (⟨b1, [.slice (some ⟨q, 0, none⟩) n c], 39, 1⟩ :: ⟨b2, [i64 128], 3, 1⟩ :: X 0) w1)
    (hy : ∀ i, i < K → ∀ W2, HRep ⟨Tryz.prog, w1, 0, names, [], []⟩ (⟨b1, [.slice (some ⟨q, 0, none⟩) n c], 39, 1⟩ :: ⟨b2, [i64 128], 3, 1⟩ :: X i) W2 → YieldAt Fence.wide 0 Tryz.prog l #[encC q i] W2 fun e W3 => e = .returned (.bool true) ∧ HRep ⟨Tryz.prog, w1, 0, names, [], []⟩ (⟨b1, [.slice (some ⟨q, 0, none⟩) n c], 39, 1⟩ :: ⟨b2, [i64 128], 3, 1⟩ :: X (i + 1)) W3) :
    CallsIn Fence.wide 0 Tryz.prog 235 (#[.func (.yield l) #[] #[]] ++ #[ptr b1 0, ptr b2 0]) w1 fun e W' => (∃ v, e = .returned v) ∧ HRep ⟨Tryz.prog, w1, 0, names, [], []⟩ (⟨b1, [.slice (some ⟨q, 0, none⟩) n c], 39, 1⟩ :: ⟨b2, [i64 128], 3, 1⟩ :: X K) W' :=
  callsIn_wide.2 ((chunk_iter l b1 b2 q n c K X names hnk hnc hbig w1 ⟨hh, hy⟩).mono fun e W' ⟨v, out, he, ⟨_, ho⟩, hr⟩ => ⟨⟨v, he⟩, by subst ho; exact HRep.ofRet hr (hnm K)⟩)
theorem take_len {xs : List UInt8} {i K : Nat} (h : xs.length = 128 * K) (hi : i < K) : ((xs.drop (128 * i)).take 128).length = 128 := by simp; omega

theorem sha_whole (st : List UInt64) (hst : st.length = 8) (k : List UInt64) (hk : Hid (kW = k)) (hk80 : k.length = 80) (p : Option Addr) (n c : Nat) (ss : List Sl) (ls : List (List UInt8)) (hss : ss.length = n) (hls : ls.length = n) (hsl : ∀ j, j < n → (ss.getD j Sl.nil).n = (ls.getD j []).length ∧ ((ss.getD j Sl.nil).p = none → (ss.getD j Sl.nil).n = 0)) (F : List UInt8) (hF : ls.flatten = F) (htot : F.length ≤ 90000) (hn : n ≤ 1000000)  : Meets Tryz.prog 127 [agg (wordsV st), .slice p n c] [] (fun W => SeesP W p (ss.map Sl.v) ∧ ∀ j, j < n → SeesP W (ss.getD j Sl.nil).p (bytesV (ls.getD j []))) (fun v out => v = agg (wordsV (allW k st F)) ∧ out = []) := by
  intro W hW
  have hpl := padB_length F
  have hpz := padZ_lt F.length
  have hpm := padB_mod F
  have hst2 : (runW k st (padB F) ((padB F).length / 128)).length = 8 := by rw [runW_length]; exact hst
  refine calls_range Tryz.func127 rfl 16 Tryz.ntmps127 rfl ?_
  refine Sat.region ?_
  refine Tr.boxA rfl rfl ?_
  intro n2 hn2 hf2
  refine Tr.alloc (cs := (wordsV (List.replicate 8 0))) rfl Zr135 rfl ?_
  intro n4 hn4 hf4
  refine Tr.nil ?_
  refine at_n ?_
  refine Sat.region ?_
  refine Tr.move rfl rfl rfl ?_
  refine Tr.call4 rfl rfl rfl rfl rfl Body202 (sha_padded p n c ss ls hss hls hsl F hF htot hn) (fun w h => ⟨seesP_ext h rfl hW.1, fun j hj => seesP_ext h rfl (hW.2 j hj)⟩) ?_
  rintro v7 out7 ⟨s7, rfl, hac7⟩
  obtain ⟨q7, c7, rfl, hc7, rfl⟩ := acc_pos hac7 oM
  refine Tr.call4 rfl rfl rfl rfl rfl Body201 (mk_chunk (some ⟨q7, 0, none⟩) (padB F).length c7) (fun _ _ => trivial) ?_
  rintro v8 out8 ⟨b1, b2, rfl, rfl⟩
  refine Tr.nil ?_
  refine at_n ?_
  refine ⟨_, _, fun i => ⟨b1, [.slice (some ⟨q7, 0, none⟩) (padB F).length c7], 39, 1⟩ :: ⟨b2, [i64 128], 3, 1⟩ :: [⟨q7, bytesV (padB F), 5, c7 * 1⟩, ⟨n4, wordsV (List.replicate 8 0), 135, (wordsV (List.replicate 8 0)).length⟩, ⟨n2, wordsV (runW k st (padB F) i), 135, (wordsV st).length⟩], [b1, b2, q7, n4, n2], encC q7, ((padB F).length / 128), fun sl i => (5, encC q7 i) :: (9, encC q7 i) :: sl, rfl, rfl, Body235, dE, fun _ => rfl, ?_, ?_, ?_, ?_⟩
  ·
    intro l w1 hh hy
    exact chunk_seq (X := fun i => [⟨q7, bytesV (padB F), 5, c7 * 1⟩, ⟨n4, wordsV (List.replicate 8 0), 135, (wordsV (List.replicate 8 0)).length⟩, ⟨n2, wordsV (runW k st (padB F) i), 135, (wordsV st).length⟩]) hpm hc7 oM (fun _ => rfl) w1 hh hy
  ·
    intro i hi l W2 hh
    refine SatI.region zK ?_
    refine Tr.assign rfl rfl rfl ?_
    refine Tr.nil ?_
    exact ⟨rfl, rfl⟩
  ·
    intro i hi l W2 hh
    obtain ⟨A, hA⟩ : ∃ A, Hid (schA ((padB F).drop (128 * i) |>.take 128) 128 = A) := ⟨_, ⟨rfl⟩⟩
    obtain ⟨w, hwp⟩ : ∃ w, Hid (schB A 64 = w) := ⟨_, ⟨rfl⟩⟩
    obtain ⟨R, hR⟩ : ∃ R, Hid (rnds k w (W8.of (runW k st (padB F) i)) 80 = R) := ⟨_, ⟨rfl⟩⟩
    have hw : w.length = 80 := by rw [← hwp.out, schB_length, ← hA.out]; exact schA_length _ 128
    have e1 : addUp (runW k st (padB F) i) R.l 8 = runW k st (padB F) (i + 1) := by rw [runW, pieceW, schW, hA.out, hwp.out, hR.out]
    refine SatI.block ?_
    refine SatI.draw [(1, 0), (0, 1), (0, 2), (1, 3), (3, 4), (4, 5)] Mixed zK zK ?_
    refine Tr.loadAll rfl rfl rfl Y135 rfl Sz135 Z4 (by rw [List.length_map, runW_length]; exact hst) ?_
    refine Tr.move rfl rfl rfl ?_
    refine Tr.s2a rfl rfl rfl Tryz.underlying191 oM ?_
    refine Tr.loadN (bytesV ((padB F).drop (128 * i) |>.take 128)) rfl rfl rfl Tryz.underlying191 rfl Sz191 Z2 (by rw [← List.map_drop, ← List.map_take]) (by rw [List.length_map]; exact take_len hpm hi) ?_
    refine Tr.callV rfl rfl rfl rfl Body203 (sha_Piece (runW k st (padB F) i) (by rw [runW_length]; exact hst) ((padB F).drop (128 * i) |>.take 128) (take_len hpm hi) A w k R hA hwp hw hk hk80 hR) (fun _ _ => trivial) ?_
    refine Tr.storeAll rfl rfl rfl rfl zB Sz135 (by (rw [List.length_map, addUp_length, runW_length]; exact hst)) Z4 (by (rw [List.length_map, runW_length]; exact hst)) (by exact upd4) ?_
    refine Tr.nil ?_
    rw [e1]
  ·
    intro D W2
    refine Sat.seq ?_
    refine Sat.region ?_
    refine Tr.loadAll rfl rfl rfl Y135 rfl Sz135 Z4 (by (simp [hst2]; done)) ?_
    refine Tr.storeAll rfl rfl rfl rfl zB Sz135 (by (simp [hst2]; done)) Z3 sP (by exact upd3) ?_
    refine Tr.nil ?_
    refine at_n ?_
    refine Sat.ret ?_
    refine enA_r ?_
    refine ⟨_, [], fun W names => res_cell rfl rfl Y135 rfl Sz135 Z3 (by simp [hst2]), sP, sP, ?_⟩
    exact ⟨rfl, rfl⟩

end Go.Proofs.YtpacobmjjjillaaGreat
end

section
namespace Go.Proofs.YtpacobmjjjillaaGreat
open Go Hw
set_option linter.unusedVariables false
set_option linter.unusedSimpArgs false

theorem DB.head_small {D : DB} (h : D.check = 0) : D.ls.length ≤ 16 ∧ D.ds.length ≤ 512 := by
  unfold DB.check at h
  by_cases h1 : D.head = true
  · rw [if_pos h1] at h; cases h
  · unfold DB.head at h1
    simp at h1
    omega
theorem db_check (B : Block) (D : DB) : Meets Tryz.prog 38 [agg B.cells] [] (fun W => BlockIs W B D) (fun v out => v = i64 D.check ∧ out = []) :=
  fun W hW => by rw [← hW.check]; exact block_check B hW.ok D.ls W hW.ls
def sameD (A B : DB) : Bool := decide (A.w = B.w) && (decide ((A.seq.toNat : Int) = (B.seq.toNat : Int)) && (decide (A.prev = B.prev) && (decide (A.ls = B.ls) && (decide (A.ds = B.ds) && decide (A.sg = B.sg)))))
theorem sameD_eq (A B : DB) : sameD A B = decide (A = B) := by
  obtain ⟨a1, a2, a3, a4, a5, a6⟩ := A
  obtain ⟨b1, b2, b3, b4, b5, b6⟩ := B
  have e : ((a2.toNat : Int) = (b2.toNat : Int)) ↔ a2 = b2 := by
    constructor
    · intro h; exact UInt64.toNat_inj.1 oM
    · intro h; rw [h]
  rw [Bool.eq_iff_iff]
  simp [sameD, e]
theorem db_kit (A B : Block) (D E : DB) (hn : D.ls.length ≤ 1000000) : Meets Tryz.prog 39 [agg A.cells, agg B.cells] [] (fun W => BlockIs W A D ∧ BlockIs W B E) (fun v out => v = .bool (decide (D = E)) ∧ out = []) := fun W hW => by
  have := kit_block A B hW.1.ok hW.2.ok D.ls E.ls D.ds E.ds (by rw [← hW.1.ls.len]; exact hn) W ⟨⟨hW.1.ls, hW.1.ds⟩, hW.2.ls, hW.2.ds⟩
  rw [← sameD_eq, show sameD D E = sameB A B D.ls E.ls D.ds E.ds by simp only [sameD, sameB, hW.1.w, hW.2.w, hW.1.seq, hW.2.seq, hW.1.prev, hW.2.prev, hW.1.sg, hW.2.sg]]
  exact this
theorem BlockIs.ext {C : Cx} {hp : List Blk} {w : World} {B : Block} {D : DB} (hh : HRep C hp w) (hl : C.lent = []) (h : BlockIs C.W0 B D) : BlockIs w B D :=
  ⟨h.ok, h.w, h.seq, h.prev, rows_ext hh hl h.ls, bytes_ext hh hl h.ds, h.sg⟩

end Go.Proofs.YtpacobmjjjillaaGreat
end

section
namespace Hw
open Go Go.RowKit
set_option linter.unusedSimpArgs false
set_option linter.unusedVariables false

theorem flat_get {m : Nat} : ∀ {cs : List (List Value)} {i j : Nat} {l : List Value}, (∀ l ∈ cs, l.length = m) → cs[i]? = some l → j < l.length → cs.flatten[i * m + j]? = l[j]?
  | [], i, j, l, _, h, _ => by simp at h
  | x :: cs, 0, j, l, hl, h, hj => by
    simp only [List.getElem?_cons_zero, Option.some.injEq] at h
    subst h
    rw [Nat.zero_mul, Nat.zero_add, List.flatten_cons, List.getElem?_append_left hj]
  | x :: cs, i + 1, j, l, hl, h, hj => by
    rw [List.getElem?_cons_succ] at h
    have hx := hl x sP
    rw [List.flatten_cons, List.getElem?_append_right (by rw [hx, Nat.add_mul]; omega), hx, show (i + 1) * m + j - m = i * m + j by rw [Nat.add_mul]; omega]
    exact flat_get (fun y hy => hl y (by simp [hy])) h hj
theorem sees_elem {w : World} {b o m i : Nat} {cs : List (List Value)} {l : List Value} (hl : ∀ l ∈ cs, l.length = m) (hs : Sees w b o cs.flatten) (hi : cs[i]? = some l) : Sees w b (o + i * m) l := fun j v hj => by
  have hlt : j < l.length := (List.getElem?_eq_some_iff.1 hj).1
  have := hs (i * m + j) v (by rw [flat_get hl hi hlt]; exact hj)
  rwa [Nat.add_assoc]

/-- a slice of records, and the data that they are -/
structure SeqIs {R D : Type} (cells : R → List Value) (k : Nat) (Is : World → R → D → Prop) (W : World) (s : Sl) (rs : List R) (ds : List D) : Prop where
  nr : rs.length = s.n
  nd : ds.length = s.n
  is : ∀ (i : Nat) (r : R) (d : D), rs[i]? = some r → ds[i]? = some d → Is W r d
  len : ∀ r ∈ rs, (cells r).length = k
  cap : s.n ≤ s.c
  see : SeesP W s.p (rs.map cells).flatten
  max : s.n ≤ maxLen
  nil : s.p = none → s.c = 0
section
variable {R D : Type} {cells : R → List Value} {k : Nat} {Is : World → R → D → Prop} {W w : World} {s : Sl} {rs : List R} {ds : List D}
theorem SeqIs.flat (h : SeqIs cells k Is W s rs ds) : (rs.map cells).flatten.length = s.n * k := by
  rw [← h.nr]
  have hl := h.len
  clear h
  induction rs with
  | nil => simp
  | cons r rs ih => rw [List.map_cons, List.flatten_cons, List.length_append, ih (fun x hx => hl x (by simp [hx])), hl r sP, List.length_cons, Nat.add_mul]; omega
theorem SeqIs.at (h : SeqIs cells k Is W s rs ds) (hk : 0 < k) {i : Nat} (hi : i < s.n) : ∃ b o r d, s.p = some ⟨b, o, none⟩ ∧ rs[i]? = some r ∧ ds[i]? = some d ∧ Is W r d ∧ (cells r).length = k ∧ Sees W b (o + i * k) (cells r) := by
  have h1 : i < rs.length := by rw [h.nr]; exact hi
  have h2 : i < ds.length := by rw [h.nd]; exact hi
  have h3 : 0 < s.n * k := Nat.mul_pos oM hk
  obtain ⟨b, o, hp, hs⟩ := h.see.at (by rw [h.flat]; exact h3)
  have e1 := List.getElem?_eq_getElem h1
  have e2 := List.getElem?_eq_getElem h2
  refine ⟨b, o, rs[i], ds[i], hp, e1, e2, h.is i _ _ e1 e2, h.len _ (List.getElem_mem h1), ?_⟩
  exact sees_elem (cs := rs.map cells) (fun l hl => by obtain ⟨r, hr, rfl⟩ := List.mem_map.1 hl; exact h.len r hr) hs (by rw [List.getElem?_map, e1]; rfl)
theorem SeqIs.ext {C : Cx} {hp : List Blk} (hh : HRep C hp w) (hl : C.lent = []) (hIs : ∀ r d, Is C.W0 r d → Is w r d) (h : SeqIs cells k Is C.W0 s rs ds) : SeqIs cells k Is w s rs ds :=
  ⟨h.nr, h.nd, fun i r d h1 h2 => hIs r d (h.is i r d h1 h2), h.len, h.cap, seesP_ext hh hl h.see, h.max, h.nil⟩
theorem SeqIs.none : SeqIs cells k Is W Sl.nil [] [] :=
  ⟨rfl, rfl, fun i r d h => (by simp at h), fun r h => (by cases h), Nat.le_refl _, SeesP.nil, Nat.zero_le _, fun _ => rfl⟩
theorem acc_seq {bl : List Blk} {E : TypeId} {n : Nat} (h : Acc s bl (rs.map cells).flatten E n k) (hl : Lies bl w) (hr : rs.length = n) (hd : ds.length = n) (hlen : ∀ r ∈ rs, (cells r).length = k) (hm : n ≤ 1000000) (his : ∀ (i : Nat) (r : R) (d : D), rs[i]? = some r → ds[i]? = some d → Is w r d) : SeqIs cells k Is w s rs ds :=
  ⟨by rw [h.num, hr], by rw [h.num, hd], his, hlen, h.cap, h.see hl, by rw [h.num]; unfold maxLen; omega, h.nilc⟩
end

/-- a list of one's own, with what its elements hold -/
structure OwnSeq {R D : Type} (cells : R → List Value) (k : Nat) (Is : World → R → D → Prop) (E : TypeId) (s : Sl) (bl bl2 : List Blk) (rs : List R) (ds : List D) (n : Nat) : Prop where
  acc : Acc s bl (rs.map cells).flatten E n k
  nr : rs.length = n
  nd : ds.length = n
  len : ∀ r ∈ rs, (cells r).length = k
  is : ∀ W2, Lies bl2 W2 → ∀ (i : Nat) (r : R) (d : D), rs[i]? = some r → ds[i]? = some d → Is W2 r d
section
variable {R D : Type} {cells : R → List Value} {k : Nat} {Is : World → R → D → Prop} {w : World} {E : TypeId} {s s' : Sl} {bl bl' bl2 bl3 : List Blk} {rs : List R} {ds : List D} {n : Nat}
theorem OwnSeq.none : OwnSeq cells k Is E Sl.nil [] [] [] [] 0 := ⟨Acc.none, rfl, rfl, fun r h => (by cases h), fun W2 _ i r d h => (by simp at h)⟩
theorem OwnSeq.seq (h : OwnSeq cells k Is E s bl bl2 rs ds n) (h1 : Lies bl w) (h2 : Lies bl2 w) (hm : n ≤ 1000000) : SeqIs cells k Is w s rs ds := acc_seq h.acc h1 h.nr h.nd h.len hm (h.is w h2)
end

section
variable {C : Cx} {ops : Array Oper} {rest : List (Nat × Oper)} {sl : List (Nat × Value)} {hp : List Blk} {Q : St → Prop} {c d : Nat} {ty : TypeId} {pos : String} {af : Array Edge} {g : Option (Nat × Bool)}
variable {f : Operand} {fid : FuncId} {ars : List Operand} {ats : Array TypeId} {vs us : List Value} {fst cap : Array Value}
end

section
variable {H : Type} {enc : TypeId × Value → H} {P : Program} {W : World} {base : Nat} {sp : Nat → Bool} {held : Bool}
end
end Hw
end

section
namespace Go.Proofs.YtpacobmjjjillaaGreat
open Go Hw
set_option linter.unusedSimpArgs false
set_option linter.unusedVariables false
set_option maxRecDepth 100000
/-- a vote is its own data -/
structure VoteIs (W : World) (x : Vote) (d : Vote) : Prop where
  ok : x.ok
  eq : x = d
  wf : (Lit.int .i64 d.fPhase).wf = true
theorem VoteIs.ext {C : Cx} {hp : List Blk} {w : World} {x d : Vote} (h : VoteIs C.W0 x d) (hh : HRep C hp w) (hl : C.lent = []) : VoteIs w x d := ⟨h.ok, h.eq, h.wf⟩
section
variable {H : Type} {enc : TypeId × Value → H} {P : Program} {W : World} {base : Nat} {sp : Nat → Bool} {held : Bool}
end
section
variable {H : Type} {enc : TypeId × Value → H} {W : World} {base : Nat} {sp : Nat → Bool} {held : Bool}
end
section
variable {H : Type} {enc : TypeId × Value → H} {W : World} {base : Nat} {sp : Nat → Bool} {held : Bool}
end
section
variable {H : Type} {enc : TypeId × Value → H} {W : World} {base : Nat} {sp : Nat → Bool} {held : Bool}
end
section
variable {H : Type} {enc : TypeId × Value → H} {W : World} {base : Nat} {sp : Nat → Bool} {held : Bool}
end
section
variable {H : Type} {enc : TypeId × Value → H} {W : World} {base : Nat} {sp : Nat → Bool} {held : Bool}
end

end Go.Proofs.YtpacobmjjjillaaGreat
end

section
namespace Go.Proofs.YtpacobmjjjillaaGreat
open Go Hw
set_option linter.unusedVariables false
set_option linter.unusedSimpArgs false

theorem Acc.hrep {P : Program} {W : World} {N : Nat} {s : Sl} {bl : List Blk} {cells : List Value} {E : TypeId} {n size : Nat} (h : Hw.Acc s bl cells E n size) (hl : Lies bl W) : HRep ⟨P, W, N, bl.map (·.n), [], []⟩ bl W :=
  ⟨hl, by rcases h with ⟨_, rfl, _⟩ | ⟨q, c, _, _, _, rfl⟩ <;> simp, fun b hb => .inr (List.mem_map.2 ⟨b, hb, rfl⟩), Keeps.refl _ _, fun _ h => (by cases h), fun _ _ _ h => (by cases h)⟩
end Go.Proofs.YtpacobmjjjillaaGreat
end

section
namespace Ed
set_option linter.unusedVariables false

abbrev ClsOf {C : Type → Type} {a : Type} (_ : C a) : Type → Type := C
abbrev CommRing : Type → Type := ClsOf Dyadic.instCommRing
/-- a field in which -1 is a square and d is not one -/
structure Cv (R : Type) [CommRing R] where
  d : R
  i : R
  inv : R → R
  one_ne : (1 : R) ≠ 0
  two_ne : (1 : R) + 1 ≠ 0
  mul_inv : ∀ a : R, a ≠ 0 → a * inv a = 1
  inv_zero : inv 0 = 0
  i_sq : i * i = -1
  nsq : ∀ z : R, z * z ≠ d

structure Pt (R : Type) where
  x : R
  y : R

section
variable {R : Type} [CommRing R] (C : Cv R)
theorem Cv.no_zero (C : Cv R) {a b : R} (ha : a ≠ 0) (hb : b ≠ 0) : a * b ≠ 0 := fun h => by
  have h1 := C.mul_inv a ha
  have h2 := C.mul_inv b hb
  exact C.one_ne (by grind)
theorem Cv.zero_or (C : Cv R) {a b : R} (h : a * b = 0) : a = 0 ∨ b = 0 := by
  by_cases ha : a = 0
  · exact .inl ha
  · by_cases hb : b = 0
    · exact .inr hb
    · exact absurd h (C.no_zero ha hb)
theorem Cv.cancel (C : Cv R) {a u v : R} (ha : a ≠ 0) (h : a * u = a * v) : u = v := by
  have h1 := C.mul_inv a ha
  grind
def Cv.on (P : Pt R) : Prop := P.y * P.y - P.x * P.x = 1 + C.d * P.x * P.x * P.y * P.y
def Cv.e (P Q : Pt R) : R := C.d * P.x * Q.x * P.y * Q.y
def Cv.add (P Q : Pt R) : Pt R := ⟨(P.x * Q.y + Q.x * P.y) * C.inv (1 + C.e P Q), (P.y * Q.y + P.x * Q.x) * C.inv (1 - C.e P Q)⟩
def zero : Pt R := ⟨0, 1⟩
def neg (P : Pt R) : Pt R := ⟨-P.x, P.y⟩

theorem Cv.sq_no {u v : R} (hv : v ≠ 0) (h : u * u = C.d * (v * v)) : False := by
  have h1 := C.mul_inv v hv
  exact C.nsq (u * C.inv v) (by grind)
theorem Cv.complete {P Q : Pt R} (hP : C.on P) (hQ : C.on Q) : C.e P Q * C.e P Q ≠ 1 := fun h => by
  obtain ⟨x1, y1⟩ := P
  obtain ⟨x2, y2⟩ := Q
  simp only [on, e] at *
  have hi := C.i_sq
  have h1 : (C.i * x1 + C.d * x1 * x2 * y1 * y2 * y1) * (C.i * x1 + C.d * x1 * x2 * y1 * y2 * y1) = C.d * ((x1 * y1 * (C.i * x2 + y2)) * (x1 * y1 * (C.i * x2 + y2))) := by grind
  have h2 : (C.i * x1 - C.d * x1 * x2 * y1 * y2 * y1) * (C.i * x1 - C.d * x1 * x2 * y1 * y2 * y1) = C.d * ((x1 * y1 * (C.i * x2 - y2)) * (x1 * y1 * (C.i * x2 - y2))) := by grind
  have n1 : x1 ≠ 0 := fun e => C.one_ne (by rw [e] at h; grind)
  have n2 : y1 ≠ 0 := fun e => C.one_ne (by rw [e] at h; grind)
  have n3 : y2 ≠ 0 := fun e => C.one_ne (by rw [e] at h; grind)
  have n4 := C.no_zero n1 n2
  by_cases h3 : C.i * x2 + y2 = 0
  · by_cases h4 : C.i * x2 - y2 = 0
    · have h5 : (1 + 1) * y2 = 0 := by grind
      rcases C.zero_or h5 with h6 | h6
      · exact C.two_ne h6
      · exact n3 h6
    · exact C.sq_no (C.no_zero n4 h4) h2
  · exact C.sq_no (C.no_zero n4 h3) h1
theorem Cv.plus_ne {P Q : Pt R} (hP : C.on P) (hQ : C.on Q) : 1 + C.e P Q ≠ 0 := fun h => C.complete hP hQ (by grind)
theorem Cv.minus_ne {P Q : Pt R} (hP : C.on P) (hQ : C.on Q) : 1 - C.e P Q ≠ 0 := fun h => C.complete hP hQ (by grind)

theorem Cv.on_zero : C.on (zero : Pt R) := by simp only [on, zero]; grind
theorem Cv.on_neg {P : Pt R} (h : C.on P) : C.on (neg P) := by simp only [on, neg] at *; grind
theorem Cv.add_zero (P : Pt R) : C.add P zero = P := by
  obtain ⟨x, y⟩ := P
  have h1 := C.mul_inv 1 C.one_ne
  have h2 : C.e ⟨x, y⟩ ⟨0, 1⟩ = 0 := by simp only [e]; grind
  simp only [add, zero, h2]
  rw [show (1 : R) + 0 = 1 by grind, show (1 : R) - 0 = 1 by grind]
  congr 1 <;> grind
theorem Cv.e_comm (P Q : Pt R) : C.e P Q = C.e Q P := by simp only [e]; grind
theorem Cv.add_comm (P Q : Pt R) : C.add P Q = C.add Q P := by
  simp only [add, C.e_comm P Q]
  congr 1 <;> grind
theorem Cv.add_neg {P : Pt R} (h : C.on P) : C.add P (neg P) = zero := by
  have h1 := C.mul_inv _ (C.minus_ne h (C.on_neg h))
  obtain ⟨x, y⟩ := P
  simp only [on, add, neg, zero, e] at *
  congr 1 <;> grind
theorem Cv.on_add {P Q : Pt R} (hP : C.on P) (hQ : C.on Q) : C.on (C.add P Q) := by
  have h1 := C.mul_inv _ (C.plus_ne hP hQ)
  have h2 := C.mul_inv _ (C.minus_ne hP hQ)
  obtain ⟨x1, y1⟩ := P
  obtain ⟨x2, y2⟩ := Q
  simp only [on, add, e] at *
  generalize C.inv (1 + C.d * x1 * x2 * y1 * y2) = a at *
  generalize C.inv (1 - C.d * x1 * x2 * y1 * y2) = b at *
  have k : ((y1*y2+x1*x2)*(1 + C.d*x1*x2*y1*y2))*((y1*y2+x1*x2)*(1 + C.d*x1*x2*y1*y2)) - ((x1*y2+x2*y1)*(1 - C.d*x1*x2*y1*y2))*((x1*y2+x2*y1)*(1 - C.d*x1*x2*y1*y2)) = ((1 + C.d*x1*x2*y1*y2)*(1 - C.d*x1*x2*y1*y2))*((1 + C.d*x1*x2*y1*y2)*(1 - C.d*x1*x2*y1*y2)) + C.d*((x1*y2+x2*y1)*(x1*y2+x2*y1))*((y1*y2+x1*x2)*(y1*y2+x1*x2)) := by grind
  generalize C.d * x1 * x2 * y1 * y2 = ee at *
  generalize y1*y2+x1*x2 = B at *
  generalize x1*y2+x2*y1 = A at *
  clear hP hQ
  have e1 : (a * b) * (a * b) * (B * (1 + ee) * (B * (1 + ee)) - A * (1 - ee) * (A * (1 - ee))) = B * b * (B * b) - A * a * (A * a) := by grind
  have e2 : (a * b) * (a * b) * ((1 + ee) * (1 - ee) * ((1 + ee) * (1 - ee)) + C.d * (A * A) * (B * B)) = 1 + C.d * (A * a) * (A * a) * (B * b) * (B * b) := by grind
  rw [← e1, ← e2, k]

theorem Cv.frac (C : Cv R) {X Y n m k l : R} (hm : m ≠ 0) (hl : l ≠ 0) (h1 : X * m = n) (h2 : Y * l = k) (h : n * l = k * m) : X = Y :=
  C.cancel (C.no_zero hm hl) (by grind)
theorem Cv.third {P Q S : Pt R} (hP : C.on P) (hQ : C.on Q) (hS : C.on S) :
    (C.add (C.add P Q) S).x * ((1 - C.e P Q) * (1 + C.e P Q) + C.d * S.x * S.y * (P.x * Q.y + Q.x * P.y) * (P.y * Q.y + P.x * Q.x)) = (P.x * Q.y + Q.x * P.y) * S.y * (1 - C.e P Q) + S.x * (P.y * Q.y + P.x * Q.x) * (1 + C.e P Q) ∧
    (C.add (C.add P Q) S).y * ((1 - C.e P Q) * (1 + C.e P Q) - C.d * S.x * S.y * (P.x * Q.y + Q.x * P.y) * (P.y * Q.y + P.x * Q.x)) = (P.y * Q.y + P.x * Q.x) * S.y * (1 + C.e P Q) + S.x * (P.x * Q.y + Q.x * P.y) * (1 - C.e P Q) ∧
    (1 - C.e P Q) * (1 + C.e P Q) + C.d * S.x * S.y * (P.x * Q.y + Q.x * P.y) * (P.y * Q.y + P.x * Q.x) ≠ 0 ∧ (1 - C.e P Q) * (1 + C.e P Q) - C.d * S.x * S.y * (P.x * Q.y + Q.x * P.y) * (P.y * Q.y + P.x * Q.x) ≠ 0 := by
  have p1 := C.plus_ne hP hQ
  have p2 := C.minus_ne hP hQ
  have hA := C.on_add hP hQ
  have p3 := C.plus_ne hA hS
  have p4 := C.minus_ne hA hS
  have h1 := C.mul_inv _ p1
  have h2 := C.mul_inv _ p2
  have h3 := C.mul_inv _ p3
  have h4 := C.mul_inv _ p4
  have m1 := C.no_zero (C.no_zero p2 p1) p3
  have m2 := C.no_zero (C.no_zero p2 p1) p4
  generalize he : C.e P Q = ee at *
  have eA : C.e (C.add P Q) S = C.d * ((P.x * Q.y + Q.x * P.y) * C.inv (1 + ee)) * S.x * ((P.y * Q.y + P.x * Q.x) * C.inv (1 - ee)) * S.y := by rw [← he]; rfl
  have xA : (C.add (C.add P Q) S).x = ((P.x * Q.y + Q.x * P.y) * C.inv (1 + ee) * S.y + S.x * ((P.y * Q.y + P.x * Q.x) * C.inv (1 - ee))) * C.inv (1 + C.e (C.add P Q) S) := by rw [← he]; rfl
  have yA : (C.add (C.add P Q) S).y = ((P.y * Q.y + P.x * Q.x) * C.inv (1 - ee) * S.y + (P.x * Q.y + Q.x * P.y) * C.inv (1 + ee) * S.x) * C.inv (1 - C.e (C.add P Q) S) := by rw [← he]; rfl
  rw [xA, yA]
  generalize C.inv (1 + C.e (C.add P Q) S) = u at *
  generalize C.inv (1 - C.e (C.add P Q) S) = v at *
  rw [eA] at h3 h4 m1 m2
  generalize C.inv (1 + ee) = a at *
  generalize C.inv (1 - ee) = b at *
  generalize P.x * Q.y + Q.x * P.y = A at *
  generalize P.y * Q.y + P.x * Q.x = B at *
  clear he eA xA yA hA p3 p4 hP hQ hS
  have k1 : (1 - ee) * (1 + ee) + C.d * S.x * S.y * A * B = (1 - ee) * (1 + ee) * (1 + C.d * (A * a) * S.x * (B * b) * S.y) := by grind
  have k2 : (1 - ee) * (1 + ee) - C.d * S.x * S.y * A * B = (1 - ee) * (1 + ee) * (1 - C.d * (A * a) * S.x * (B * b) * S.y) := by grind
  rw [k1, k2]
  refine ⟨?_, ?_, m1, m2⟩
  · generalize (1 + C.d * (A * a) * S.x * (B * b) * S.y) = w at *
    have : (A * a * S.y + S.x * (B * b)) * u * ((1 - ee) * (1 + ee) * w) = (A * ((1 + ee) * a) * (1 - ee) * S.y + S.x * (B * ((1 - ee) * b)) * (1 + ee)) * (w * u) := by grind
    rw [this, h1, h2, h3]; grind
  · generalize (1 - C.d * (A * a) * S.x * (B * b) * S.y) = w at *
    have : (B * b * S.y + A * a * S.x) * v * ((1 - ee) * (1 + ee) * w) = (B * ((1 - ee) * b) * (1 + ee) * S.y + S.x * (A * ((1 + ee) * a)) * (1 - ee)) * (w * v) := by grind
    rw [this, h1, h2, h4]; grind
theorem Cv.add_assoc {P Q S : Pt R} (hP : C.on P) (hQ : C.on Q) (hS : C.on S) : C.add (C.add P Q) S = C.add P (C.add Q S) := by
  rw [C.add_comm P (C.add Q S)]
  obtain ⟨a1, a2, a3, a4⟩ := C.third hP hQ hS
  obtain ⟨b1, b2, b3, b4⟩ := C.third hQ hS hP
  have hx : (C.add (C.add P Q) S).x = (C.add (C.add Q S) P).x := by
    refine C.frac a3 b3 a1 b1 ?_
    clear a1 a2 a3 a4 b1 b2 b3 b4
    simp only [on, e] at *
    grind
  have hy : (C.add (C.add P Q) S).y = (C.add (C.add Q S) P).y := by
    refine C.frac a4 b4 a2 b2 ?_
    clear a1 a2 a3 a4 b1 b2 b3 b4 hx
    simp only [on, e] at *
    grind
  revert hx hy
  generalize C.add (C.add P Q) S = U
  generalize C.add (C.add Q S) P = V
  obtain ⟨x, y⟩ := U
  obtain ⟨z, w⟩ := V
  rintro rfl rfl
  rfl
end
section
variable {R : Type} [CommRing R] (C : Cv R)
theorem Cv.zero_add (P : Pt R) : C.add zero P = P := by rw [C.add_comm, C.add_zero]
/-- P, n times -/
def Cv.mul : Nat → Pt R → Pt R
  | 0, _ => zero
  | n + 1, P => C.add (Cv.mul n P) P
theorem Cv.on_mul {P : Pt R} (h : C.on P) : ∀ n, C.on (C.mul n P)
  | 0 => C.on_zero
  | n + 1 => C.on_add (Cv.on_mul h n) h
theorem Cv.mul_one (P : Pt R) : C.mul 1 P = P := C.zero_add P
theorem Cv.mul_add {P : Pt R} (h : C.on P) (m : Nat) : ∀ n, C.mul (m + n) P = C.add (C.mul m P) (C.mul n P)
  | 0 => (C.add_zero _).symm
  | n + 1 => by
    show C.add (C.mul (m + n) P) P = C.add (C.mul m P) (C.add (C.mul n P) P)
    rw [Cv.mul_add h m n, C.add_assoc (C.on_mul h m) (C.on_mul h n) h]
theorem Cv.swap4 {P Q S T : Pt R} (hP : C.on P) (hQ : C.on Q) (hS : C.on S) (hT : C.on T) : C.add (C.add P Q) (C.add S T) = C.add (C.add P S) (C.add Q T) := by
  rw [C.add_assoc hP hQ (C.on_add hS hT), ← C.add_assoc hQ hS hT, C.add_comm Q S, C.add_assoc hS hQ hT, ← C.add_assoc hP hS (C.on_add hQ hT)]
theorem Cv.mul_plus {P Q : Pt R} (hP : C.on P) (hQ : C.on Q) : ∀ n, C.mul n (C.add P Q) = C.add (C.mul n P) (C.mul n Q)
  | 0 => (C.add_zero _).symm
  | n + 1 => by
    show C.add (C.mul n (C.add P Q)) (C.add P Q) = C.add (C.add (C.mul n P) P) (C.add (C.mul n Q) Q)
    rw [Cv.mul_plus hP hQ n, C.swap4 (C.on_mul hP n) (C.on_mul hQ n) hP hQ]
theorem Cv.mul_zero : ∀ n, C.mul n (zero : Pt R) = zero
  | 0 => rfl
  | n + 1 => by show C.add (C.mul n zero) zero = zero; rw [Cv.mul_zero n, C.add_zero]
theorem Cv.mul_mul {P : Pt R} (h : C.on P) (m : Nat) : ∀ n, C.mul (m * n) P = C.mul m (C.mul n P)
  | 0 => (C.mul_zero m).symm
  | n + 1 => by
    rw [Nat.mul_succ, C.mul_add h, Cv.mul_mul h m n]
    show _ = C.mul m (C.add (C.mul n P) P)
    rw [C.mul_plus (C.on_mul h n) h]
theorem Cv.mul_two {P : Pt R} (h : C.on P) (n : Nat) : C.mul (2 * n) P = C.add (C.mul n P) (C.mul n P) := by rw [Nat.two_mul, C.mul_add h]
theorem Cv.mul_order {P : Pt R} (h : C.on P) {L : Nat} (hL : C.mul L P = zero) (n : Nat) : C.mul (n % L) P = C.mul n P := by
  have e : C.mul (n % L + L * (n / L)) P = C.mul (n % L) P := by
    rw [C.mul_add h, Nat.mul_comm, C.mul_mul h, hL, C.mul_zero, C.add_zero]
  rw [← e, Nat.mod_add_div]
theorem Cv.neg_unique {P Q : Pt R} (hP : C.on P) (hQ : C.on Q) (h : C.add P Q = zero) : Q = neg P := by
  have h1 := C.add_assoc (C.on_neg hP) hP hQ
  rw [h, C.add_zero, C.add_comm (neg P) P, C.add_neg hP, C.zero_add] at h1
  exact h1
theorem Cv.neg_add {P Q : Pt R} (hP : C.on P) (hQ : C.on Q) : neg (C.add P Q) = C.add (neg P) (neg Q) := by
  refine (C.neg_unique (C.on_add hP hQ) (C.on_add (C.on_neg hP) (C.on_neg hQ)) ?_).symm
  rw [C.swap4 hP hQ (C.on_neg hP) (C.on_neg hQ), C.add_neg hP, C.add_neg hQ, C.add_zero]
theorem Cv.mul_neg {P : Pt R} (h : C.on P) : ∀ n, C.mul n (neg P) = neg (C.mul n P)
  | 0 => by show (zero : Pt R) = neg zero; simp only [zero, neg]; congr 1; grind
  | n + 1 => by
    show C.add (C.mul n (neg P)) (neg P) = neg (C.add (C.mul n P) P)
    rw [Cv.mul_neg h n, C.neg_add (C.on_mul h n) h]

theorem Cv.below_ne (C : Cv R) (Y : R) : C.d * (Y * Y) + 1 ≠ 0 := fun h => by
  have hi := C.i_sq
  by_cases hY : Y = 0
  · rw [hY] at h
    exact C.one_ne (by grind)
  · exact C.sq_no (u := C.i) (v := Y) hY (by grind)
theorem Cv.on_read {x Y u : R} (h2 : (C.d * (Y * Y) + 1) * u = 1) (h3 : x * x = (Y * Y - 1) * u) : C.on ⟨x, Y⟩ := by
  show Y * Y - x * x = 1 + C.d * x * x * Y * Y
  have h4 : x * x * (C.d * (Y * Y) + 1) = Y * Y - 1 := by
    rw [h3]
    have : (Y * Y - 1) * u * (C.d * (Y * Y) + 1) = (Y * Y - 1) * ((C.d * (Y * Y) + 1) * u) := by grind
    rw [this, h2]; grind
  grind
theorem Cv.on_iff (P : Pt R) : C.on P ↔ P.y * P.y - P.x * P.x = 1 + C.d * (P.x * P.x * (P.y * P.y)) := by
  have e : C.d * P.x * P.x * P.y * P.y = C.d * (P.x * P.x * (P.y * P.y)) := by grind
  simp only [on, e]
theorem sq_neg (x : R) : -x * -x = x * x := by grind
/-- extended coordinates -/
structure Wd (R : Type) where
  x : R
  y : R
  z : R
  t : R
structure Wd.rep (w : Wd R) (P : Pt R) : Prop where
  z : w.z ≠ 0
  x : w.x = P.x * w.z
  y : w.y = P.y * w.z
  t : w.t = P.x * P.y * w.z
def Wd.fin (e f g h : R) : Wd R := ⟨e * f, g * h, f * g, e * h⟩
def Wd.add (d : R) (w p : Wd R) : Wd R :=
  Wd.fin ((w.y + w.x) * (p.y + p.x) - (w.y - w.x) * (p.y - p.x)) (w.z * p.z + w.z * p.z - w.t * (d + d) * p.t) (w.z * p.z + w.z * p.z + w.t * (d + d) * p.t) ((w.y + w.x) * (p.y + p.x) + (w.y - w.x) * (p.y - p.x))
def Wd.dbl (w : Wd R) : Wd R :=
  Wd.fin (w.x * w.x + w.y * w.y - (w.x + w.y) * (w.x + w.y)) (w.z * w.z + w.z * w.z + (w.x * w.x - w.y * w.y)) (w.x * w.x - w.y * w.y) (w.x * w.x + w.y * w.y)
def Wd.of (P : Pt R) : Wd R := ⟨P.x, P.y, 1, P.x * P.y⟩
theorem Cv.rep_of (C : Cv R) (P : Pt R) : (Wd.of P).rep P := ⟨C.one_ne, by simp only [Wd.of]; grind, by simp only [Wd.of]; grind, by simp only [Wd.of]; grind⟩
theorem Cv.rep_add {w p : Wd R} {P Q : Pt R} (hw : w.rep P) (hp : p.rep Q) (hP : C.on P) (hQ : C.on Q) : (Wd.add C.d w p).rep (C.add P Q) := by
  have p1 := C.plus_ne hP hQ
  have p2 := C.minus_ne hP hQ
  have h1 := C.mul_inv _ p1
  have h2 := C.mul_inv _ p2
  obtain ⟨w1, w2, w3, w4⟩ := hw
  obtain ⟨q1, q2, q3, q4⟩ := hp
  have hzz := C.no_zero w1 q1
  have hz2 := C.no_zero (C.no_zero C.two_ne hzz) (C.no_zero C.two_ne hzz)
  have hz3 := C.no_zero hz2 (C.no_zero p2 p1)
  obtain ⟨x, y, z, t⟩ := w
  obtain ⟨x', y', z', t'⟩ := p
  simp only at *
  subst w2 w3 w4 q2 q3 q4
  have e1 : C.e P Q = C.d * P.x * Q.x * P.y * Q.y := rfl
  simp only [Cv.add, Wd.add, Wd.fin]
  generalize C.inv (1 + C.e P Q) = a at *
  generalize C.inv (1 - C.e P Q) = b at *
  have f1 : z * z' + z * z' - P.x * P.y * z * (C.d + C.d) * (Q.x * Q.y * z') = (1 + 1) * (z * z') * (1 - C.e P Q) := by rw [e1]; grind
  have f2 : z * z' + z * z' + P.x * P.y * z * (C.d + C.d) * (Q.x * Q.y * z') = (1 + 1) * (z * z') * (1 + C.e P Q) := by rw [e1]; grind
  have f3 : (P.y * z + P.x * z) * (Q.y * z' + Q.x * z') - (P.y * z - P.x * z) * (Q.y * z' - Q.x * z') = (1 + 1) * (z * z') * (P.x * Q.y + Q.x * P.y) := by grind
  have f4 : (P.y * z + P.x * z) * (Q.y * z' + Q.x * z') + (P.y * z - P.x * z) * (Q.y * z' - Q.x * z') = (1 + 1) * (z * z') * (P.y * Q.y + P.x * Q.x) := by grind
  rw [f1, f2, f3, f4]
  generalize P.x * Q.y + Q.x * P.y = A at *
  generalize P.y * Q.y + P.x * Q.x = B at *
  generalize C.e P Q = ee at *
  generalize (1 + 1) * (z * z') = k at *
  constructor <;> simp only
  · intro h; exact hz3 (by grind)
  · have : A * a * (k * (1 - ee) * (k * (1 + ee))) = k * A * (k * (1 - ee)) * ((1 + ee) * a) := by grind
    rw [this, h1]; grind
  · have : B * b * (k * (1 - ee) * (k * (1 + ee))) = k * (1 + ee) * (k * B) * ((1 - ee) * b) := by grind
    rw [this, h2]; grind
  · have : A * a * (B * b) * (k * (1 - ee) * (k * (1 + ee))) = k * A * (k * B) * ((1 + ee) * a) * ((1 - ee) * b) := by grind
    rw [this, h1, h2]; grind
theorem Cv.rep_dbl {w : Wd R} {P : Pt R} (hw : w.rep P) (hP : C.on P) : (Wd.dbl w).rep (C.add P P) := by
  have p1 := C.plus_ne hP hP
  have p2 := C.minus_ne hP hP
  have h1 := C.mul_inv _ p1
  have h2 := C.mul_inv _ p2
  obtain ⟨w1, w2, w3, w4⟩ := hw
  have hzz := C.no_zero w1 w1
  have hz2 := C.no_zero hzz hzz
  have hz3 := C.no_zero hz2 (C.no_zero p2 p1)
  obtain ⟨x, y, z, t⟩ := w
  simp only at *
  subst w2 w3 w4
  have e1 : P.y * P.y - P.x * P.x = 1 + C.e P P := by
    have h := hP
    simp only [on] at h
    rw [h]; rfl
  simp only [Cv.add, Wd.dbl, Wd.fin]
  generalize C.inv (1 + C.e P P) = a at *
  generalize C.inv (1 - C.e P P) = b at *
  generalize C.e P P = ee at *
  have f1 : z * z + z * z + (P.x * z * (P.x * z) - P.y * z * (P.y * z)) = (z * z) * (1 - ee) := by grind
  have f2 : P.x * z * (P.x * z) - P.y * z * (P.y * z) = - ((z * z) * (1 + ee)) := by grind
  have f3 : P.x * z * (P.x * z) + P.y * z * (P.y * z) - (P.x * z + P.y * z) * (P.x * z + P.y * z) = - ((z * z) * (P.x * P.y + P.x * P.y)) := by grind
  have f4 : P.x * z * (P.x * z) + P.y * z * (P.y * z) = (z * z) * (P.y * P.y + P.x * P.x) := by grind
  rw [f1, f2, f3, f4]
  clear f1 f2 f3 f4 e1
  generalize P.x * P.y + P.x * P.y = A at *
  generalize P.y * P.y + P.x * P.x = B at *
  generalize z * z = k at *
  constructor <;> simp only
  · intro h; exact hz3 (by grind)
  · have : A * a * (k * (1 - ee) * -(k * (1 + ee))) = -(k * A) * (k * (1 - ee)) * ((1 + ee) * a) := by grind
    rw [this, h1]; grind
  · have : B * b * (k * (1 - ee) * -(k * (1 + ee))) = -(k * (1 + ee)) * (k * B) * ((1 - ee) * b) := by grind
    rw [this, h2]; grind
  · have : A * a * (B * b) * (k * (1 - ee) * -(k * (1 + ee))) = -(k * A) * (k * B) * ((1 + ee) * a) * ((1 - ee) * b) := by grind
    rw [this, h1, h2]; grind
theorem Cv.rep_pt {w : Wd R} {P : Pt R} (hw : w.rep P) : (⟨w.x * C.inv w.z, w.y * C.inv w.z⟩ : Pt R) = P := by
  have h1 := C.mul_inv _ hw.z
  rw [hw.x, hw.y]
  obtain ⟨x, y⟩ := P
  simp only
  congr 1 <;> grind

/-- three coordinates -/
structure Fr (R : Type) where
  x : R
  y : R
  z : R
structure Fr.rep (w : Fr R) (P : Pt R) : Prop where
  z : w.z ≠ 0
  x : w.x = P.x * w.z
  y : w.y = P.y * w.z
def Fr.add (d : R) (p q : Fr R) : Fr R :=
  ⟨p.z * q.z * ((p.z * q.z * (p.z * q.z) - d * (p.x * q.x * (p.y * q.y))) * ((p.x + p.y) * (q.x + q.y) - (p.x * q.x + p.y * q.y))), p.z * q.z * ((p.z * q.z * (p.z * q.z) + d * (p.x * q.x * (p.y * q.y))) * (p.x * q.x + p.y * q.y)), (p.z * q.z * (p.z * q.z) - d * (p.x * q.x * (p.y * q.y))) * (p.z * q.z * (p.z * q.z) + d * (p.x * q.x * (p.y * q.y)))⟩
def Fr.of (P : Pt R) : Fr R := ⟨P.x, P.y, 1⟩
theorem Cv.far_of (C : Cv R) (P : Pt R) : (Fr.of P).rep P := ⟨C.one_ne, by simp only [Fr.of]; grind, by simp only [Fr.of]; grind⟩
theorem Cv.far_add {w p : Fr R} {P Q : Pt R} (hw : w.rep P) (hp : p.rep Q) (hP : C.on P) (hQ : C.on Q) : (Fr.add C.d w p).rep (C.add P Q) := by
  have p1 := C.plus_ne hP hQ
  have p2 := C.minus_ne hP hQ
  have h1 := C.mul_inv _ p1
  have h2 := C.mul_inv _ p2
  obtain ⟨w1, w2, w3⟩ := hw
  obtain ⟨q1, q2, q3⟩ := hp
  have hzz := C.no_zero w1 q1
  have hz2 := C.no_zero (C.no_zero hzz hzz) (C.no_zero hzz hzz)
  have hz3 := C.no_zero hz2 (C.no_zero p2 p1)
  obtain ⟨x, y, z⟩ := w
  obtain ⟨x', y', z'⟩ := p
  simp only at *
  subst w2 w3 q2 q3
  have e1 : C.e P Q = C.d * P.x * Q.x * P.y * Q.y := rfl
  simp only [Cv.add, Fr.add]
  generalize C.inv (1 + C.e P Q) = a at *
  generalize C.inv (1 - C.e P Q) = b at *
  have f1 : z * z' * (z * z') - C.d * (P.x * z * (Q.x * z') * (P.y * z * (Q.y * z'))) = z * z' * (z * z') * (1 - C.e P Q) := by rw [e1]; grind
  have f2 : z * z' * (z * z') + C.d * (P.x * z * (Q.x * z') * (P.y * z * (Q.y * z'))) = z * z' * (z * z') * (1 + C.e P Q) := by rw [e1]; grind
  have f3 : (P.x * z + P.y * z) * (Q.x * z' + Q.y * z') - (P.x * z * (Q.x * z') + P.y * z * (Q.y * z')) = z * z' * (P.x * Q.y + Q.x * P.y) := by grind
  have f4 : P.x * z * (Q.x * z') + P.y * z * (Q.y * z') = z * z' * (P.y * Q.y + P.x * Q.x) := by grind
  rw [f3, f1, f2, f4]
  clear f1 f2 f3 f4
  generalize P.x * Q.y + Q.x * P.y = A at *
  generalize P.y * Q.y + P.x * Q.x = B at *
  generalize C.e P Q = ee at *
  generalize z * z' = k at *
  constructor <;> simp only
  · intro h; exact hz3 (by grind)
  · have : A * a * (k * k * (1 - ee) * (k * k * (1 + ee))) = k * (k * k * (1 - ee) * (k * A)) * ((1 + ee) * a) := by grind
    rw [this, h1]; grind
  · have : B * b * (k * k * (1 - ee) * (k * k * (1 + ee))) = k * (k * k * (1 + ee) * (k * B)) * ((1 - ee) * b) := by grind
    rw [this, h2]; grind
theorem Cv.far_pt {w : Fr R} {P : Pt R} (hw : w.rep P) : (⟨w.x * C.inv w.z, w.y * C.inv w.z⟩ : Pt R) = P := by
  have h1 := C.mul_inv _ hw.z
  rw [hw.x, hw.y]
  obtain ⟨x, y⟩ := P
  simp only
  congr 1 <;> grind

/-- two sums at once: the bits from the highest on -/
def Cv.lin (a b : Nat) (P Q : Pt R) : Pt R := C.add (C.mul a P) (C.mul b Q)
theorem Cv.on_lin {P Q : Pt R} (hP : C.on P) (hQ : C.on Q) (a b : Nat) : C.on (C.lin a b P Q) := C.on_add (C.on_mul hP a) (C.on_mul hQ b)
theorem Cv.lin_two {P Q : Pt R} (hP : C.on P) (hQ : C.on Q) (a b : Nat) : C.lin (2 * a) (2 * b) P Q = C.add (C.lin a b P Q) (C.lin a b P Q) := by
  simp only [lin]
  rw [C.mul_two hP, C.mul_two hQ, C.swap4 (C.on_mul hP a) (C.on_mul hP a) (C.on_mul hQ b) (C.on_mul hQ b)]
theorem Cv.lin_left {P Q : Pt R} (hP : C.on P) (hQ : C.on Q) (a b : Nat) : C.lin (a + 1) b P Q = C.add (C.lin a b P Q) P := by
  simp only [lin]
  show C.add (C.add (C.mul a P) P) (C.mul b Q) = _
  rw [C.add_assoc (C.on_mul hP a) hP (C.on_mul hQ b), C.add_comm P, ← C.add_assoc (C.on_mul hP a) (C.on_mul hQ b) hP]
theorem Cv.lin_right {P Q : Pt R} (hP : C.on P) (hQ : C.on Q) (a b : Nat) : C.lin a (b + 1) P Q = C.add (C.lin a b P Q) Q := by
  simp only [lin]
  show C.add (C.mul a P) (C.add (C.mul b Q) Q) = _
  rw [← C.add_assoc (C.on_mul hP a) (C.on_mul hQ b) hQ]
theorem Cv.lin_both {P Q : Pt R} (hP : C.on P) (hQ : C.on Q) (a b : Nat) : C.lin (a + 1) (b + 1) P Q = C.add (C.lin a b P Q) (C.add P Q) := by
  rw [C.lin_right hP hQ, C.lin_left hP hQ, C.add_assoc (C.on_lin hP hQ a b) hP hQ]
theorem Cv.lin_zero (P Q : Pt R) : C.lin 0 0 P Q = zero := C.add_zero _
/-- n times a point, bit by bit from the highest on -/
def mulW (d : R) (P : Wd R) : List Bool → Wd R → Wd R
  | [], acc => acc
  | true :: bs, acc => mulW d P bs (Wd.add d (Wd.dbl acc) P)
  | false :: bs, acc => mulW d P bs (Wd.dbl acc)
theorem mulW_t (d : R) (P : Wd R) (bs : List Bool) (acc : Wd R) : mulW d P (true :: bs) acc = mulW d P bs (Wd.add d (Wd.dbl acc) P) := rfl
theorem mulW_f (d : R) (P : Wd R) (bs : List Bool) (acc : Wd R) : mulW d P (false :: bs) acc = mulW d P bs (Wd.dbl acc) := rfl
def bitsV (a : Nat) : List Bool → Nat
  | [] => a
  | true :: bs => bitsV (2 * a + 1) bs
  | false :: bs => bitsV (2 * a) bs
theorem Cv.mulW_rep {P : Pt R} (hP : C.on P) {p : Wd R} (hp : p.rep P) : ∀ (bs : List Bool) (acc : Wd R) (a : Nat), acc.rep (C.mul a P) → (mulW C.d p bs acc).rep (C.mul (bitsV a bs) P)
  | [], acc, a, h => h
  | false :: bs, acc, a, h => by
    have h2 : (Wd.dbl acc).rep (C.mul (2 * a) P) := by
      rw [C.mul_two hP]
      exact C.rep_dbl h (C.on_mul hP a)
    exact Cv.mulW_rep hP hp bs _ _ h2
  | true :: bs, acc, a, h => by
    have h2 : (Wd.dbl acc).rep (C.mul (2 * a) P) := by
      rw [C.mul_two hP]
      exact C.rep_dbl h (C.on_mul hP a)
    exact Cv.mulW_rep hP hp bs (Wd.add C.d (Wd.dbl acc) p) (2 * a + 1) (C.rep_add h2 hp (C.on_mul hP _) hP)
end
def toBits : Nat → Nat → List Bool
  | 0, _ => []
  | k + 1, n => (n / 2 ^ k % 2 == 1) :: toBits k n
theorem toBits_v : ∀ (k n a : Nat), bitsV a (toBits k n) = a * 2 ^ k + n % 2 ^ k
  | 0, n, a => by simp [toBits, bitsV, Nat.mod_one]
  | k + 1, n, a => by
    have e1 : n % 2 ^ (k + 1) = n % 2 ^ k + 2 ^ k * (n / 2 ^ k % 2) := by rw [Nat.pow_succ, Nat.mod_mul]
    have h := Nat.mod_two_eq_zero_or_one (n / 2 ^ k)
    rw [toBits, e1]
    rcases h with h | h
    · rw [h, show ((0 : Nat) == 1) = false from rfl, bitsV, toBits_v k n, Nat.pow_succ, Nat.mul_zero, Nat.add_zero, Nat.mul_comm 2 a, Nat.mul_assoc, Nat.mul_comm 2]
    · rw [h, show ((1 : Nat) == 1) = true from rfl, bitsV, toBits_v k n, Nat.pow_succ, Nat.mul_one, Nat.add_mul, Nat.one_mul, Nat.mul_comm 2 a, Nat.mul_assoc, Nat.mul_comm 2]
      omega
end Ed
end

section
namespace Hw
open Go

/-- the number of bytes, little-endian -/
def le : List UInt8 → Nat
  | [] => 0
  | b :: l => b.toNat + 256 * le l

/-- the bytes of a number, little-endian -/
def leb : Nat → Nat → List UInt8
  | 0, _ => []
  | k + 1, n => UInt8.ofNat n :: leb k (n / 256)

def w64 (n : Nat) : UInt64 := UInt64.ofNat n

/-- the number of words, the highest first -/
def wv (l : List UInt64) : Nat := l.foldl (fun a x => a * 2 ^ 64 + x.toNat) 0

def words4 (n : Nat) : List UInt64 := [w64 (n / 2 ^ 192), w64 (n / 2 ^ 128), w64 (n / 2 ^ 64), w64 n]

theorem leb_length : ∀ k n, (leb k n).length = k
  | 0, _ => rfl
  | k + 1, n => by simp [leb, leb_length k]

theorem le_leb : ∀ k n, le (leb k n) = n % 256 ^ k
  | 0, n => by simp [le, leb, Nat.mod_one]
  | k + 1, n => by
    rw [leb, le, le_leb k, Nat.pow_succ, Nat.mul_comm (256 ^ k) 256, Nat.mod_mul]
    simp

theorem le_lt : ∀ l : List UInt8, le l < 256 ^ l.length
  | [] => by simp [le]
  | b :: l => by
    have := le_lt l
    have := b.toNat_lt
    rw [le, List.length_cons, Nat.pow_succ]
    omega

theorem le32 {l : List UInt8} (h : l.length = 32) : le l < 2 ^ 256 := by
  have := le_lt l; rw [h] at this; exact this

theorem leb_le : ∀ l : List UInt8, leb l.length (le l) = l
  | [] => rfl
  | b :: l => by
    have h := b.toNat_lt
    have h1 : (b.toNat + 256 * le l) / 256 = le l := by omega
    have h2 : UInt8.ofNat (b.toNat + 256 * le l) = b := by
      apply UInt8.toNat_inj.1
      rw [UInt8.toNat_ofNat']
      omega
    rw [le, List.length_cons, leb, h1, h2, leb_le l]

theorem le_append : ∀ a b : List UInt8, le (a ++ b) = le a + 256 ^ a.length * le b
  | [], b => by simp [le]
  | x :: a, b => by
    have : 256 ^ a.length * 256 * le b = 256 * (256 ^ a.length * le b) := by rw [Nat.mul_comm (256 ^ a.length) 256, Nat.mul_assoc]
    rw [List.cons_append, le, le_append a b, le, List.length_cons, Nat.pow_succ, this]
    omega

theorem w64_toNat (n : Nat) : (w64 n).toNat = n % 2 ^ 64 := by simp [w64]

theorem wv4 (a b c d : UInt64) : wv [a, b, c, d] = ((a.toNat * 2 ^ 64 + b.toNat) * 2 ^ 64 + c.toNat) * 2 ^ 64 + d.toNat := by
  simp [wv]

theorem words4_length (n : Nat) : (words4 n).length = 4 := rfl

theorem wv_take_succ (l : List UInt64) (k : Nat) (h : k < l.length) : wv (l.take (k + 1)) = wv (l.take k) * 2 ^ 64 + (l.getD k 0).toNat := by
  rw [List.take_succ_eq_append_getElem h, wv, List.foldl_append]
  simp [wv, List.getD, h]

theorem words4_wv {l : List UInt64} (h : l.length = 4) : words4 (wv l) = l := by
  match l, h with
  | [a, b, c, d], _ =>
    have ha := a.toNat_lt; have hb := b.toNat_lt; have hc := c.toNat_lt; have hd := d.toNat_lt
    rw [wv4]
    simp only [words4]
    have e1 : w64 ((((a.toNat * 2 ^ 64 + b.toNat) * 2 ^ 64 + c.toNat) * 2 ^ 64 + d.toNat) / 2 ^ 192) = a := by
      apply UInt64.toNat_inj.1; rw [w64_toNat]; omega
    have e2 : w64 ((((a.toNat * 2 ^ 64 + b.toNat) * 2 ^ 64 + c.toNat) * 2 ^ 64 + d.toNat) / 2 ^ 128) = b := by
      apply UInt64.toNat_inj.1; rw [w64_toNat]; omega
    have e3 : w64 ((((a.toNat * 2 ^ 64 + b.toNat) * 2 ^ 64 + c.toNat) * 2 ^ 64 + d.toNat) / 2 ^ 64) = c := by
      apply UInt64.toNat_inj.1; rw [w64_toNat]; omega
    have e4 : w64 ((((a.toNat * 2 ^ 64 + b.toNat) * 2 ^ 64 + c.toNat) * 2 ^ 64 + d.toNat)) = d := by
      apply UInt64.toNat_inj.1; rw [w64_toNat]; omega
    rw [e1, e2, e3, e4]

theorem wv_words4 (n : Nat) : wv (words4 n) = n % 2 ^ 256 := by
  rw [words4, wv4]
  simp only [w64_toNat]
  omega

theorem words4_mod (n : Nat) : words4 (n % 2 ^ 256) = words4 n := by
  rw [← wv_words4, words4_wv rfl]

/-- the order of the group -/
def L : Nat := 7237005577332262213973186563042994240857116359379907606001950938285454250989


def cmp1 (x y : UInt64) : Int := if x.toNat < y.toNat then -1 else if y.toNat < x.toNat then 1 else 0

def cmpW : List UInt64 → List UInt64 → Int
  | x :: xs, y :: ys => if cmp1 x y = 0 then cmpW xs ys else cmp1 x y
  | _, _ => 0

theorem cmp1_self (x : UInt64) : cmp1 x x = 0 := by simp [cmp1]

theorem cmpW_at : ∀ (k : Nat) (xs ys : List UInt64), (∀ j, j < k → xs.getD j 0 = ys.getD j 0) → k < xs.length → k < ys.length → cmp1 (xs.getD k 0) (ys.getD k 0) ≠ 0 → cmpW xs ys = cmp1 (xs.getD k 0) (ys.getD k 0)
  | _, [], _, _, h, _, _ => by simp at h
  | _, _, [], _, _, h, _ => by simp at h
  | 0, x :: xs, y :: ys, _, _, _, hc => by
    simp at hc
    simp [cmpW, hc]
  | k + 1, x :: xs, y :: ys, h, hx, hy, hc => by
    have h0 := h 0 oM
    simp at h0
    subst h0
    have := cmpW_at k xs ys (fun j hj => by have := h (j + 1) oM; simpa using this) (by simpa using hx) (by simpa using hy) (by simpa using hc)
    simpa [cmpW, cmp1_self] using this

theorem cmpW_all : ∀ (xs ys : List UInt64), xs.length = ys.length → (∀ j, j < xs.length → xs.getD j 0 = ys.getD j 0) → cmpW xs ys = 0
  | [], _, _, _ => by simp [cmpW]
  | _ :: _, [], h, _ => by simp at h
  | x :: xs, y :: ys, hl, h => by
    have h0 := h 0 sP
    simp at h0
    subst h0
    have := cmpW_all xs ys (by simpa using hl) (fun j hj => by have := h (j + 1) (by simp; omega); simpa using this)
    simpa [cmpW, cmp1_self] using this

theorem cmp1_eq {x y : UInt64} (h : cmp1 x y = 0) : x = y := by
  apply UInt64.toNat_inj.1
  unfold cmp1 at h
  split at h
  · simp at h
  · split at h
    · simp at h
    · omega

theorem cmpW_lt {w m : List UInt64} (hw : w.length = 4) (hm : m.length = 4) : cmpW w m < 0 ↔ wv w < wv m := by
  match w, hw, m, hm with
  | [a, b, c, d], _, [e, f, g, h], _ =>
    rw [wv4, wv4]
    have ha := a.toNat_lt; have hb := b.toNat_lt; have hc := c.toNat_lt; have hd := d.toNat_lt
    have he := e.toNat_lt; have hf := f.toNat_lt; have hg := g.toNat_lt; have hh := h.toNat_lt
    simp only [cmpW, cmp1]
    repeat' split
    all_goals omega

def mulHi (x y : UInt64) : UInt64 :=
  let x0 := x &&& 4294967295
  let x1 := shr64 x 32
  let y0 := y &&& 4294967295
  let y1 := shr64 y 32
  let t := x1 * y0 + shr64 (x0 * y0) 32
  x1 * y1 + shr64 t 32 + shr64 ((t &&& 4294967295) + x0 * y1) 32

theorem shr64_toNat (x : UInt64) (n : Nat) : (shr64 x n).toNat = x.toNat / 2 ^ n := by
  have h : x.toNat / 2 ^ n ≤ x.toNat := Nat.div_le_self _ _
  have := x.toNat_lt
  rw [shr64, UInt64.toNat_ofNat', Nat.mod_eq_of_lt oM]
theorem shl64_toNat (x : UInt64) (n : Nat) : (shl64 x n).toNat = x.toNat * 2 ^ n % 2 ^ 64 := by rw [shl64, UInt64.toNat_ofNat']
theorem and32_toNat (x : UInt64) : (x &&& 4294967295).toNat = x.toNat % 4294967296 := by
  rw [UInt64.toNat_and]
  exact Nat.and_two_pow_sub_one_eq_mod x.toNat 32

theorem mulHi_toNat (x y : UInt64) : (mulHi x y).toNat = x.toNat * y.toNat / 2 ^ 64 := by
  have hx := x.toNat_lt; have hy := y.toNat_lt
  have key := mul64_arith (x.toNat : Int) (y.toNat : Int) oM oM oM oM
  simp only [mulHi, UInt64.toNat_add, UInt64.toNat_mul, shr64_toNat, and32_toNat]
  have e : ((x.toNat * y.toNat / 2 ^ 64 : Nat) : Int) = (x.toNat : Int) * y.toNat / 18446744073709551616 := by simp
  apply Int.ofNat.inj
  show ((_ : Nat) : Int) = ((_ : Nat) : Int)
  rw [e, ← key]
  simp

end Hw
end

section
namespace Hw
open Go
set_option linter.unusedSimpArgs false
set_option linter.unusedVariables false

def PF : Nat := 57896044618658097711785492504343953926634992332820282019728792003956564819949
def LOW : UInt64 := 2251799813685247
theorem low_toNat (x : UInt64) : (x &&& LOW).toNat = x.toNat % 2251799813685248 := by
  rw [UInt64.toNat_and]
  exact Nat.and_two_pow_sub_one_eq_mod x.toNat 51
theorem or_add {x y : UInt64} {k m : Nat} (hx : x.toNat < 2 ^ k) (hy : y.toNat = 2 ^ k * m) : (x ||| y).toNat = x.toNat + y.toNat := by
  rw [UInt64.toNat_or, hy, Nat.or_comm, ← Nat.two_pow_add_eq_or_of_lt hx]
  omega
structure W5 where
  a : UInt64
  b : UInt64
  c : UInt64
  d : UInt64
  e : UInt64
def W5.l (w : W5) : List UInt64 := [w.a, w.b, w.c, w.d, w.e]
def W5.v (w : W5) : Nat := w.a.toNat + 2251799813685248 * w.b.toNat + 5070602400912917605986812821504 * w.c.toNat + 11417981541647679048466287755595961091061972992 * w.d.toNat + 25711008708143844408671393477458601640355247900524685364822016 * w.e.toNat

def ldF (q0 q1 q2 q3 : UInt64) : W5 :=
  ⟨q0 &&& LOW, (shr64 q0 51 ||| shl64 q1 13) &&& LOW, (shr64 q1 38 ||| shl64 q2 26) &&& LOW, (shr64 q2 25 ||| shl64 q3 39) &&& LOW, shr64 q3 12⟩
theorem mid_word (x y : UInt64) (s : Nat) (hs : s ≤ 64) : (shr64 x (64 - s) ||| shl64 y s).toNat = x.toNat / 2 ^ (64 - s) + y.toNat * 2 ^ s % 2 ^ 64 := by
  have hx : x.toNat / 2 ^ (64 - s) < 2 ^ s := by
    rw [Nat.div_lt_iff_lt_mul (Nat.pow_pos dE), ← Nat.pow_add, show s + (64 - s) = 64 by omega]
    exact x.toNat_lt
  have e : y.toNat * 2 ^ s % 2 ^ 64 = 2 ^ s * (y.toNat % 2 ^ (64 - s)) := by
    have h := Nat.mul_mod_mul_left (2 ^ s) y.toNat (2 ^ (64 - s))
    rw [← Nat.pow_add, show s + (64 - s) = 64 by omega, Nat.mul_comm] at h
    exact h
  rw [or_add (k := s) (m := y.toNat % 2 ^ (64 - s)) (by rw [shr64_toNat]; exact hx) (by rw [shl64_toNat, e]), shr64_toNat, shl64_toNat]
structure W5.lt (w : W5) (n m : Nat) : Prop where
  a : w.a.toNat < n
  b : w.b.toNat < n
  c : w.c.toNat < n
  d : w.d.toNat < n
  e : w.e.toNat < m
theorem ldF_lt (q0 q1 q2 q3 : UInt64) : (ldF q0 q1 q2 q3).lt 2251799813685248 4503599627370496 := by
  have := q3.toNat_lt
  refine ⟨?_, ?_, ?_, ?_, ?_⟩ <;> simp only [ldF, low_toNat, shr64_toNat] <;> omega
theorem ld_arith (q0 q1 q2 q3 : Nat) (h0 : q0 < 2 ^ 64) (h1 : q1 < 2 ^ 64) (h2 : q2 < 2 ^ 64) (h3 : q3 < 2 ^ 64) :
    q0 % 2251799813685248 + 2251799813685248 * ((q0 / 2 ^ 51 + q1 * 2 ^ 13 % 2 ^ 64) % 2251799813685248) + 5070602400912917605986812821504 * ((q1 / 2 ^ 38 + q2 * 2 ^ 26 % 2 ^ 64) % 2251799813685248) + 11417981541647679048466287755595961091061972992 * ((q2 / 2 ^ 25 + q3 * 2 ^ 39 % 2 ^ 64) % 2251799813685248) + 25711008708143844408671393477458601640355247900524685364822016 * (q3 / 2 ^ 12)
    = q0 + 18446744073709551616 * q1 + 340282366920938463463374607431768211456 * q2 + 6277101735386680763835789423207666416102355444464034512896 * q3 := by
  have e1 : (q0 / 2 ^ 51 + q1 * 2 ^ 13 % 2 ^ 64) % 2251799813685248 = q0 / 2251799813685248 + 8192 * (q1 % 274877906944) := by omega
  have e2 : (q1 / 2 ^ 38 + q2 * 2 ^ 26 % 2 ^ 64) % 2251799813685248 = q1 / 274877906944 + 67108864 * (q2 % 33554432) := by omega
  have e3 : (q2 / 2 ^ 25 + q3 * 2 ^ 39 % 2 ^ 64) % 2251799813685248 = q2 / 33554432 + 549755813888 * (q3 % 4096) := by omega
  rw [e1, e2, e3]
  omega
theorem ldF_v (q0 q1 q2 q3 : UInt64) : (ldF q0 q1 q2 q3).v = q0.toNat + 18446744073709551616 * q1.toNat + 340282366920938463463374607431768211456 * q2.toNat + 6277101735386680763835789423207666416102355444464034512896 * q3.toNat := by
  have h1 := mid_word q0 q1 13 dE
  have h2 := mid_word q1 q2 26 dE
  have h3 := mid_word q2 q3 39 dE
  simp only [W5.v, ldF, low_toNat]
  rw [show (shr64 q0 51 ||| shl64 q1 13).toNat = _ from h1, show (shr64 q1 38 ||| shl64 q2 26).toNat = _ from h2, show (shr64 q2 25 ||| shl64 q3 39).toNat = _ from h3, shr64_toNat]
  exact ld_arith _ _ _ _ q0.toNat_lt q1.toNat_lt q2.toNat_lt q3.toNat_lt

def carF (w : W5) : W5 :=
  ⟨(w.a &&& LOW) + 19 * shr64 w.e 51, (w.b &&& LOW) + shr64 w.a 51, (w.c &&& LOW) + shr64 w.b 51, (w.d &&& LOW) + shr64 w.c 51, (w.e &&& LOW) + shr64 w.d 51⟩
structure W5.carried (w : W5) (n : Nat) : Prop where
  a : w.a.toNat < 2251799813685248 + 155648
  b : w.b.toNat < 2251799813685248 + 8192
  c : w.c.toNat < 2251799813685248 + 8192
  d : w.d.toNat < 2251799813685248 + 8192
  e : w.e.toNat < 2251799813685248 + 8192
theorem carF_a (w : W5) : (carF w).a.toNat = w.a.toNat % 2251799813685248 + 19 * (w.e.toNat / 2251799813685248) := by
  have := w.e.toNat_lt
  simp only [carF, UInt64.toNat_add, UInt64.toNat_mul, low_toNat, shr64_toNat]
  rw [show (19 : UInt64).toNat = 19 from rfl]
  omega
theorem carF_b (w : W5) : (carF w).b.toNat = w.b.toNat % 2251799813685248 + w.a.toNat / 2251799813685248 := by
  have := w.a.toNat_lt
  simp only [carF, UInt64.toNat_add, low_toNat, shr64_toNat]
  omega
theorem carF_c (w : W5) : (carF w).c.toNat = w.c.toNat % 2251799813685248 + w.b.toNat / 2251799813685248 := by
  have := w.b.toNat_lt
  simp only [carF, UInt64.toNat_add, low_toNat, shr64_toNat]
  omega
theorem carF_d (w : W5) : (carF w).d.toNat = w.d.toNat % 2251799813685248 + w.c.toNat / 2251799813685248 := by
  have := w.c.toNat_lt
  simp only [carF, UInt64.toNat_add, low_toNat, shr64_toNat]
  omega
theorem carF_e (w : W5) : (carF w).e.toNat = w.e.toNat % 2251799813685248 + w.d.toNat / 2251799813685248 := by
  have := w.d.toNat_lt
  simp only [carF, UInt64.toNat_add, low_toNat, shr64_toNat]
  omega
theorem carF_small (w : W5) : (carF w).carried 0 := by
  have h1 := w.a.toNat_lt; have h2 := w.b.toNat_lt; have h3 := w.c.toNat_lt; have h4 := w.d.toNat_lt; have h5 := w.e.toNat_lt
  refine ⟨?_, ?_, ?_, ?_, ?_⟩
  · rw [carF_a]; omega
  · rw [carF_b]; omega
  · rw [carF_c]; omega
  · rw [carF_d]; omega
  · rw [carF_e]; omega
theorem carF_v (w : W5) : (carF w).v + PF * (w.e.toNat / 2251799813685248) = w.v := by
  simp only [W5.v, carF_a, carF_b, carF_c, carF_d, carF_e, PF]
  omega
theorem carF_mod (w : W5) : (carF w).v % PF = w.v % PF := by rw [← carF_v w, Nat.add_mul_mod_self_left]

def ccF (w : W5) : UInt64 := shr64 (w.e + shr64 (w.d + shr64 (w.c + shr64 (w.b + shr64 (w.a + 19) 51) 51) 51) 51) 51
def fixF (w : W5) (c : UInt64) : W5 :=
  ⟨(w.a + 19 * c) &&& LOW, (w.b + shr64 (w.a + 19 * c) 51) &&& LOW, (w.c + shr64 (w.b + shr64 (w.a + 19 * c) 51) 51) &&& LOW,
   (w.d + shr64 (w.c + shr64 (w.b + shr64 (w.a + 19 * c) 51) 51) 51) &&& LOW, (w.e + shr64 (w.d + shr64 (w.c + shr64 (w.b + shr64 (w.a + 19 * c) 51) 51) 51) 51) &&& LOW⟩
def stF (w : W5) : W5 := fixF (carF w) (ccF (carF w))
theorem cc_arith (a b c d e : Nat) : (e + (d + (c + (b + (a + 19) / 2251799813685248) / 2251799813685248) / 2251799813685248) / 2251799813685248) / 2251799813685248 =
    (a + 2251799813685248 * b + 5070602400912917605986812821504 * c + 11417981541647679048466287755595961091061972992 * d + 25711008708143844408671393477458601640355247900524685364822016 * e + 19) / 57896044618658097711785492504343953926634992332820282019728792003956564819968 := by omega
theorem ccF_v {w : W5} (h : w.carried 0) : (ccF w).toNat = (w.v + 19) / 57896044618658097711785492504343953926634992332820282019728792003956564819968 := by
  obtain ⟨h1, h2, h3, h4, h5⟩ := h
  simp only [ccF, shr64_toNat, UInt64.toNat_add, show (19 : UInt64).toNat = 19 from rfl, W5.v]
  rw [← cc_arith]
  omega
theorem fix_five (x b c d e : Nat) :
    x % 2251799813685248 + 2251799813685248 * ((b + x / 2251799813685248) % 2251799813685248) + 5070602400912917605986812821504 * ((c + (b + x / 2251799813685248) / 2251799813685248) % 2251799813685248) + 11417981541647679048466287755595961091061972992 * ((d + (c + (b + x / 2251799813685248) / 2251799813685248) / 2251799813685248) % 2251799813685248) + 25711008708143844408671393477458601640355247900524685364822016 * ((e + (d + (c + (b + x / 2251799813685248) / 2251799813685248) / 2251799813685248) / 2251799813685248) % 2251799813685248)
    = (x + 2251799813685248 * b + 5070602400912917605986812821504 * c + 11417981541647679048466287755595961091061972992 * d + 25711008708143844408671393477458601640355247900524685364822016 * e) % 57896044618658097711785492504343953926634992332820282019728792003956564819968 := by omega
theorem fix_red {v k : Nat} (hk : k = (v + 19) / 57896044618658097711785492504343953926634992332820282019728792003956564819968) (hb : v < 2 * 57896044618658097711785492504343953926634992332820282019728792003956564819949) : (v + 19 * k) % 57896044618658097711785492504343953926634992332820282019728792003956564819968 = v % 57896044618658097711785492504343953926634992332820282019728792003956564819949 := by
  have h : k = 0 ∨ k = 1 := by omega
  rcases h with rfl | rfl <;> omega
theorem fixF_lt (w : W5) (c : UInt64) : (fixF w c).lt 2251799813685248 2251799813685248 := by
  refine ⟨?_, ?_, ?_, ?_, ?_⟩ <;> simp only [fixF, low_toNat] <;> exact Nat.mod_lt _ dE
theorem carried_lt {w : W5} (h : w.carried 0) : w.v < 2 * 57896044618658097711785492504343953926634992332820282019728792003956564819949 := by
  obtain ⟨h1, h2, h3, h4, h5⟩ := h
  simp only [W5.v]
  omega
theorem fix_words {w : W5} (h : w.carried 0) {k : UInt64} (hk : k.toNat ≤ 1) : (w.a + 19 * k).toNat = w.a.toNat + 19 * k.toNat ∧
    (w.b + shr64 (w.a + 19 * k) 51).toNat = w.b.toNat + (w.a.toNat + 19 * k.toNat) / 2251799813685248 ∧
    (w.c + shr64 (w.b + shr64 (w.a + 19 * k) 51) 51).toNat = w.c.toNat + (w.b.toNat + (w.a.toNat + 19 * k.toNat) / 2251799813685248) / 2251799813685248 ∧
    (w.d + shr64 (w.c + shr64 (w.b + shr64 (w.a + 19 * k) 51) 51) 51).toNat = w.d.toNat + (w.c.toNat + (w.b.toNat + (w.a.toNat + 19 * k.toNat) / 2251799813685248) / 2251799813685248) / 2251799813685248 ∧
    (w.e + shr64 (w.d + shr64 (w.c + shr64 (w.b + shr64 (w.a + 19 * k) 51) 51) 51) 51).toNat = w.e.toNat + (w.d.toNat + (w.c.toNat + (w.b.toNat + (w.a.toNat + 19 * k.toNat) / 2251799813685248) / 2251799813685248) / 2251799813685248) / 2251799813685248 := by
  obtain ⟨h1, h2, h3, h4, h5⟩ := h
  have g1 : (w.a + 19 * k).toNat = w.a.toNat + 19 * k.toNat := by simp only [UInt64.toNat_add, UInt64.toNat_mul, show (19 : UInt64).toNat = 19 from rfl]; omega
  have g2 : (w.b + shr64 (w.a + 19 * k) 51).toNat = w.b.toNat + (w.a.toNat + 19 * k.toNat) / 2251799813685248 := by rw [UInt64.toNat_add, shr64_toNat, g1]; omega
  have g3 : (w.c + shr64 (w.b + shr64 (w.a + 19 * k) 51) 51).toNat = w.c.toNat + (w.b.toNat + (w.a.toNat + 19 * k.toNat) / 2251799813685248) / 2251799813685248 := by rw [UInt64.toNat_add, shr64_toNat, g2]; omega
  have g4 : (w.d + shr64 (w.c + shr64 (w.b + shr64 (w.a + 19 * k) 51) 51) 51).toNat = w.d.toNat + (w.c.toNat + (w.b.toNat + (w.a.toNat + 19 * k.toNat) / 2251799813685248) / 2251799813685248) / 2251799813685248 := by rw [UInt64.toNat_add, shr64_toNat, g3]; omega
  exact ⟨g1, g2, g3, g4, by rw [UInt64.toNat_add, shr64_toNat, g4]; omega⟩
theorem fix_v {w : W5} (h : w.carried 0) {k : UInt64} (hk : k.toNat ≤ 1) : (fixF w k).v = (w.v + 19 * k.toNat) % 57896044618658097711785492504343953926634992332820282019728792003956564819968 := by
  obtain ⟨g1, g2, g3, g4, g5⟩ := fix_words h hk
  have e : (fixF w k).v = (w.a.toNat + 19 * k.toNat) % 2251799813685248 + 2251799813685248 * ((w.b.toNat + (w.a.toNat + 19 * k.toNat) / 2251799813685248) % 2251799813685248) + 5070602400912917605986812821504 * ((w.c.toNat + (w.b.toNat + (w.a.toNat + 19 * k.toNat) / 2251799813685248) / 2251799813685248) % 2251799813685248) + 11417981541647679048466287755595961091061972992 * ((w.d.toNat + (w.c.toNat + (w.b.toNat + (w.a.toNat + 19 * k.toNat) / 2251799813685248) / 2251799813685248) / 2251799813685248) % 2251799813685248) + 25711008708143844408671393477458601640355247900524685364822016 * ((w.e.toNat + (w.d.toNat + (w.c.toNat + (w.b.toNat + (w.a.toNat + 19 * k.toNat) / 2251799813685248) / 2251799813685248) / 2251799813685248) / 2251799813685248) % 2251799813685248) := by
    simp only [W5.v, fixF, low_toNat, g1, g2, g3, g4, g5]
  rw [e, fix_five]
  clear e g1 g2 g3 g4 g5
  have e2 : w.v + 19 * k.toNat = w.a.toNat + 19 * k.toNat + 2251799813685248 * w.b.toNat + 5070602400912917605986812821504 * w.c.toNat + 11417981541647679048466287755595961091061972992 * w.d.toNat + 25711008708143844408671393477458601640355247900524685364822016 * w.e.toNat := by rw [W5.v]; omega
  rw [e2]
theorem fixF_v {w : W5} (h : w.carried 0) : (fixF w (ccF w)).v = w.v % PF := by
  have hc := ccF_v h
  have hb := carried_lt h
  have hk : (ccF w).toNat ≤ 1 := by omega
  rw [fix_v h hk]
  exact fix_red hc hb
theorem stF_v (w : W5) : (stF w).v = w.v % PF := by rw [stF, fixF_v (carF_small w), carF_mod]
/-- the bytes of the words -/
def stB5 (w : W5) : List UInt8 := leb 8 (w.a ||| shl64 w.b 51).toNat ++ leb 8 (shr64 w.b 13 ||| shl64 w.c 38).toNat ++ leb 8 (shr64 w.c 26 ||| shl64 w.d 25).toNat ++ leb 8 (shr64 w.d 39 ||| shl64 w.e 12).toNat
theorem leb_split (m : Nat) : ∀ n x, leb (n + m) x = leb n x ++ leb m (x / 256 ^ n)
  | 0, x => by simp [leb]
  | n + 1, x => by
    rw [show n + 1 + m = (n + m) + 1 by omega, leb, leb, leb_split m n (x / 256), Nat.div_div_eq_div_mul, Nat.pow_succ, Nat.mul_comm 256]
    rfl
theorem leb_low256 (k : Nat) (x : Nat) : leb k (x % 256 ^ k) = leb k x := by
  have h := leb_le (leb k x)
  rw [leb_length, le_leb] at h
  exact h
theorem leb_32 (x : Nat) : leb 32 x = leb 8 (x % 18446744073709551616) ++ (leb 8 (x / 18446744073709551616 % 18446744073709551616) ++ (leb 8 (x / 340282366920938463463374607431768211456 % 18446744073709551616) ++ leb 8 (x / 6277101735386680763835789423207666416102355444464034512896))) := by
  have e : ∀ x, leb 8 (x % 18446744073709551616) = leb 8 x := fun x => leb_low256 8 x
  rw [e, e, e]
  have h1 := leb_split 24 8 x
  have h2 := leb_split 16 8 (x / 256 ^ 8)
  have h3 := leb_split 8 8 (x / 256 ^ 8 / 256 ^ 8)
  rw [Nat.div_div_eq_div_mul] at h2 h3
  rw [Nat.div_div_eq_div_mul] at h3
  exact h1.trans (congrArg _ (h2.trans (congrArg _ h3)))
theorem leb4 (q0 q1 q2 q3 : Nat) (h0 : q0 < 2 ^ 64) (h1 : q1 < 2 ^ 64) (h2 : q2 < 2 ^ 64) : leb 8 q0 ++ leb 8 q1 ++ leb 8 q2 ++ leb 8 q3 = leb 32 (q0 + 18446744073709551616 * q1 + 340282366920938463463374607431768211456 * q2 + 6277101735386680763835789423207666416102355444464034512896 * q3) := by
  rw [leb_32, List.append_assoc, List.append_assoc]
  have a0 : (q0 + 18446744073709551616 * q1 + 340282366920938463463374607431768211456 * q2 + 6277101735386680763835789423207666416102355444464034512896 * q3) % 18446744073709551616 = q0 := by omega
  have a1 : (q0 + 18446744073709551616 * q1 + 340282366920938463463374607431768211456 * q2 + 6277101735386680763835789423207666416102355444464034512896 * q3) / 18446744073709551616 % 18446744073709551616 = q1 := by omega
  have a2 : (q0 + 18446744073709551616 * q1 + 340282366920938463463374607431768211456 * q2 + 6277101735386680763835789423207666416102355444464034512896 * q3) / 340282366920938463463374607431768211456 % 18446744073709551616 = q2 := by omega
  have a3 : (q0 + 18446744073709551616 * q1 + 340282366920938463463374607431768211456 * q2 + 6277101735386680763835789423207666416102355444464034512896 * q3) / 6277101735386680763835789423207666416102355444464034512896 = q3 := by omega
  rw [a0, a1, a2, a3]
theorem stB5_eq {w : W5} (h : w.lt 2251799813685248 2251799813685248) : stB5 w = leb 32 w.v := by
  obtain ⟨h1, h2, h3, h4, h5⟩ := h
  have m0 : (w.a ||| shl64 w.b 51).toNat = w.a.toNat + w.b.toNat * 2 ^ 51 % 2 ^ 64 := by
    rw [or_add (k := 51) (m := w.b.toNat % 2 ^ 13) oM (by rw [shl64_toNat]; omega), shl64_toNat]
  have m1 := mid_word w.b w.c 38 dE
  have m1' : (shr64 w.b 13 ||| shl64 w.c 38).toNat = w.b.toNat / 2 ^ 13 + w.c.toNat * 2 ^ 38 % 2 ^ 64 := by
    rw [or_add (k := 38) (m := w.c.toNat % 2 ^ 26) (by rw [shr64_toNat]; omega) (by rw [shl64_toNat]; omega), shl64_toNat, shr64_toNat]
  have m2' : (shr64 w.c 26 ||| shl64 w.d 25).toNat = w.c.toNat / 2 ^ 26 + w.d.toNat * 2 ^ 25 % 2 ^ 64 := by
    rw [or_add (k := 25) (m := w.d.toNat % 2 ^ 39) (by rw [shr64_toNat]; omega) (by rw [shl64_toNat]; omega), shl64_toNat, shr64_toNat]
  have m3' : (shr64 w.d 39 ||| shl64 w.e 12).toNat = w.d.toNat / 2 ^ 39 + w.e.toNat * 2 ^ 12 % 2 ^ 64 := by
    rw [or_add (k := 12) (m := w.e.toNat % 2 ^ 52) (by rw [shr64_toNat]; omega) (by rw [shl64_toNat]; omega), shl64_toNat, shr64_toNat]
  rw [stB5, leb4 _ _ _ _ (UInt64.toNat_lt _) (UInt64.toNat_lt _) (UInt64.toNat_lt _), m0, m1', m2', m3']
  congr 1
  simp only [W5.v]
  omega
theorem store_eq (w : W5) : stB5 (stF w) = leb 32 (w.v % PF) := by
  have h : (stF w).lt 2251799813685248 2251799813685248 := fixF_lt _ _
  rw [stB5_eq h, stF_v]

/-- the sum, the high word first -/
def wv2 (s : UInt64 × UInt64) : Nat := s.1.toNat * 18446744073709551616 + s.2.toNat
def plF (s : UInt64 × UInt64) (a b : UInt64) : UInt64 × UInt64 :=
  (w64 (s.1.toNat + (mulHi a b).toNat + (w64 ((s.2.toNat + (a * b).toNat + (0 : UInt64).toNat) / 2 ^ 64)).toNat), w64 (s.2.toNat + (a * b).toNat + (0 : UInt64).toNat))
theorem plF_v {s : UInt64 × UInt64} {a b : UInt64} {n : Nat} (hn : a.toNat * b.toNat = n) (h : wv2 s + n < 340282366920938463463374607431768211456) : wv2 (plF s a b) = wv2 s + n := by
  have h1 := s.1.toNat_lt
  have h2 := s.2.toNat_lt
  simp only [wv2, plF, w64_toNat, mulHi_toNat, UInt64.toNat_mul, show (0 : UInt64).toNat = 0 from rfl, hn] at h ⊢
  omega
def upF (s : UInt64 × UInt64) : UInt64 := shl64 s.1 13 ||| shr64 s.2 51
theorem upF_v {s : UInt64 × UInt64} (h : wv2 s < 41538374868278621028243970633760768) : (upF s).toNat = wv2 s / 2251799813685248 := by
  have h2 := s.2.toNat_lt
  simp only [wv2] at h ⊢
  have e : (upF s).toNat = s.2.toNat / 2 ^ 51 + s.1.toNat * 2 ^ 13 % 2 ^ 64 := by
    rw [upF, UInt64.or_comm, or_add (k := 13) (m := s.1.toNat % 2 ^ 51) (by rw [shr64_toNat]; omega) (by rw [shl64_toNat]; omega), shl64_toNat, shr64_toNat]
  rw [e]
  omega
theorem low_v (s : UInt64 × UInt64) : (s.2 &&& LOW).toNat = wv2 s % 2251799813685248 := by
  rw [low_toNat, wv2]; omega
abbrev s0F (a b : W5) := plF (plF (plF (plF (plF (0, 0) a.a b.a) (19 * a.b) b.e) (19 * a.c) b.d) (19 * a.d) b.c) (19 * a.e) b.b
abbrev s1F (a b : W5) := plF (plF (plF (plF (plF (0, 0) a.a b.b) a.b b.a) (19 * a.c) b.e) (19 * a.d) b.d) (19 * a.e) b.c
abbrev s2F (a b : W5) := plF (plF (plF (plF (plF (0, 0) a.a b.c) a.b b.b) a.c b.a) (19 * a.d) b.e) (19 * a.e) b.d
abbrev s3F (a b : W5) := plF (plF (plF (plF (plF (0, 0) a.a b.d) a.b b.c) a.c b.b) a.d b.a) (19 * a.e) b.e
abbrev s4F (a b : W5) := plF (plF (plF (plF (plF (0, 0) a.a b.e) a.b b.d) a.c b.c) a.d b.b) a.e b.a
def mulF (a b : W5) : W5 := carF ⟨((s0F a b).2 &&& LOW) + 19 * upF (s4F a b), ((s1F a b).2 &&& LOW) + upF (s0F a b), ((s2F a b).2 &&& LOW) + upF (s1F a b), ((s3F a b).2 &&& LOW) + upF (s2F a b), ((s4F a b).2 &&& LOW) + upF (s3F a b)⟩
theorem times19 {x : UInt64} (h : x.toNat < 18014398509481984) : (19 * x).toNat = 19 * x.toNat := by
  rw [UInt64.toNat_mul, show (19 : UInt64).toNat = 19 from rfl]; omega
theorem mul_bound {x y : Nat} (hx : x < 18014398509481984) (hy : y < 18014398509481984) : x * y < 324518553658426726783156020576256 := by
  have := Nat.mul_lt_mul'' hx hy
  exact this
theorem prod_poly (X a b c d e a' b' c' d' e' : Int) : (a + X * b + X * X * c + X * X * X * d + X * X * X * X * e) * (a' + X * b' + X * X * c' + X * X * X * d' + X * X * X * X * e') =
    (a * a' + 19 * (b * e') + 19 * (c * d') + 19 * (d * c') + 19 * (e * b')) + X * (a * b' + b * a' + 19 * (c * e') + 19 * (d * d') + 19 * (e * c')) + X * X * (a * c' + b * b' + c * a' + 19 * (d * e') + 19 * (e * d')) + X * X * X * (a * d' + b * c' + c * b' + d * a' + 19 * (e * e')) + X * X * X * X * (a * e' + b * d' + c * c' + d * b' + e * a') +
    (X * X * X * X * X - 19) * ((b * e' + c * d' + d * c' + e * b') + X * (c * e' + d * d' + e * c') + X * X * (d * e' + e * d') + X * X * X * (e * e')) := by
  grind
theorem prod_nat (a b c d e a' b' c' d' e' : Nat) : (a + 2251799813685248 * b + 5070602400912917605986812821504 * c + 11417981541647679048466287755595961091061972992 * d + 25711008708143844408671393477458601640355247900524685364822016 * e) * (a' + 2251799813685248 * b' + 5070602400912917605986812821504 * c' + 11417981541647679048466287755595961091061972992 * d' + 25711008708143844408671393477458601640355247900524685364822016 * e') =
    (a * a' + 19 * (b * e') + 19 * (c * d') + 19 * (d * c') + 19 * (e * b')) + 2251799813685248 * (a * b' + b * a' + 19 * (c * e') + 19 * (d * d') + 19 * (e * c')) + 5070602400912917605986812821504 * (a * c' + b * b' + c * a' + 19 * (d * e') + 19 * (e * d')) + 11417981541647679048466287755595961091061972992 * (a * d' + b * c' + c * b' + d * a' + 19 * (e * e')) + 25711008708143844408671393477458601640355247900524685364822016 * (a * e' + b * d' + c * c' + d * b' + e * a') +
    PF * ((b * e' + c * d' + d * c' + e * b') + 2251799813685248 * (c * e' + d * d' + e * c') + 5070602400912917605986812821504 * (d * e' + e * d') + 11417981541647679048466287755595961091061972992 * (e * e')) := by
  have h := prod_poly 2251799813685248 a b c d e a' b' c' d' e'
  apply Int.ofNat.inj
  simp only [PF]
  show ((_ : Nat) : Int) = ((_ : Nat) : Int)
  simp only [Int.natCast_add, Int.natCast_mul]
  exact h
theorem s_add {s : UInt64 × UInt64} {a b : UInt64} {m n : Nat} (hs : wv2 s = m) (hn : a.toNat * b.toNat = n) (h : m + n < 340282366920938463463374607431768211456) : wv2 (plF s a b) = m + n := by
  rw [plF_v hn (by rw [hs]; exact h), hs]
theorem wv2_zero : wv2 (0, 0) = 0 := rfl
theorem carry_sum (s0 s1 s2 s3 s4 : Nat) : (s0 % 2251799813685248 + 19 * (s4 / 2251799813685248)) + 2251799813685248 * (s1 % 2251799813685248 + s0 / 2251799813685248) + 5070602400912917605986812821504 * (s2 % 2251799813685248 + s1 / 2251799813685248) + 11417981541647679048466287755595961091061972992 * (s3 % 2251799813685248 + s2 / 2251799813685248) + 25711008708143844408671393477458601640355247900524685364822016 * (s4 % 2251799813685248 + s3 / 2251799813685248) + PF * (s4 / 2251799813685248) =
    s0 + 2251799813685248 * s1 + 5070602400912917605986812821504 * s2 + 11417981541647679048466287755595961091061972992 * s3 + 25711008708143844408671393477458601640355247900524685364822016 * s4 := by
  simp only [PF]
  omega
structure W5.fit (w : W5) : Prop where
  a : w.a.toNat < 18014398509481984
  b : w.b.toNat < 18014398509481984
  c : w.c.toNat < 18014398509481984
  d : w.d.toNat < 18014398509481984
  e : w.e.toNat < 18014398509481984
theorem W5.lt.fit {w : W5} (h : w.lt 2251799813685248 4503599627370496) : w.fit := by
  obtain ⟨h1, h2, h3, h4, h5⟩ := h
  constructor <;> omega
theorem W5.carried.fit {w : W5} (h : w.carried 0) : w.fit := by
  obtain ⟨h1, h2, h3, h4, h5⟩ := h
  constructor <;> omega
theorem mulF_v {a b : W5} (ha : a.fit) (hb : b.fit) : (mulF a b).v % PF = (a.v * b.v) % PF := by
  obtain ⟨a0, a1, a2, a3, a4⟩ := ha
  obtain ⟨b0, b1, b2, b3, b4⟩ := hb
  have m : ∀ {x y : UInt64}, x.toNat < 18014398509481984 → y.toNat < 18014398509481984 → ∃ n, x.toNat * y.toNat = n ∧ n < 324518553658426726783156020576256 := fun hx hy => ⟨_, rfl, mul_bound hx hy⟩
  have m19 : ∀ {x y : UInt64} {n : Nat}, x.toNat < 18014398509481984 → x.toNat * y.toNat = n → (19 * x).toNat * y.toNat = 19 * n := fun hx hn => by rw [times19 hx, Nat.mul_assoc, hn]
  obtain ⟨p00, e00, l00⟩ := m a0 b0; obtain ⟨p01, e01, l01⟩ := m a0 b1; obtain ⟨p02, e02, l02⟩ := m a0 b2; obtain ⟨p03, e03, l03⟩ := m a0 b3; obtain ⟨p04, e04, l04⟩ := m a0 b4
  obtain ⟨p10, e10, l10⟩ := m a1 b0; obtain ⟨p11, e11, l11⟩ := m a1 b1; obtain ⟨p12, e12, l12⟩ := m a1 b2; obtain ⟨p13, e13, l13⟩ := m a1 b3; obtain ⟨p14, e14, l14⟩ := m a1 b4
  obtain ⟨p20, e20, l20⟩ := m a2 b0; obtain ⟨p21, e21, l21⟩ := m a2 b1; obtain ⟨p22, e22, l22⟩ := m a2 b2; obtain ⟨p23, e23, l23⟩ := m a2 b3; obtain ⟨p24, e24, l24⟩ := m a2 b4
  obtain ⟨p30, e30, l30⟩ := m a3 b0; obtain ⟨p31, e31, l31⟩ := m a3 b1; obtain ⟨p32, e32, l32⟩ := m a3 b2; obtain ⟨p33, e33, l33⟩ := m a3 b3; obtain ⟨p34, e34, l34⟩ := m a3 b4
  obtain ⟨p40, e40, l40⟩ := m a4 b0; obtain ⟨p41, e41, l41⟩ := m a4 b1; obtain ⟨p42, e42, l42⟩ := m a4 b2; obtain ⟨p43, e43, l43⟩ := m a4 b3; obtain ⟨p44, e44, l44⟩ := m a4 b4
  have hv : a.v * b.v = _ := prod_nat a.a.toNat a.b.toNat a.c.toNat a.d.toNat a.e.toNat b.a.toNat b.b.toNat b.c.toNat b.d.toNat b.e.toNat
  rw [e00, e01, e02, e03, e04, e10, e11, e12, e13, e14, e20, e21, e22, e23, e24, e30, e31, e32, e33, e34, e40, e41, e42, e43, e44] at hv
  have k0 : wv2 (s0F a b) = p00 + 19 * p14 + 19 * p23 + 19 * p32 + 19 * p41 := by
    have := s_add (s_add (s_add (s_add (s_add wv2_zero e00 oM) (m19 a1 e14) oM) (m19 a2 e23) oM) (m19 a3 e32) oM) (m19 a4 e41) oM
    rw [Nat.zero_add] at this; exact this
  have k1 : wv2 (s1F a b) = p01 + p10 + 19 * p24 + 19 * p33 + 19 * p42 := by
    have := s_add (s_add (s_add (s_add (s_add wv2_zero e01 oM) e10 oM) (m19 a2 e24) oM) (m19 a3 e33) oM) (m19 a4 e42) oM
    rw [Nat.zero_add] at this; exact this
  have k2 : wv2 (s2F a b) = p02 + p11 + p20 + 19 * p34 + 19 * p43 := by
    have := s_add (s_add (s_add (s_add (s_add wv2_zero e02 oM) e11 oM) e20 oM) (m19 a3 e34) oM) (m19 a4 e43) oM
    rw [Nat.zero_add] at this; exact this
  have k3 : wv2 (s3F a b) = p03 + p12 + p21 + p30 + 19 * p44 := by
    have := s_add (s_add (s_add (s_add (s_add wv2_zero e03 oM) e12 oM) e21 oM) e30 oM) (m19 a4 e44) oM
    rw [Nat.zero_add] at this; exact this
  have k4 : wv2 (s4F a b) = p04 + p13 + p22 + p31 + p40 := by
    have := s_add (s_add (s_add (s_add (s_add wv2_zero e04 oM) e13 oM) e22 oM) e31 oM) e40 oM
    rw [Nat.zero_add] at this; exact this
  clear e00 e01 e02 e03 e04 e10 e11 e12 e13 e14 e20 e21 e22 e23 e24 e30 e31 e32 e33 e34 e40 e41 e42 e43 e44
  rw [← k0, ← k1, ← k2, ← k3, ← k4] at hv
  have n0 : wv2 (s0F a b) < 25312447185357284689086169604947968 := by omega
  have n1 : wv2 (s1F a b) < 25312447185357284689086169604947968 := by omega
  have n2 : wv2 (s2F a b) < 25312447185357284689086169604947968 := by omega
  have n3 : wv2 (s3F a b) < 25312447185357284689086169604947968 := by omega
  have n4 : wv2 (s4F a b) < 1622592768292133633915780102881280 + 1 := by omega
  clear k0 k1 k2 k3 k4
  rw [mulF, carF_mod]
  have f : (⟨((s0F a b).2 &&& LOW) + 19 * upF (s4F a b), ((s1F a b).2 &&& LOW) + upF (s0F a b), ((s2F a b).2 &&& LOW) + upF (s1F a b), ((s3F a b).2 &&& LOW) + upF (s2F a b), ((s4F a b).2 &&& LOW) + upF (s3F a b)⟩ : W5).v + PF * (wv2 (s4F a b) / 2251799813685248) =
      wv2 (s0F a b) + 2251799813685248 * wv2 (s1F a b) + 5070602400912917605986812821504 * wv2 (s2F a b) + 11417981541647679048466287755595961091061972992 * wv2 (s3F a b) + 25711008708143844408671393477458601640355247900524685364822016 * wv2 (s4F a b) := by
    rw [← carry_sum]
    clear hv
    have u0 := upF_v (s := s0F a b) oM; have u1 := upF_v (s := s1F a b) oM; have u2 := upF_v (s := s2F a b) oM; have u3 := upF_v (s := s3F a b) oM; have u4 := upF_v (s := s4F a b) oM
    have v0 := low_v (s0F a b); have v1 := low_v (s1F a b); have v2 := low_v (s2F a b); have v3 := low_v (s3F a b); have v4 := low_v (s4F a b)
    have c0 : (((s0F a b).2 &&& LOW) + 19 * upF (s4F a b)).toNat = wv2 (s0F a b) % 2251799813685248 + 19 * (wv2 (s4F a b) / 2251799813685248) := by
      rw [UInt64.toNat_add, UInt64.toNat_mul, v0, u4, show (19 : UInt64).toNat = 19 from rfl]; omega
    have c1 : (((s1F a b).2 &&& LOW) + upF (s0F a b)).toNat = wv2 (s1F a b) % 2251799813685248 + wv2 (s0F a b) / 2251799813685248 := by
      rw [UInt64.toNat_add, v1, u0]; omega
    have c2 : (((s2F a b).2 &&& LOW) + upF (s1F a b)).toNat = wv2 (s2F a b) % 2251799813685248 + wv2 (s1F a b) / 2251799813685248 := by
      rw [UInt64.toNat_add, v2, u1]; omega
    have c3 : (((s3F a b).2 &&& LOW) + upF (s2F a b)).toNat = wv2 (s3F a b) % 2251799813685248 + wv2 (s2F a b) / 2251799813685248 := by
      rw [UInt64.toNat_add, v3, u2]; omega
    have c4 : (((s4F a b).2 &&& LOW) + upF (s3F a b)).toNat = wv2 (s4F a b) % 2251799813685248 + wv2 (s3F a b) / 2251799813685248 := by
      rw [UInt64.toNat_add, v4, u3]; omega
    simp only [W5.v, c0, c1, c2, c3, c4]
  rw [hv, ← f, Nat.add_mul_mod_self_left, Nat.add_mul_mod_self_left]
end Hw
end
