/- Contracts of functions of the loaded program, and the lemmas that they need (part 2). It proves no statement by itself; it has no conditions. -/
import Derived.WalkKit
import Derived.Orders
import Derived.Deep.LoopGhost
import Derived.IntWalk
import Derived.Laws.StructEq
import Derived.Test.YtpacobmjjjillaaGreatRows
import Derived.KernelRfl
import Derived.ArgAppend
import Derived.Deep.AppendSrc
import Derived.Lib.Bytealg
import Derived.Lib.BytesEntry
import Derived.Laws.IdiomStrings
import Derived.Laws.Externs
import Derived.WideKeyArr2
import Derived.ProofKit
import Derived.OpenShut
import Derived.Deep.Slices
import Derived.Laws.Pointers
import Derived.Laws.Cover3
import Derived.LaidEqlPtr
import Derived.LoopN
import Derived.RangeFuncLeaves
import Derived.RangeFuncSeq
import Derived.OrdersIn
import Derived.Defers
import Derived.Laws.MathBits
import Derived.ChangeOld
import Derived.Below
import Derived.Test.YtpacobmjjjillaaGreatBCallsC1
set_option maxRecDepth 100000
set_option maxHeartbeats 8000000
set_option linter.unusedVariables false
set_option linter.unusedSimpArgs false
section
namespace Go.Proofs.YtpacobmjjjillaaGreat
open Go Hw

def badAt (prev : List UInt8) (ls : List (List UInt8)) (i : Nat) : Bool := decide (ls.getD i [] = List.replicate 32 0) || (decide (ls.getD i [] = prev) || (decide ((0 : Int) < (i : Int)) && decide ((0 : Int) ≤ cmpB (ls.getD (i - 1) []) (ls.getD i []))))
def linksBad (prev : List UInt8) (ls : List (List UInt8)) : Bool := (List.range ls.length).any (badAt prev ls)
def bheadB (B : Block) : Bool := decide ((4294967295 : Int) < (B.fSeq.toNat : Int)) || (!decide (decide (B.fPrev = List.replicate 32 0) = decide ((B.fSeq.toNat : Int) = 0)) || (decide ((16 : Int) < (B.fLinks.n : Int)) || decide ((512 : Int) < (B.fData.n : Int))))
def bhead (B : Block) : Prop := bheadB B = true
theorem linksBad_at {prev : List UInt8} {ls : List (List UInt8)} {k : Nat} (hk : k < ls.length) (h : badAt prev ls k = true) : linksBad prev ls = true := by
  rw [linksBad, List.any_eq_true]; exact ⟨k, List.mem_range.2 hk, h⟩
theorem linksBad_not {prev : List UInt8} {ls : List (List UInt8)} (h : ∀ j, j < ls.length → badAt prev ls j = false) : linksBad prev ls = false := by
  rw [linksBad, List.any_eq_false]; intro x hx; rw [h x (List.mem_range.1 hx)]; simp
def bcheck (B : Block) (ls : List (List UInt8)) : Int := if bheadB B = true then 2 else (if linksBad B.fPrev ls = true then 2 else 0)
theorem bcheck_head {B : Block} {ls : List (List UInt8)} (h : bhead B) : bcheck B ls = 2 := by unfold bcheck; unfold bhead at h; rw [if_pos h]
theorem bcheck_bad {B : Block} {ls : List (List UInt8)} (h : ¬ bhead B) (hb : linksBad B.fPrev ls = true) : bcheck B ls = 2 := by unfold bcheck; unfold bhead at h; rw [if_neg h, if_pos hb]
theorem bcheck_ok {B : Block} {ls : List (List UInt8)} (h : ¬ bhead B) (hb : linksBad B.fPrev ls = false) : bcheck B ls = 0 := by unfold bcheck; unfold bhead at h; rw [if_neg h, if_neg (by rw [hb]; simp)]

theorem block_cmp (a b : List UInt8) (ha : a.length = 32) (hb : b.length = 32) : Meets Tryz.prog 56 [agg (Aa a), agg (Aa b)] [] (fun _ => True) (fun v out => v = i64 (cmpB a b) ∧ out = []) := by
 intro W hW
 refine Ab Tryz.func56 J 8 Tryz.ntmps56 J (.sr (.boxA J J ?_))
 intro n2 hn2 hf2
 refine .boxA J J ?_
 intro n3 hn3 hf3
 refine .a J J J (.na (.seq (.draw [(0, 0), (0, 1), (3, 2), (0, 3)] Ar zK (.sliceArr J J J Y24 Sz5 (.sliceArr J J J Y24 Sz5 (.cV J J J J Body84 (bytes_cmp _ _ _ _ _ _ a b ha hb) (fun W2 h => ⟨SeesP.of (Ak h Z1), SeesP.of (Ak h Z0)⟩) ?_))))))
 refine .a J J J (.na (.ret (An ?_)))
 refine ⟨_, [], Ag J J, sP, sP, ?_, rfl⟩
 rfl

theorem block_check (B : Block) (hB : B.ok) (ls : List (List UInt8)) : Meets Tryz.prog 38 [agg B.cells] [] (fun W => RowsAt W B.fLinks 32 ls) (fun v out => v = i64 (bcheck B ls) ∧ out = []) := by
 intro W hW
 have hcx : B.fLinks.n ≤ maxLen := hW.max
 simp only [maxLen] at hcx
 have hcn := hW.cap
 refine Ab Tryz.func38 J 65 Tryz.ntmps38 J (.sr (.boxA J J ?_))
 intro n1 hn1 hf1
 refine .a J J J (.nsr (.build (cs := Aa (List.replicate 32 0)) J J J (fun w => by kernel_rfl) ?_))
 refine .alloc (cs := (Aa (List.replicate 32 0))) J Zr24 J ?_
 intro n3 hn3 hf3
 refine .sA J J J J zB Bm sP Z0 sP zU ?_
 refine .na (.seq (.seq (.draw [(0, 0), (1, 1), (0, 2), (0, 3), (0, 4), (1, 5), (1, 6), (0, 7), (0, 8), (1, 9), (0, 10), (0, 11), (0, 12), (0, 13), (0, 14), (1, 15), (0, 16), (0, 17), (0, 18), (0, 19), (0, 20), (1, 21), (0, 22), (0, 23), (0, 24)] Ar zK (.fld J J J Y53 J Ap dE _ J (.load1 J J J Y22 J Z1 (by exact Block.get_fSeq zA) ?_)))))
 refine two (fun r hr k => Tr.gtr J J J J hr k) (fun hs2_20 => ?_) (fun hs2_20 => ?_)
 ·
  have hs2_2 := of_decide_eq_true hs2_20
  refine .m J J J (.skp J J (.skp J J (.skp J J (.skp J J (.skp J J (.skp J J (.skp J J (.skp J J (.pick J J J J J J (.m J J J (.skp J J (.skp J J (.skp J J (.skp J J (.pick J J J J J J (.m J J J (.skp J J (.skp J J (.skp J J (.skp J J (.pick J J J J J J (.na (.cond_t J J (.sr (.a J J J (.na (.ret (Bg (An ?_)))))))))))))))))))))))))))))
  refine ⟨_, [], Ag J J, sP, sP, ?_, rfl⟩
  exact congrArg i64 (bcheck_head (by unfold bhead bheadB; simp_all)).symm
 ·
  have hs2_2 := of_decide_eq_false hs2_20
  refine .m J J J (.fld J J J Y53 J Bm dE _ J (.lN (Aa _) J J J Y24 J Bm Z1 (Block.row_fPrev zA) (Block.rl_fPrev zA) ?_))
  refine .lA J J J Y24 J Bm Z0 sP ?_
  refine .eql_bytes J J J J Tryz.eqGuardType24 Y24 Y5 Sz5 (by (simp [hB.l_fPrev]; done)) sP J ?_
  refine .fld J J J Y53 J Ap dE _ J (.load1 J J J Y22 J Z1 (by exact Block.get_fSeq zA) ?_)
  refine .eqi J J J J J (two (fun r hr k => Tr.neb J J J J Tryz.underlying4 hr k) (fun hs2_110 => ?_) (fun hs2_110 => ?_))
  ·
   have hs2_11 := nd_t hs2_110
   refine .pick J J J J J J (.m J J J (.skp J J (.skp J J (.skp J J (.skp J J (.pick J J J J J J (.m J J J (.skp J J (.skp J J (.skp J J (.skp J J (.pick J J J J J J (.na (.cond_t J J (.sr (.a J J J (.na (.ret (Bg (An ?_))))))))))))))))))))
   refine ⟨_, [], Ag J J, sP, sP, ?_, rfl⟩
   exact congrArg i64 (bcheck_head (by unfold bhead bheadB; simp_all)).symm
  ·
   have hs2_11 := nd_f hs2_110
   refine .pick J J J J J J (.m J J J (.fld J J J Y53 J Sz51 dE _ J (.load1 J J J Y51 J Z1 (by exact Block.get_fLinks zA) ?_)))
   refine .lenSl J J J Y51 (two (fun r hr k => Tr.gtr J J J J hr k) (fun hs2_170 => ?_) (fun hs2_170 => ?_))
   ·
    have hs2_17 := of_decide_eq_true hs2_170
    refine .pick J J J J J J (.m J J J (.skp J J (.skp J J (.skp J J (.skp J J (.pick J J J J J J (.na (.cond_t J J (.sr (.a J J J (.na (.ret (Bg (An ?_))))))))))))))
    refine ⟨_, [], Ag J J, sP, sP, ?_, rfl⟩
    exact congrArg i64 (bcheck_head (by unfold bhead bheadB; simp_all)).symm
   ·
    have hs2_17 := of_decide_eq_false hs2_170
    refine .pick J J J J J J (.m J J J (.fld J J J Y53 J Co dE _ J (.load1 J J J Y39 J Z1 (by exact Block.get_fData zA) ?_)))
    refine .lenSl J J J Y39 (.gtr J J J J J (.pick J J J J J J (.na (.condP J (fun hc0 => ?_) (fun hc0 => ?_)))))
    ·
     refine .sr (.a J J J (.na (.ret (Bg (An ?_)))))
     refine ⟨_, [], Ag J J, sP, sP, ?_, rfl⟩
     exact congrArg i64 (bcheck_head (by unfold bhead bheadB; simp_all)).symm
    ·
     have hnb : ¬ bhead B := by unfold bhead bheadB; simp_all
     refine .skip (Ae (.seq (.sr (.fld J J J Y53 J Sz51 dE _ J (.load1 J J J Y51 J Z1 (by exact Block.get_fLinks zA) ?_)))))
     refine .lenSl J J J Y51 (.m J J J (.na (.block (.loop (ι := Nat) (fun k => ⟨[(1, ptr n1 0), (3, ptr n3 0), (33, B.fLinks.v), (34, i64 (B.fLinks.n : Int)), (35, i64 (k : Int))], [⟨n3, Aa (List.replicate 32 0), 24, 32⟩, ⟨n1, B.cells, 53, B.cells.length⟩]⟩) (fun k => k ≤ B.fLinks.n ∧ ∀ j, j < k → badAt B.fPrev ls j = false) (fun k => B.fLinks.n - k) (0) ?_ ?_ ?_))))
     · exact ⟨by omega, fun j hj => by omega⟩
     · exact Ac (wk1 rfl (wk1 rfl (wk1 rfl (wk1 rfl (wk1 rfl wk0))))) (wh1 Z0 (wh1 Z1 wh0)) nD
     ·
      rintro k ⟨hk, hg⟩
      refine .sr (.lss J J J J J (.na (.seq (.condP J (fun hc1 => ?_) (fun hc1 => ?_)))))
      ·
       have hk2 : k < B.fLinks.n := by omega
       have hll := hW.len
       obtain ⟨b, o, hbp, hbs⟩ := hW.see.at (by rw [Bu hW.row]; omega)
       have hr0 : (ls.getD k []).length = 32 := C5 hW.row oM
       have hr1 : (ls.getD (k - 1) []).length = 32 := C5 hW.row oM
       refine .skip (Ae (.join (ι := Unit) (fun _u => ⟨[(1, ptr n1 0), (3, ptr n3 0), (33, B.fLinks.v), (34, i64 (B.fLinks.n : Int)), (35, i64 (k : Int))], [⟨n3, Aa (List.replicate 32 0), 24, 32⟩, ⟨n1, B.cells, 53, B.cells.length⟩]⟩) (fun _u => badAt B.fPrev ls k = false) ?_ ?_))
       ·
        refine .block (.sr (.m J J J (.idxSlP 32 J J J hbp J Y51 Bm k J oM (.loadEN (Aa (ls.getD (k) [])) J J J Y24 J Bm sP (by rw [Aa, List.length_map]; exact C5 hW.row (by rw [hW.len]; omega)) (sees_row hW.row hbs (by rw [hW.len]; omega)) ?_))))
        refine .alloc (cs := (Aa (List.replicate 32 0))) J Zr24 J ?_
        intro n5 hn5 hf5
        refine .a J J J (.sA J J J J zB Bm (by (rw [Aa, List.length_map]; assumption)) Z0 sP zU ?_)
        refine .na (.seq (.draw [(1, 0), (1, 1), (0, 2), (0, 3), (1, 4), (0, 5), (1, 6), (0, 7), (0, 8), (0, 9), (0, 10), (0, 11), (0, 12), (0, 13), (1, 14), (0, 15), (0, 16), (0, 17), (1, 18), (1, 19), (3, 20), (0, 21), (0, 22), (0, 23)] Ar zK (.lA J J J Y24 J Bm Z0 (by (rw [Aa, List.length_map]; assumption)) ?_)))
        refine .lA J J J Y24 J Bm Z1 sP ?_
        refine two (fun r hr k => Tr.eql_bytes J J J J Tryz.eqGuardType24 Y24 Y5 Sz5 zA sP hr k) (fun hs7_20 => ?_) (fun hs7_20 => ?_)
        ·
         have hs7_2 := of_decide_eq_true hs7_20
         refine .m J J J (.skp J J (.skp J J (.skp J J (.skp J J (.pick J J J J J J (.m J J J (.skp J J (.skp J J (.skp J J (.skp J J (.skp J J (.skp J J (.skp J J (.skp J J (.skp J J (.skp J J (.skp J J (.skp J J (.skp J J (.pick J J J J J J (.na (.cond_t J J (.sr (.a J J J (.na (.ret (bl_r (Bg (Bg (bl_r (Bg (An ?_))))))))))))))))))))))))))))))))
         refine ⟨_, [], Ag J J, sP, sP, ?_, rfl⟩
         exact congrArg i64 (bcheck_bad hnb (linksBad_at (k := k) oM (by unfold badAt; simp_all))).symm
        ·
         have hs7_2 := of_decide_eq_false hs7_20
         refine .m J J J (.lA J J J Y24 J Bm Z0 (by (rw [Aa, List.length_map]; assumption)) ?_)
         refine .fld J J J Y53 J Bm dE _ J (.lN (Aa _) J J J Y24 J Bm Z2 (Block.row_fPrev zA) (Block.rl_fPrev zA) ?_)
         refine two (fun r hr k => Tr.eql_bytes J J J J Tryz.eqGuardType24 Y24 Y5 Sz5 zA (by (simp [hB.l_fPrev]; done)) hr k) (fun hs7_70 => ?_) (fun hs7_70 => ?_)
         ·
          have hs7_7 := of_decide_eq_true hs7_70
          refine .pick J J J J J J (.m J J J (.skp J J (.skp J J (.skp J J (.skp J J (.skp J J (.skp J J (.skp J J (.skp J J (.skp J J (.skp J J (.skp J J (.skp J J (.skp J J (.pick J J J J J J (.na (.cond_t J J (.sr (.a J J J (.na (.ret (bl_r (Bg (Bg (bl_r (Bg (An ?_)))))))))))))))))))))))))))
          refine ⟨_, [], Ag J J, sP, sP, ?_, rfl⟩
          exact congrArg i64 (bcheck_bad hnb (linksBad_at (k := k) oM (by unfold badAt; simp_all))).symm
         ·
          have hs7_7 := of_decide_eq_false hs7_70
          refine .pick J J J J J J (.m J J J (.m J J J (two (fun r hr k => Tr.gtr J J J J hr k) (fun hs7_110 => ?_) (fun hs7_110 => ?_))))
          ·
           have hs7_11 := of_decide_eq_true hs7_110
           refine .m J J J (.fld J J J Y53 J Sz51 dE _ J (.load1 J J J Y51 J Z2 (by exact Block.get_fLinks zA) ?_))
           refine .m J J J (.sub_i64 J J J J oM (.idxSlP 32 J J J hbp J Y51 Bm (k - 1) oM oM (.loadEN (Aa (ls.getD (k - 1) [])) J J J Y24 J Bm sP (by rw [Aa, List.length_map]; exact C5 hW.row (by rw [hW.len]; omega)) (sees_row hW.row hbs (by rw [hW.len]; omega)) ?_)))
           refine .lA J J J Y24 J Bm Z0 (by (rw [Aa, List.length_map]; assumption)) ?_
           refine .cV J J J J Body56 (block_cmp _ _ hr1 hr0) tV (.geq J J J J J (.pick J J J J J J (.pick J J J J J J (.na (.condP J (fun hc2 => ?_) (fun hc2 => ?_))))))
           ·
            refine .sr (.a J J J (.na (.ret (bl_r (Bg (Bg (bl_r (Bg (An ?_)))))))))
            refine ⟨_, [], Ag J J, sP, sP, ?_, rfl⟩
            exact congrArg i64 (bcheck_bad hnb (linksBad_at (k := k) oM (by unfold badAt; simp_all))).symm
           ·
            refine .skip (Bj (Ae ?_))
            refine ⟨(), by unfold badAt; simp_all, Ac (wk1 J (wk1 J (wk1 J (wk1 J (wk1 J wk0))))) (wh1 Z1 (wh1 Z2 wh0)) nD⟩
          ·
           have hs7_11 := of_decide_eq_false hs7_110
           refine .m J J J (.skp J J (.skp J J (.skp J J (.skp J J (.skp J J (.skp J J (.skp J J (.skp J J (.skp J J (.pick J J J J J J (.pick J J J J J J (.na (.cond_f J J (.skip (Bj (Ae ?_))))))))))))))))
           refine ⟨(), by unfold badAt; simp_all, Ac (wk1 J (wk1 J (wk1 J (wk1 J (wk1 J wk0))))) (wh1 Z1 (wh1 Z2 wh0)) nD⟩
       ·
        intro _u hj
        have hgk := hj
        refine .region (.aI J J J J oM (.m J J J (.na ?_)))
        exact ⟨k + 1, ⟨by omega, fun j hj => by rcases Nat.lt_succ_iff_lt_or_eq.1 hj with h | rfl; exact hg j h; exact hgk⟩, by omega, Ac (wk1 rfl (wk1 rfl (wk1 rfl (wk1 rfl (wk1 rfl wk0))))) (wh1 Z0 (wh1 Z1 wh0)) nD⟩
      ·
       obtain rfl : k = B.fLinks.n := by omega
       refine .exit (A1 (A1 (B5 (Ae (.sr (.a J J J (.na (.ret (An ?_)))))))))
       refine ⟨_, [], Ag J J, sP, sP, ?_, rfl⟩
       exact congrArg i64 (bcheck_ok hnb (linksBad_not (by rw [hW.len]; exact hg))).symm

def lightB (xs : List Block) (m : Int) : Bool := (!decide (m < (xs.length : Int))) && (xs.all fun x => decide ((x.fLinks.n : Int) ≤ 40) && decide ((x.fData.n : Int) ≤ 2000))
theorem blk_cell {w : World} {b o k j : Nat} {xs : List Block} {x : Block} {v : Value} (hok : ∀ x ∈ xs, x.ok) (hs : Cc w b o (xs.map Block.cells).flatten) (hx : xs[k]? = some x) (hj : j < 131) (hv : x.cells[j]? = some v) : w.cell? ⟨b, o + k * 131 + j, none⟩ = some v := by
  rw [Nat.add_assoc]
  refine hs _ v ?_
  rw [flatten_get 131 _ k j x.cells (fun l hl => ?_) (by rw [List.getElem?_map, hx]; rfl) hj]
  · exact hv
  · obtain ⟨y, hy, rfl⟩ := List.mem_map.1 hl
    exact Block.length (hok y hy)
theorem all_take_step {xs : List Block} {f : Block → Bool} {k : Nat} {x : Block} (hx : xs[k]? = some x) (h : (xs.take k).all f = true) (hf : f x = true) : (xs.take (k + 1)).all f = true := by
  have hk : k < xs.length := (List.getElem?_eq_some_iff.1 hx).1
  rw [List.take_succ_eq_append_getElem hk, List.all_append, h]
  have : xs[k] = x := (List.getElem?_eq_some_iff.1 hx).2
  simp [this, hf]
theorem all_bad {xs : List Block} {f : Block → Bool} {k : Nat} {x : Block} (hx : xs[k]? = some x) (hf : f x = false) : xs.all f = false := by
  rw [List.all_eq_false]
  exact ⟨x, List.mem_of_getElem? hx, by rw [hf]; simp⟩

theorem light_blocks (b o c n : Nat) (xs : List Block) (hok : ∀ x ∈ xs, x.ok) (hx : xs.length = n) (hn : n ≤ 1000000) (m : Int) : Meets Tryz.prog 35 [.slice (some ⟨b, o, none⟩) n c, i64 m] [] (fun W => Cc W b o (xs.map Block.cells).flatten) (fun v out => v = .bool (lightB xs m) ∧ out = []) := by
 intro W hW
 refine Ab Tryz.func35 J 32 Tryz.ntmps35 J (.sr (.a J J J (.na (.seq (.sr (.m J J J (.lenSl J J J Y55 (.m J J J (.gtr J J J J J (.na (.condP J (fun hc0 => ?_) (fun hc0 => ?_))))))))))))
 ·
  refine .sr (.a J J J (.na (.ret (Bg (An ?_)))))
  refine ⟨_, [], Ag J J, sP, sP, ?_, rfl⟩
  (simp [lightB]; omega)
 ·
  refine .skip (Ae (.seq (.sr (.a J J J (.na (.block (.loop (ι := Nat) (fun k => ⟨[(0, .slice (some ⟨b, o, none⟩) n c), (5, i64 (k : Int))], []⟩) (fun k => k ≤ n ∧ (xs.take k).all (fun x : Block => decide ((x.fLinks.n : Int) ≤ 40) && decide ((x.fData.n : Int) ≤ 2000)) = true) (fun k => n - k) (0) ?_ ?_ ?_)))))))
  · exact ⟨by omega, rfl⟩
  · exact Ac (wk1 rfl (wk1 rfl wk0)) wh0 nD
  ·
   rintro k ⟨hk, hg⟩
   refine .seq (.sr (.m J J J (.m J J J (.lenSl J J J Y55 (.lss J J J J J (.na (.condP J (fun hc1 => ?_) (fun hc1 => ?_))))))))
   ·
    have hk2 : k < n := by omega
    obtain ⟨x, hxk⟩ : ∃ x, xs[k]? = some x := ⟨_, List.getElem?_eq_getElem oM⟩
    have okx := hok x (List.mem_of_getElem? hxk)
    refine .skip (Ae (.seq (.block (.sr (.m J J J (.m J J J (.idxSl 131 J J J J Y55 Bw _ J oM (.fld J J J Y53 J Sz51 dE _ J (.loadE J J J Y51 J sP (blk_cell hok hW hxk dE (Block.get_fLinks okx)) (.lenSl J J J Y51 (two (fun r hr k => Tr.gtr J J J J hr k) (fun hs6_60 => ?_) (fun hs6_60 => ?_))))))))))))
    ·
     have hs6_6 := of_decide_eq_true hs6_60
     have hgx : (fun x : Block => decide ((x.fLinks.n : Int) ≤ 40) && decide ((x.fData.n : Int) ≤ 2000)) x = false := Bool.and_eq_false_iff.2 (.inl (decide_eq_false oM))
     refine .m J J J (.skp J J (.skp J J (.skp J J (.skp J J (.skp J J (.skp J J (.skp J J (.pick J J J J J J (.na (.cond_t J J (.sr (.a J J J (.na (.ret (bl_r (Bg (Bg (bl_r (Bg (An ?_))))))))))))))))))))
     refine ⟨_, [], Ag J J, sP, sP, ?_, rfl⟩
     (rw [lightB, all_bad hxk hgx, Bool.and_false]; done)
    ·
     have hs6_6 := of_decide_eq_false hs6_60
     skip
     refine .m J J J (.m J J J (.m J J J (.idxSl 131 J J J J Y55 Bw _ J oM (.fld J J J Y53 J Co dE _ J (.loadE J J J Y39 J sP (blk_cell hok hW hxk dE (Block.get_fData okx)) (.lenSl J J J Y39 (.gtr J J J J J (.pick J J J J J J (.na (.condP J (fun hc2 => ?_) (fun hc2 => ?_)))))))))))
     ·
      have hgx : (fun x : Block => decide ((x.fLinks.n : Int) ≤ 40) && decide ((x.fData.n : Int) ≤ 2000)) x = false := Bool.and_eq_false_iff.2 (.inr (decide_eq_false oM))
      refine .sr (.a J J J (.na (.ret (bl_r (Bg (Bg (bl_r (Bg (An ?_)))))))))
      refine ⟨_, [], Ag J J, sP, sP, ?_, rfl⟩
      (rw [lightB, all_bad hxk hgx, Bool.and_false]; done)
     ·
      have hgx : (fun x : Block => decide ((x.fLinks.n : Int) ≤ 40) && decide ((x.fData.n : Int) ≤ 2000)) x = true := by simp; omega
      refine .skip (Bj (Ae (.region (.m J J J (.aI J J J J oM (.a J J J (.na ?_)))))))
      exact ⟨k + 1, ⟨by omega, all_take_step hxk hg hgx⟩, by omega, Ac (wk1 rfl (wk1 rfl wk0)) wh0 nD⟩
   ·
    obtain rfl : k = n := by omega
    refine .exit (A1 (A1 (B5 (Ae (.sr (.a J J J (.na (.ret (An ?_)))))))))
    refine ⟨_, [], Ag J J, sP, sP, ?_, rfl⟩
    (rw [List.take_of_length_le oM] at hg; rw [lightB, hg, Bool.and_true]; simp [hx]; omega)

theorem kit_names (s : Sl) (ls : List (List UInt8)) (hn : s.n ≤ 500000) : Meets Tryz.prog 92 [s.v] [] (fun W => RowsAt W s 32 ls) (fun v out => FreshRow v out (Bv ls) 24 s.n 32) := by
 intro W hW
 refine Ab Tryz.func92 J 6 Tryz.ntmps92 J (.sr (.a J J J (.nsr (.mkRow (z := agg (Aa (List.replicate 32 0))) [] ([]) J J J Y51 Bm Zr24 J J (by intro v hv; cases hv) dE (rfl) ?_))))
 intro q0
 refine .m J J J (.appendSl (z := agg (Aa (List.replicate 32 0))) (by' := 32) (Bv ls) J J J J J Y51 Y51 Bm Zr24 (by unfold By; kernel_rfl) J (fun w h => Ax h J hW.see) (fun e => by have := hW.nil e; have := hW.cap; omega) (flatB_cell ls) Az J J oM oM oM (by rw [Bu hW.row, hW.len]) ?_)
 intro q1 c1 hq1
 refine .a J J J (.na (.ret (An ?_)))
 refine ⟨_, [⟨q1, [] ++ Bv ls, 24, c1 * 32⟩], Ag J J, (by intro b hb; rw [List.mem_singleton.1 hb]; exact Bo), Ce, ⟨q1, c1, by rw [Nat.zero_add], by omega, rfl⟩⟩

theorem kit_own (s : Sl) (l : List UInt8) (hn : s.n ≤ 500000) : Meets Tryz.prog 24 [s.v] [] (fun W => BytesAt W s l) (fun v out => FreshRow v out (Aa l) 5 s.n 1) := by
 intro W hW
 refine Ab Tryz.func24 J 6 Tryz.ntmps24 J (.sr (.a J J J (.nsr (.mkRow (z := u8 0) [] ([]) J J J Y39 Sz5 Zr5 J J (by intro v hv; cases hv) dE (rfl) ?_))))
 intro q0
 refine .m J J J (.appendSl (z := u8 0) (by' := 1) (Aa l) J J J J J Y39 Y39 Sz5 Zr5 (by unfold By; kernel_rfl) J (fun w h => Ax h J hW.see) (fun e => by have := hW.nil e; have := hW.cap; omega) (by simp [Aa, isCell, u8]) Az J J oM oM oM (by rw [Aa, List.length_map, hW.len, Nat.mul_one]) ?_)
 intro q1 c1 hq1
 refine .a J J J (.na (.ret (An ?_)))
 refine ⟨_, [⟨q1, [] ++ Aa l, 5, c1 * 1⟩], Ag J J, (by intro b hb; rw [List.mem_singleton.1 hb]; exact Bo), Ce, ⟨q1, c1, by rw [Nat.zero_add], by omega, rfl⟩⟩

def ownB (B : Block) (q1 c1 q2 c2 : Nat) : Block := { B with fLinks := ⟨some ⟨q1, 0, none⟩, B.fLinks.n, c1⟩, fData := ⟨some ⟨q2, 0, none⟩, B.fData.n, c2⟩ }
theorem ownB_ok {B : Block} (h : B.ok) (q1 c1 q2 c2 : Nat) : (ownB B q1 c1 q2 c2).ok := ⟨h.l_fWriter, h.l_fPrev, h.l_fSig⟩
def OwnedBlock (B : Block) (ls : List (List UInt8)) (l : List UInt8) (v : Value) (out : List Blk) : Prop := ∃ q1 c1 q2 c2, v = agg (ownB B q1 c1 q2 c2).cells ∧ B.fLinks.n ≤ c1 ∧ B.fData.n ≤ c2 ∧ out = [⟨q2, Aa l, 5, c2 * 1⟩, ⟨q1, Bv ls, 24, c1 * 32⟩]
theorem OwnedBlock.loose (B : Block) (ls : List (List UInt8)) (l : List UInt8) : Loose (OwnedBlock B ls l) := fun k hk => by
  obtain ⟨q1, _, h1⟩ := fresh_is 0 k
  obtain ⟨q2, h2', h2⟩ := fresh_is (q1 + 1) k
  refine ⟨_, _, ⟨q1, B.fLinks.n, q2, B.fData.n, rfl, Nat.le_refl _, Nat.le_refl _, rfl⟩, ?_⟩
  simp only [List.cons_append, List.nil_append, List.map_cons, List.nodup_cons, List.mem_cons]
  refine ⟨?_, fun h => ?_, hk⟩
  · rintro (h | h)
    · omega
    · obtain ⟨b, hb, e⟩ := List.mem_map.1 h; exact h2 b hb e
  · obtain ⟨b, hb, e⟩ := List.mem_map.1 h; exact h1 b hb e
theorem rows_ext {C : Cx} {hp : List Blk} {w : World} {s : Sl} {m : Nat} {ls : List (List UInt8)} (h : HRep C hp w) (hl : C.lent = []) (hr : RowsAt C.W0 s m ls) : RowsAt w s m ls := ⟨hr.len, hr.row, hr.cap, Ax h hl hr.see, hr.max, hr.nil⟩
theorem bytes_ext {C : Cx} {hp : List Blk} {w : World} {s : Sl} {l : List UInt8} (h : HRep C hp w) (hl : C.lent = []) (hr : BytesAt C.W0 s l) : BytesAt w s l := ⟨hr.len, hr.cap, Ax h hl hr.see, hr.max, hr.nil⟩

theorem kit_own_block (B : Block) (hB : B.ok) (ls : List (List UInt8)) (l : List UInt8) (hn : B.fLinks.n ≤ 500000) (hd : B.fData.n ≤ 500000) : Meets Tryz.prog 37 [agg B.cells] [] (fun W => RowsAt W B.fLinks 32 ls ∧ BytesAt W B.fData l) (OwnedBlock B ls l) := by
 intro W hW
 refine Ab Tryz.func37 J 12 Tryz.ntmps37 J (.sr (.boxA J J ?_))
 intro n1 hn1 hf1
 refine .alloc (cs := Block.zero.cells) J Block.zr J ?_
 intro n2 hn2 hf2
 refine .na (.seq (.draw [(0, 0), (1, 1), (0, 3), (1, 4), (3, 2), (0, 6), (3, 5), (4, 7), (0, 8), (4, 9)] Ar zK (.fld J J J Y53 J Sz51 dE _ J (.load1 J J J Y51 J Z1 (by exact Block.get_fLinks zA) ?_))))
 refine .fld J J J Y53 J Co dE _ J (.load1 J J J Y39 J Z1 (by exact Block.get_fData zA) ?_)
 refine .call J J J J Body92 (kit_names _ ls hn) (FreshRow.loose _ _ _ _) (fun w h => rows_ext h J hW.1) ?_
 rintro v1 out1 ⟨q1, c1, rfl, hc1, rfl⟩
 refine .fld J J J Y53 J Sz51 dE _ J (.call J J J J Body24 (kit_own _ l hd) (FreshRow.loose _ _ _ _) (fun w h => bytes_ext h J hW.2) ?_)
 rintro v2 out2 ⟨q2, c2, rfl, hc2, rfl⟩
 refine .s1 J J J J J Sz51 Z3 (by rw [Block.length zA]; decide) (by exact Block.setS_fLinks zA _ _ _) (by exact upd3) ?_
 refine .fld J J J Y53 J Co dE _ J (.s1 J J J J J Co Z3 (by rw [Block.length (by exact ⟨hB.l_fWriter, hB.l_fPrev, hB.l_fSig⟩)]; decide) (by exact Block.setS_fData (by exact ⟨hB.l_fWriter, hB.l_fPrev, hB.l_fSig⟩) _ _ _) (by exact upd3) ?_)
 refine .nsr (.lA J J J Y53 J Bw Z3 (Block.length (by exact ⟨hB.l_fWriter, hB.l_fPrev, hB.l_fSig⟩)) ?_)
 refine .sA J J J J (Block.isCell (by exact ⟨hB.l_fWriter, hB.l_fPrev, hB.l_fSig⟩)) Bw (Block.length (by exact ⟨hB.l_fWriter, hB.l_fPrev, hB.l_fSig⟩)) Z2 (Block.length (by exact Block.zero_ok)) (by exact upd2) ?_
 refine .na (.ret (An ?_))
 refine ⟨_, [⟨q2, Aa l, 5, c2 * 1⟩, ⟨q1, Bv ls, 24, c1 * 32⟩], Ao J J Y53 J Bw Z2 (Block.length (ownB_ok hB q1 c1 q2 c2)), (by intro b hb; rcases List.mem_cons.1 hb with rfl | hb; exact Bo; rw [List.mem_singleton.1 hb]; exact mem1), (fun h => h.sublist sP), ⟨q1, c1, q2, c2, rfl, hc1, hc2, rfl⟩⟩

theorem parents_nil (B : Block) (hB : B.ok) (ls : List (List UInt8)) (hn : B.fLinks.n ≤ 500000) (hs : (B.fSeq.toNat : Int) = 0) (h0 : B.fLinks.n = 0) : Meets Tryz.prog 46 [agg B.cells] [] (fun W => RowsAt W B.fLinks 32 ls) (fun v out => v = .slice none 0 0 ∧ out = []) := by
 intro W hW
 have hl0 : ∃ p c, B.fLinks.v = .slice p 0 c := ⟨_, _, by rw [Sl.v, h0]⟩
 obtain ⟨p9, c9, hl9⟩ := hl0
 have hg9 := Block.get_fLinks hB
 rw [hl9] at hg9
 refine Ab Tryz.func46 J 16 Tryz.ntmps46 J (.sr (.boxA J J ?_))
 intro n1 hn1 hf1
 refine .a J J J (.nsr (.a J J J (.na (.seq (.sr (.fld J J J Y53 J Ap dE _ J (.load1 J J J Y22 J Z0 (by exact Block.get_fSeq zA) ?_)))))))
 refine .nei J J J J (show (!decide _) = false from congrArg not (decide_eq_true (hs))) (.na (.cond_f J (rfl) (.skip (Ae (.sr (.m J J J (.fld J J J Y53 J Sz51 dE _ J (.load1 J J J Y51 J Z0 hg9 ?_))))))))
 refine .appendNilNil J J J J Y51 Y51 Bm (.a J J J (.na (.ret (An ?_))))
 refine ⟨_, [], Ag J J, sP, sP, ?_, rfl⟩
 rfl

theorem parents_0 (B : Block) (hB : B.ok) (ls : List (List UInt8)) (hn : B.fLinks.n ≤ 500000) (hs : (B.fSeq.toNat : Int) = 0) (h0 : 0 < B.fLinks.n) : Meets Tryz.prog 46 [agg B.cells] [] (fun W => RowsAt W B.fLinks 32 ls) (fun v out => FreshRow v out (Bv ls) 24 B.fLinks.n 32) := by
 intro W hW
 refine Ab Tryz.func46 J 16 Tryz.ntmps46 J (.sr (.boxA J J ?_))
 intro n1 hn1 hf1
 refine .a J J J (.nsr (.a J J J (.na (.seq (.sr (.fld J J J Y53 J Ap dE _ J (.load1 J J J Y22 J Z0 (by exact Block.get_fSeq zA) ?_)))))))
 refine .nei J J J J (show (!decide _) = false from congrArg not (decide_eq_true (hs))) (.na (.cond_f J (rfl) (.skip (Ae (.sr (.m J J J (.fld J J J Y53 J Sz51 dE _ J (.load1 J J J Y51 J Z0 (by exact Block.get_fLinks zA) ?_))))))))
 refine .appendToNil (z := agg (Aa (List.replicate 32 0))) (by' := 32) (Bv ls) J J J J Y51 Y51 Bm Zr24 (by unfold By; kernel_rfl) J (fun w h => Ax h J hW.see) h0 (fun e => by have := hW.nil e; have := hW.cap; omega) (flatB_cell ls) oM oM (by rw [Bu hW.row, hW.len]) ?_
 intro q1 c1 hq1
 refine .a J J J (.na (.ret (An ?_)))
 refine ⟨_, [⟨q1, Bv ls, 24, c1 * 32⟩], Ag J J, (by intro b hb; rw [List.mem_singleton.1 hb]; exact Bo), Ce, ⟨q1, c1, rfl, hq1, rfl⟩⟩

theorem parents_s (B : Block) (hB : B.ok) (ls : List (List UInt8)) (hn : B.fLinks.n ≤ 500000) (hs : ¬ (B.fSeq.toNat : Int) = 0) : Meets Tryz.prog 46 [agg B.cells] [] (fun W => RowsAt W B.fLinks 32 ls) (fun v out => FreshRow v out (Bv (B.fPrev :: ls)) 24 (1 + B.fLinks.n) 32) := by
 intro W hW
 refine Ab Tryz.func46 J 16 Tryz.ntmps46 J (.sr (.boxA J J ?_))
 intro n1 hn1 hf1
 refine .a J J J (.nsr (.a J J J (.na (.seq (.sr (.fld J J J Y53 J Ap dE _ J (.load1 J J J Y22 J Z0 (by exact Block.get_fSeq zA) ?_)))))))
 refine .nei J J J J (show (!decide _) = true from congrArg not (decide_eq_false (hs))) (.na (.cond_t J (rfl) (.region (.m J J J (.fld J J J Y53 J Bm dE _ J (.lN (Aa _) J J J Y24 J Bm Z0 (Block.row_fPrev zA) (Block.rl_fPrev zA) ?_))))))
 refine .mkRow (z := agg (Aa (List.replicate 32 0))) [agg (Aa B.fPrev)] (Aa B.fPrev) J J J Y51 Bm Zr24 J J (by intro v hv; rw [List.mem_singleton.1 hv]; simp [Value.cells, hB.l_fPrev]) dE (by simp [Value.cells]) ?_
 intro q0
 refine .appendToNil (z := agg (Aa (List.replicate 32 0))) (by' := 32) (Aa B.fPrev) J J J J Y51 Y51 Bm Zr24 (by unfold By; kernel_rfl) J (fun w h => SeesP.of (Ak h Bo)) dE (fun e => by cases e) (by simp [Aa, isCell, u8]) dE dE (by simp [hB.l_fPrev]) ?_
 intro q1 c1 hq1
 refine .a J J J (.nsr (.m J J J (.fld J J J Y53 J Sz51 dE _ J (.load1 J J J Y51 J Z2 (by exact Block.get_fLinks zA) ?_))))
 refine .appendSl (z := agg (Aa (List.replicate 32 0))) (by' := 32) (Bv ls) J J J J J Y51 Y51 Bm Zr24 (by unfold By; kernel_rfl) J (fun w h => Ax h J hW.see) (fun e => by have := hW.nil e; have := hW.cap; omega) (flatB_cell ls) Az J (by simp [hB.l_fPrev]) hq1 oM oM (by rw [Bu hW.row, hW.len]) ?_
 intro q2 c2 hq2
 refine .a J J J (.na (.ret (An ?_)))
 refine ⟨_, [⟨q2, Aa B.fPrev ++ Bv ls, 24, c2 * 32⟩], Ag J J, (by intro b hb; rw [List.mem_singleton.1 hb]; exact Bo), Ce, ⟨q2, c2, rfl, hq2, rfl⟩⟩

theorem take_step {α : Type} {xs bs : List α} {k : Nat} (d : α) (ha : k < xs.length) (hb : k < bs.length) (h : xs.take k = bs.take k) (he : xs.getD k d = bs.getD k d) : xs.take (k + 1) = bs.take (k + 1) := by
  rw [List.take_succ_eq_append_getElem ha, List.take_succ_eq_append_getElem hb, h]
  have e1 : xs.getD k d = xs[k] := by simp [List.getD, ha]
  have e2 : bs.getD k d = bs[k] := by simp [List.getD, hb]
  rw [← e1, ← e2, he]

theorem digests_eq (p q : Option Addr) (n c1 c2 : Nat) (xs bs : List (List UInt8)) (hra : ∀ l ∈ xs, l.length = 32) (hrb : ∀ l ∈ bs, l.length = 32) (ha : xs.length = n) (hb : bs.length = n) (hn : n ≤ 1000000) : Meets Tryz.prog 54 [.slice p n c1, .slice q n c2] [] (fun W => SeesP W p (Bv xs) ∧ SeesP W q (Bv bs)) (fun v out => v = .bool (decide (xs = bs)) ∧ out = []) := by
 intro W hW
 refine Ab Tryz.func54 J 26 Tryz.ntmps54 J (.sr (.a J J J (.na (.seq (.sr (.m J J J (.lenSl J J J Y51 (.m J J J (.lenSl J J J Y51 (.nei J J J J (show (!decide _) = false from congrArg not (decide_eq_true (rfl))) (.na (.cond_f J (rfl) (.skip (Ae (.seq (.sr (.a J J J (.na (.block (.loop (ι := Nat) (fun k => ⟨[(0, .slice p n c1), (1, .slice q n c2), (5, i64 (k : Int))], []⟩) (fun k => k ≤ n ∧ xs.take k = bs.take k) (fun k => n - k) (0) ?_ ?_ ?_))))))))))))))))))))
 · exact ⟨by omega, rfl⟩
 · exact Ac (wk1 rfl (wk1 rfl (wk1 rfl wk0))) wh0 nD
 ·
  rintro k ⟨hk, hg⟩
  refine .seq (.sr (.m J J J (.m J J J (.lenSl J J J Y51 (.lss J J J J J (.na (.condP J (fun hc1 => ?_) (fun hc1 => ?_))))))))
  ·
   have hk2 : k < n := by omega
   obtain ⟨b1, o1, hp1, hs1⟩ := hW.1.at (by rw [Bu hra]; omega)
   obtain ⟨b2, o2, hp2, hs2⟩ := hW.2.at (by rw [Bu hrb]; omega)
   have r1 : (xs.getD k []).length = 32 := C5 hra oM
   have r2 : (bs.getD k []).length = 32 := C5 hrb oM
   refine .skip (Ae (.seq (.block (.seq (.draw [(0, 0), (0, 1), (0, 2), (1, 3), (0, 4), (0, 5), (0, 6), (1, 7), (0, 8)] Ar zK (.m J J J (.m J J J (.idxSlP 32 J J J hp1 J Y51 Bm k J oM (.loadEN (Aa (xs.getD k [])) J J J Y24 J Bm sP (by rw [Aa, List.length_map]; exact C5 hra oM) (sees_row hra hs1 oM) ?_)))))))))
   refine .m J J J (.m J J J (.idxSlP 32 J J J hp2 J Y51 Bm k J oM (.loadEN (Aa (bs.getD k [])) J J J Y24 J Bm sP (by rw [Aa, List.length_map]; exact C5 hrb oM) (sees_row hrb hs2 oM) ?_)))
   refine .neq_bytes J J J J Tryz.eqGuardType24 Y24 Y5 Sz5 zA zA J ?_
   refine .na (.condNP J (fun hc2 => ?_) (fun hc2 => ?_))
   ·
    refine .sr (.a J J J (.na (.ret (bl_r (Bg (Bg (bl_r (Bg (An ?_)))))))))
    refine ⟨_, [], Ag J J, sP, sP, ?_, rfl⟩
    (rw [decide_eq_false (fun e => hc2 (by rw [e]))]; done)
   ·
    refine .skip (Bj (Ae (.region (.m J J J (.aI J J J J oM (.a J J J (.na ?_)))))))
    exact ⟨k + 1, ⟨by omega, take_step [] oM oM hg hc2⟩, by omega, Ac (wk1 rfl (wk1 rfl (wk1 rfl wk0))) wh0 nD⟩
  ·
   obtain rfl : k = n := by omega
   refine .exit (A1 (A1 (B5 (Ae (.sr (.a J J J (.na (.ret (An ?_)))))))))
   refine ⟨_, [], Ag J J, sP, sP, ?_, rfl⟩
   (rw [List.take_of_length_le oM, List.take_of_length_le oM] at hg; rw [decide_eq_true hg]; done)

theorem digests_ne (p q : Option Addr) (n m c1 c2 : Nat) (xs bs : List (List UInt8)) (hra : ∀ l ∈ xs, l.length = 32) (hrb : ∀ l ∈ bs, l.length = 32) (ha : xs.length = n) (hb : bs.length = m) (hn : n ≤ 1000000) (hnm : n ≠ m) : Meets Tryz.prog 54 [.slice p n c1, .slice q m c2] [] (fun W => SeesP W p (Bv xs) ∧ SeesP W q (Bv bs)) (fun v out => v = .bool (decide (xs = bs)) ∧ out = []) := by
 intro W hW
 refine Ab Tryz.func54 J 26 Tryz.ntmps54 J (.sr (.a J J J (.na (.seq (.sr (.m J J J (.lenSl J J J Y51 (.m J J J (.lenSl J J J Y51 (.nei J J J J (show (!decide _) = true from congrArg not (decide_eq_false oM)) (.na (.cond_t J (rfl) (.sr (.a J J J (.na (.ret (Bg (An ?_))))))))))))))))))
 refine ⟨_, [], Ag J J, sP, sP, ?_, rfl⟩
 rw [decide_eq_false (fun e => hnm (by rw [← ha, ← hb, e]))]

end Go.Proofs.YtpacobmjjjillaaGreat
end

section
namespace Hw
open Go Go.RowKit

section
variable {C : Cx} {ops : Array Oper} {rest : List (Nat × Oper)} {sl : List (Nat × Value)} {hp : List Blk} {Q : St → Prop} {c d : Nat} {ty : TypeId} {pos : String} {af : Array Edge} {g : Option (Nat × Bool)}
variable {f : Operand} {fid : FuncId} {ars : List Operand} {ats : Array TypeId} {vs : List Value}

theorem Tr.callL {Pre : World → Prop} {R : Value → List Blk → Prop} {lent : List Nat} {L keep : List Blk} (hg : Am ops sl g = true) (hk : Nat.beq c 4 = true) (hd : Nat.blt d C.N = true) (hfn : Ah sl f = some (.func (.func fid) #[] #[])) (hargs : evs sl ars = some vs) (hb : Ay C.P fid)
    (hc : Meets C.P fid vs lent Pre R) (hsp : hp.Perm (L ++ keep)) (hl : ∀ n ∈ lent, ∃ b ∈ L, b.n = n) (hpre : ∀ w, HRep C hp w → Pre w)
    (k : ∀ v out, R v out → Tr C ops rest ⟨(d, v) :: sl, out ++ keep⟩ Q) : Tr C ops ((c, ⟨some d, .call ⟨.value f, ars.toArray, ats⟩, ty, pos, af, g⟩) :: rest) ⟨sl, hp⟩ Q := by
  refine Tr.act (ρ := Value × List Blk) (fun r => R r.1 r.2) (·.1) (fun r => r.2 ++ keep) (nbeq' hk) (A8 hg) (C6 (nblt hd)) ⟨known_call hfn hargs, fun a w hf hh => ?_⟩ (fun r hr => k r.1 r.2 hr)
  unfold Oper.wp
  rw [run_call hfn hargs hf, hb]
  refine (hc w (hpre w hh)).mono fun e w' ⟨v, out, he, hR, hret⟩ => ?_
  subst he
  exact ⟨(v, out), hR, rfl, hh.lentRet hsp hl hret⟩
end

section
variable {C : Cx} {ops : Array Oper} {rest : List (Nat × Oper)} {sl : List (Nat × Value)} {hp : List Blk} {Q : St → Prop} {c d : Nat} {ty : TypeId} {pos : String} {af : Array Edge} {g : Option (Nat × Bool)}
variable {f : Operand} {fid : FuncId} {ars : List Operand} {ats : Array TypeId} {vs : List Value}
end

section
variable {C : Cx} {ops : Array Oper} {rest : List (Nat × Oper)} {sl : List (Nat × Value)} {hp : List Blk} {Q : St → Prop} {c d : Nat} {ty : TypeId} {pos : String} {af : Array Edge} {g : Option (Nat × Bool)}
variable {f : Operand} {fid : FuncId} {ars : List Operand} {ats : Array TypeId} {vs us : List Value} {fst cap : Array Value}

theorem known_callC (hfn : Ah sl f = some (.func (.func fid) fst cap)) (hargs : evs sl ars = some vs) : Known sl ⟨some d, .call ⟨.value f, ars.toArray, ats⟩, ty, pos, af, g⟩ := by
  intro x hx
  simp [Op.operands, Call.operands] at hx
  rcases hx with rfl | hx
  · simp [hfn]
  · exact evs_known hargs x hx

theorem run_callC {ρ : Operand → Value} {w : World} (hfn : Ah sl f = some (.func (.func fid) fst cap)) (hargs : evs sl ars = some vs) (hus : fst.toList ++ vs ++ cap.toList = us)
    (hf : Fits sl ⟨some d, .call ⟨.value f, ars.toArray, ats⟩, ty, pos, af, g⟩ ρ) :
    (execOp ρ ⟨some d, .call ⟨.value f, ars.toArray, ats⟩, ty, pos, af, g⟩).run C.P w = (callFunc fid us.toArray).run C.P w := by
  have h1 := hf f (by simp [Op.operands, Call.operands]); rw [hfn] at h1
  simp only [Option.some.injEq] at h1
  have h2 := evs_map hargs fun x hx => hf x (by simp [Op.operands, Call.operands, hx])
  have e : fst ++ vs.toArray ++ cap = us.toArray := by rw [← hus]; simp
  simp [execOp, resolve, Deferred.ofValue, ← h1, h2, invoke]
  rw [← e, Array.append_assoc]

theorem Tr.callCL {Pre : World → Prop} {R : Value → List Blk → Prop} {lent : List Nat} {L keep : List Blk} (hg : Am ops sl g = true) (hk : Nat.beq c 4 = true) (hd : Nat.blt d C.N = true) (hfn : Ah sl f = some (.func (.func fid) fst cap)) (hargs : evs sl ars = some vs) (hus : fst.toList ++ vs ++ cap.toList = us) (hb : Ay C.P fid)
    (hc : Meets C.P fid us lent Pre R) (hsp : hp.Perm (L ++ keep)) (hl : ∀ n ∈ lent, ∃ b ∈ L, b.n = n) (hpre : ∀ w, HRep C hp w → Pre w)
    (k : ∀ v out, R v out → Tr C ops rest ⟨(d, v) :: sl, out ++ keep⟩ Q) : Tr C ops ((c, ⟨some d, .call ⟨.value f, ars.toArray, ats⟩, ty, pos, af, g⟩) :: rest) ⟨sl, hp⟩ Q := by
  refine Tr.act (ρ := Value × List Blk) (fun r => R r.1 r.2) (·.1) (fun r => r.2 ++ keep) (nbeq' hk) (A8 hg) (C6 (nblt hd)) ⟨known_callC hfn hargs, fun a w hf hh => ?_⟩ (fun r hr => k r.1 r.2 hr)
  unfold Oper.wp
  rw [run_callC hfn hargs hus hf, hb]
  refine (hc w (hpre w hh)).mono fun e w' ⟨v, out, he, hR, hret⟩ => ?_
  subst he
  exact ⟨(v, out), hR, rfl, hh.lentRet hsp hl hret⟩

theorem Tr.makeFunc {fn : Fn} {ars bs : List Operand} {us vs : List Value} (hg : Am ops sl g = true) (hk : okD c d C.N = true) (ha : evs sl ars = some us) (hb : evs sl bs = some vs)
    (k : Tr C ops rest ⟨(d, .func fn us.toArray vs.toArray) :: sl, hp⟩ Q) : Tr C ops ((c, ⟨some d, .makeFunc fn ars.toArray bs.toArray, ty, pos, af, g⟩) :: rest) ⟨sl, hp⟩ Q :=
  .pv hg hk ⟨fun x hx => by
    simp [Op.operands] at hx
    rcases hx with hx | hx
    · exact evs_known ha x hx
    · exact evs_known hb x hx, fun ρ hf w => by
    have h1 := evs_map ha fun x hx => hf x (by simp [Op.operands, hx])
    have h2 := evs_map hb fun x hx => hf x (by simp [Op.operands, hx])
    simp [execOp, Instr.makeFunc, h1, h2]⟩ k
end

theorem HRep.one {P : Program} {W : World} {N : Nat} {B : Blk} (h : BlkOk W B) : HRep ⟨P, W, N, [B.n], [], []⟩ [B] W :=
  ⟨fun b hb => by rw [List.mem_singleton.1 hb]; exact h, by simp, fun b hb => by rw [List.mem_singleton.1 hb]; exact .inr List.mem_cons_self, Keeps.refl _ _, fun _ h => (by cases h), fun _ _ _ h => (by cases h)⟩
theorem Av {C : Cx} {hp : List Blk} {w : World} {B : Blk} (h : HRep C hp w) (hb : B ∈ hp) : BlkOk w B := h.cells B hb
end Hw
end

section
namespace Hw
open Go Go.RowKit
section
variable {C : Cx} {ops : Array Oper} {rest : List (Nat × Oper)} {sl : List (Nat × Value)} {hp : List Blk} {Q : St → Prop} {c d : Nat} {ty : TypeId} {pos : String} {af : Array Edge} {g : Option (Nat × Bool)}
variable {xT yT : TypeId} {x y : Operand} {p q : UInt8}

theorem Tr.min2 {ats : Array TypeId} {k1 k2 : IntKind} {a b : Int} {v : Value} (hg : Am ops sl g = true) (hk : okD c d C.N = true) (hx : Ah sl x = some (.int k1 a)) (hy : Ah sl y = some (.int k2 b)) (hv : Value.int k1 (if b < a then b else a) = v)
    (k : Tr C ops rest ⟨(d, v) :: sl, hp⟩ Q) : Tr C ops ((c, ⟨some d, .call { callee := .builtin .min, args := #[x, y], argTypes := ats }, ty, pos, af, g⟩) :: rest) ⟨sl, hp⟩ Q :=
  .pv hg hk ⟨by simpa [Known, Op.operands, Call.operands] using known2 hx hy, fun ρ hf w => by
    have h1 := hf x (by simp [Op.operands, Call.operands]); rw [hx] at h1
    have h2 := hf y (by simp [Op.operands, Call.operands]); rw [hy] at h2
    simp only [Option.some.injEq] at h1 h2
    subst hv
    simp [execOp, resolve, invoke, builtin, ← h1, ← h2, Builtin.min_, Builtin.min2]⟩ k
theorem Tr.max2 {ats : Array TypeId} {k1 k2 : IntKind} {a b : Int} {v : Value} (hg : Am ops sl g = true) (hk : okD c d C.N = true) (hx : Ah sl x = some (.int k1 a)) (hy : Ah sl y = some (.int k2 b)) (hv : Value.int k1 (if b > a then b else a) = v)
    (k : Tr C ops rest ⟨(d, v) :: sl, hp⟩ Q) : Tr C ops ((c, ⟨some d, .call { callee := .builtin .max, args := #[x, y], argTypes := ats }, ty, pos, af, g⟩) :: rest) ⟨sl, hp⟩ Q :=
  .pv hg hk ⟨by simpa [Known, Op.operands, Call.operands] using known2 hx hy, fun ρ hf w => by
    have h1 := hf x (by simp [Op.operands, Call.operands]); rw [hx] at h1
    have h2 := hf y (by simp [Op.operands, Call.operands]); rw [hy] at h2
    simp only [Option.some.injEq] at h1 h2
    subst hv
    simp [execOp, resolve, invoke, builtin, ← h1, ← h2, Builtin.max_, Builtin.max2]⟩ k

theorem Tr.nC {a : Addr} (hg : Am ops sl g = true) (hk : okD c d C.N = true) (hx : Ah sl x = some (.pointer (some a)))
    (k : Tr C ops rest ⟨(d, .pointer (some a)) :: sl, hp⟩ Q) : Tr C ops ((c, ⟨some d, .nilCheck x, ty, pos, af, g⟩) :: rest) ⟨sl, hp⟩ Q :=
  .pv hg hk ⟨known1 hx, fun ρ hf w => by
    have h1 := hf x (by simp [Op.operands]); rw [hx] at h1
    simp only [Option.some.injEq] at h1
    simp [execOp, ← h1]⟩ k

theorem pointee_of {P : Program} {T E : TypeId} (hu : P.underlying T = some (.pointer E)) : P.underlying T = some (.pointer (P.pointee T)) := by
  have : P.pointee T = E := by simp [Program.pointee, hu]
  rw [this]; exact hu
theorem Tr.neqNilP {a : Addr} {E : TypeId} (hg : Am ops sl g = true) (hk : okD c d C.N = true) (hx : Ah sl x = some (.pointer (some a))) (hy : Ah sl y = some (.pointer none)) (hu : C.P.underlying xT = some (.pointer E))
    (k : Tr C ops rest ⟨(d, .bool true) :: sl, hp⟩ Q) : Tr C ops ((c, ⟨some d, .binOp .neq xT x y yT, ty, pos, af, g⟩) :: rest) ⟨sl, hp⟩ Q :=
  .binAny hg hk hx hy (fun w => by simp [eqGuard]) (fun w => by rw [run_neq_pointer_nil w xT (some a) (pointee_of hu)]; rfl) k
theorem Tr.eqSameP {a : Addr} {E : TypeId} {sz : Nat} (hg : Am ops sl g = true) (hk : okD c d C.N = true) (hx : Ah sl x = some (.pointer (some a))) (hy : Ah sl y = some (.pointer (some a))) (hu : C.P.underlying xT = some (.pointer E)) (hs : Sz C.P E sz)
    (k : Tr C ops rest ⟨(d, .bool true) :: sl, hp⟩ Q) : Tr C ops ((c, ⟨some d, .binOp .eql xT x y yT, ty, pos, af, g⟩) :: rest) ⟨sl, hp⟩ Q :=
  .binAny hg hk hx hy (fun w => by simp [eqGuard]) (fun w => by
    unfold Sz at hs
    cases hi : C.P.info? E with
    | none => rw [hi] at hs; simp at hs
    | some i => exact run_eql_ptr_same w a hu hi) k
theorem Tr.eqNilS {ad : Option Addr} {n cap : Nat} {E : TypeId} (hg : Am ops sl g = true) (hk : okD c d C.N = true) (hx : Ah sl x = some (.slice ad n cap)) (hy : Ah sl y = some (.slice none 0 0)) (hu : C.P.underlying xT = some (.slice E)) {r : Bool} (hr : ad.isNone = r)
    (k : Tr C ops rest ⟨(d, .bool r) :: sl, hp⟩ Q) : Tr C ops ((c, ⟨some d, .binOp .eql xT x y yT, ty, pos, af, g⟩) :: rest) ⟨sl, hp⟩ Q :=
  .binAny hg hk hx hy (fun w => by simp [eqGuard]) (fun w => by
    subst hr
    have h := run_equal_slice_nil w xT E ad n cap hu
    simp only [binOp, Sem.run_bind, h, Result.andThen_ok]
    rfl) k

theorem Tr.eql_str {a b : List UInt8} (hg : Am ops sl g = true) (hk : okD c d C.N = true) (hx : Ah sl x = some (str a)) (hy : Ah sl y = some (str b)) {r : Bool} (hr : decide (a = b) = r)
    (k : Tr C ops rest ⟨(d, .bool r) :: sl, hp⟩ Q) : Tr C ops ((c, ⟨some d, .binOp .eql xT x y yT, ty, pos, af, g⟩) :: rest) ⟨sl, hp⟩ Q :=
  .binAny hg hk hx hy (fun w => by simp [eqGuard, str]) (fun w => by
    subst hr
    rw [show (binOp .eql xT (str a) (str b)) = Op.stringOp .eql ⟨a.toArray⟩ ⟨b.toArray⟩ from rfl]
    simp [Op.stringOp, toList_mk]
    rw [Bool.eq_iff_iff]; simp) k

theorem Tr.or_u8 (hg : Am ops sl g = true) (hk : okD c d C.N = true) (hx : Ah sl x = some (u8 p)) (hy : Ah sl y = some (u8 q))
    (k : Tr C ops rest ⟨(d, u8 (p ||| q)) :: sl, hp⟩ Q) : Tr C ops ((c, ⟨some d, .binOp .or xT x y yT, ty, pos, af, g⟩) :: rest) ⟨sl, hp⟩ Q :=
  .bin hg hk hx hy (fun w => congrArg (fun n => Result.ok (Value.int .u8 n) w) (bits8 (· ||| ·) (· ||| ·) (fun _ _ => rfl) p q)) k
def shl8 (x : UInt8) (n : Nat) : UInt8 := UInt8.ofNat (x.toNat * 2 ^ n)
theorem shl8_eq (x : UInt8) (n : Nat) : IntKind.u8.wrap ((x.toNat : Int) * 2 ^ n) = ((shl8 x n).toNat : Int) := by
  rw [IntKind.wrap_u8, shl8, UInt8.toNat_ofNat']
  have : ((x.toNat : Int) * 2 ^ n) = ((x.toNat * 2 ^ n : Nat) : Int) := by simp
  rw [this]; omega
theorem Tr.shl_u8 {ky : IntKind} {b : Int} (hg : Am ops sl g = true) (hk : okD c d C.N = true) (hx : Ah sl x = some (u8 p)) (hy : Ah sl y = some (.int ky b)) (n : Nat) (hn : b = n) (hr : n ≤ 8)
    (k : Tr C ops rest ⟨(d, u8 (shl8 p n)) :: sl, hp⟩ Q) : Tr C ops ((c, ⟨some d, .binOp .shl xT x y yT, ty, pos, af, g⟩) :: rest) ⟨sl, hp⟩ Q :=
  .bin hg hk hx hy (fun w => by
    subst hn
    simp only [binOp, Op.shift, IntKind.bits]; rw [if_neg oM, Int.toNat_natCast, Nat.min_eq_left hr, shl8_eq]; rfl) k
theorem Tr.shr_u8w {ky : IntKind} {b : Int} (hg : Am ops sl g = true) (hk : okD c d C.N = true) (hx : Ah sl x = some (u8 p)) (hy : Ah sl y = some (.int ky b)) (n : Nat) (hn : b = n)
    (k : Tr C ops rest ⟨(d, u8 (shr8 p n)) :: sl, hp⟩ Q) : Tr C ops ((c, ⟨some d, .binOp .shr xT x y yT, ty, pos, af, g⟩) :: rest) ⟨sl, hp⟩ Q := by
  by_cases hr : n ≤ 8
  · exact .shr_u8 hg hk hx hy n hn hr k
  · have e : shr8 p n = shr8 p 8 := by
      have := p.toNat_lt
      have h1 : p.toNat / 2 ^ n = 0 := Nat.div_eq_of_lt (Nat.lt_of_lt_of_le this (Nat.pow_le_pow_right (n := 2) dE (show 8 ≤ n by omega)))
      have h2 : p.toNat / 2 ^ 8 = 0 := Nat.div_eq_of_lt this
      rw [shr8, shr8, h1, h2]
    rw [e] at k
    refine .bin hg hk hx hy (fun w => ?_) k
    subst hn
    simp only [binOp, Op.shift, IntKind.bits]
    rw [if_neg oM, Int.toNat_natCast, Nat.min_eq_right oM, shr8_eq]
    rfl
theorem Tr.not_u8 (hg : Am ops sl g = true) (hk : okD c d C.N = true) (hx : Ah sl x = some (u8 p))
    (k : Tr C ops rest ⟨(d, u8 (255 ^^^ p)) :: sl, hp⟩ Q) : Tr C ops ((c, ⟨some d, .unOp .xor xT x, ty, pos, af, g⟩) :: rest) ⟨sl, hp⟩ Q :=
  .pv hg hk ⟨known1 hx, fun ρ hf w => by
    have h1 := hf x (by simp [Op.operands]); rw [hx] at h1
    simp only [Option.some.injEq] at h1
    have h2 := bits8 (· ^^^ ·) (· ^^^ ·) (fun _ _ => rfl) 255 p
    simp only [execOp, ← h1]
    have e : (Op.unary .xor (u8 p)).run C.P w = .ok (u8 (255 ^^^ p)) w := congrArg (fun n => Result.ok (Value.int .u8 n) w) h2
    simp [e]⟩ k
theorem Tr.not_u64 {p : UInt64} (hg : Am ops sl g = true) (hk : okD c d C.N = true) (hx : Ah sl x = some (u64 p))
    (k : Tr C ops rest ⟨(d, u64 (18446744073709551615 ^^^ p)) :: sl, hp⟩ Q) : Tr C ops ((c, ⟨some d, .unOp .xor xT x, ty, pos, af, g⟩) :: rest) ⟨sl, hp⟩ Q :=
  .pv hg hk ⟨known1 hx, fun ρ hf w => by
    have h1 := hf x (by simp [Op.operands]); rw [hx] at h1
    simp only [Option.some.injEq] at h1
    have h2 := bits64 (· ^^^ ·) (· ^^^ ·) (fun _ _ => rfl) 18446744073709551615 p
    simp only [execOp, ← h1]
    have e : (Op.unary .xor (u64 p)).run C.P w = .ok (u64 (18446744073709551615 ^^^ p)) w := congrArg (fun n => Result.ok (Value.int .u64 n) w) h2
    simp [e]⟩ k

theorem Tr.idxStr {s : ByteArray} {ki : IntKind} {i : Int} {b : UInt8} (hg : Am ops sl g = true) (hk : okD c d C.N = true) (hx : Ah sl x = some (.string s)) (hy : Ah sl y = some (.int ki i)) (hu : C.P.underlying xT = some .string) (j : Nat) (hj : i = j) (hb : s[j]? = some b)
    (k : Tr C ops rest ⟨(d, u8 b) :: sl, hp⟩ Q) : Tr C ops ((c, ⟨some d, .index xT x y, ty, pos, af, g⟩) :: rest) ⟨sl, hp⟩ Q :=
  .pv hg hk ⟨known2 hx hy, fun ρ hf w => by
    have h1 := hf x (by simp [Op.operands]); rw [hx] at h1
    have h2 := hf y (by simp [Op.operands]); rw [hy] at h2
    simp only [Option.some.injEq] at h1 h2
    subst hj
    simp [execOp, Instr.index, ← h1, ← h2, asIntOf, run_underlying hu, hb]⟩ k
theorem Tr.idxA1 {cs : List Value} {ki : IntKind} {i : Int} {v : Value} {n : Nat} {E : TypeId} {td : TypeDesc} (hg : Am ops sl g = true) (hk : okD c d C.N = true) (hx : Ah sl x = some (agg cs)) (hy : Ah sl y = some (.int ki i)) (hu : C.P.underlying xT = some (.array n E)) (hs : Sz C.P E 1) (he : C.P.underlying E = some td) (hp' : Ct td = true) (j : Nat) (hj : i = j) (hjn : j < n) (hv : cs[j]? = some v)
    (k : Tr C ops rest ⟨(d, v) :: sl, hp⟩ Q) : Tr C ops ((c, ⟨some d, .index xT x y, ty, pos, af, g⟩) :: rest) ⟨sl, hp⟩ Q :=
  .pv hg hk ⟨known2 hx hy, fun ρ hf w => by
    have h1 := hf x (by simp [Op.operands]); rw [hx] at h1
    have h2 := hf y (by simp [Op.operands]); rw [hy] at h2
    simp only [Option.some.injEq] at h1 h2
    subst hj
    have h3 := run_part1 (w := w) he hp' hv
    simp [execOp, Instr.index, ← h1, ← h2, asIntOf, run_underlying hu, Da hs, hjn, agg, h3]⟩ k
theorem Tr.s2a {arr E : TypeId} {a : Addr} {n len cap : Nat} (hg : Am ops sl g = true) (hk : okD c d C.N = true) (hx : Ah sl x = some (.slice (some a) len cap)) (hu : C.P.underlying arr = some (.array n E)) (hn : n ≤ len)
    (k : Tr C ops rest ⟨(d, .pointer (some a)) :: sl, hp⟩ Q) : Tr C ops ((c, ⟨some d, .sliceToArrayPointer arr x, ty, pos, af, g⟩) :: rest) ⟨sl, hp⟩ Q :=
  .pv hg hk ⟨known1 hx, fun ρ hf w => by
    have h1 := hf x (by simp [Op.operands]); rw [hx] at h1
    simp only [Option.some.injEq] at h1
    simp [execOp, Instr.arrayAt, ← h1, run_underlying hu, show ¬ len < n by omega]⟩ k

theorem Tr.sliceLoHiN {lo hi : Operand} {b o n cap : Nat} {T E : TypeId} {kl kh : IntKind} {l h : Int} {sz : Nat} (i j : Nat) (hg : Am ops sl g = true) (hk : okD c d C.N = true) (hx : Ah sl x = some (.slice (some ⟨b, o, none⟩) n cap)) (hl : Ah sl lo = some (.int kl l)) (hh : Ah sl hi = some (.int kh h)) (hi' : l = i) (hj : h = j) (hij : i ≤ j) (hjc : j ≤ cap)
    (hu : C.P.underlying T = some (.slice E)) (hs : Sz C.P E sz)
    (k : Tr C ops rest ⟨(d, .slice (some ⟨b, if cap = i then o else o + i * sz, none⟩) (j - i) (cap - i)) :: sl, hp⟩ Q) : Tr C ops ((c, ⟨some d, .slice T x (some lo) (some hi) none, ty, pos, af, g⟩) :: rest) ⟨sl, hp⟩ Q :=
  .pv hg hk ⟨fun z hz => by
    simp [Op.operands] at hz
    rcases hz with rfl | rfl | rfl
    · simp [hx]
    · simp [hl]
    · simp [hh], fun ρ hfi w => by
    have h1 := hfi x (by simp [Op.operands]); rw [hx] at h1
    have h2 := hfi lo (by simp [Op.operands]); rw [hl] at h2
    have h3 := hfi hi (by simp [Op.operands]); rw [hh] at h3
    simp only [Option.some.injEq] at h1 h2 h3
    subst hi'
    subst hj
    by_cases e : cap = i
    · subst e
      simp [execOp, Instr.sliceAt, Instr.slice, ← h1, ← h2, ← h3, run_underlying hu, Instr.sliceBounds, Instr.sliceBound, asIntOf, Da hs, B3, hjc, hij]
    · simp [execOp, Instr.sliceAt, Instr.slice, ← h1, ← h2, ← h3, run_underlying hu, Instr.sliceBounds, Instr.sliceBound, asIntOf, Da hs, B3, e, hjc, hij]⟩ k

theorem Tr.mkRoom {T E : TypeId} {kx ky : IntKind} {z : Value} {by' : Nat} {mi : Int} (m : Nat) (hg : Am ops sl g = true) (hk : okG c d C.N = true) (hx : Ah sl x = some (.int kx 0)) (hy : Ah sl y = some (.int ky mi)) (hmi : mi = m)
    (hu : C.P.underlying T = some (.slice E)) (hs : Sz C.P E 1) (hz : Zr C.P E z) (hb : By C.P E by') (hc : z.cells = #[z]) (hn : m ≤ 1000000) (hby : by' ≤ 64)
    (k : ∀ q, Tr C ops rest ⟨(d, .slice (some ⟨q, 0, none⟩) 0 m) :: sl, ⟨q, [], E, m⟩ :: hp⟩ Q) : Tr C ops ((c, ⟨some d, .makeSlice T x y, ty, pos, af, g⟩) :: rest) ⟨sl, hp⟩ Q := by
  subst hmi
  have hk2 := hk
  simp only [okG, Bool.and_eq_true, Bool.or_eq_true] at hk
  refine Tr.grow (ρ := Nat) (fun _ => True) (fun q => .slice (some ⟨q, 0, none⟩) 0 m) (fun q => [⟨q, [], E, m⟩]) (hk.1.imp nbeq' nbeq') (A8 hg) (C6 (nblt hk.2)) ⟨known2 hx hy, fun l hl => ?_, fun a w hf hh => ?_⟩ (fun q _ => k q)
  · obtain ⟨q, _, hq⟩ := fresh_is 0 l
    refine ⟨q, trivial, ?_⟩
    simp only [List.singleton_append, List.map_cons, List.nodup_cons]
    exact ⟨fun h => by obtain ⟨b, hb, e⟩ := List.mem_map.1 h; exact hq b hb e, hl⟩
  · have h1 := hf x (by simp [Op.operands]); rw [hx] at h1
    have h2 := hf y (by simp [Op.operands]); rw [hy] at h2
    simp only [Option.some.injEq] at h1 h2
    have rs := Da hs
    unfold Sz at hs; unfold Zr at hz; unfold By at hb
    cases hi : C.P.info? E with
    | none => rw [hi] at hs; simp at hs
    | some i =>
      rw [hi] at hs hz hb
      simp only [Option.map_some, Option.some.injEq, Option.bind_some] at hs hz hb
      have wn : IntKind.i64.wrap (m : Int) = m := i64_wrap oM
      have w0 : IntKind.i64.wrap 0 = 0 := by decide
      have hm : by' * m ≤ 64 * 1000000 := Nat.mul_le_mul hby hn
      have hm2 : ((by' : Int) * m) = ((by' * m : Nat) : Int) := by simp
      have n1 : ¬ ((m : Int) < 0) := by omega
      have n2 : ¬ (281474976710656 < (i.bytes : Int) * m) := by rw [hb, hm2]; omega
      have n5 : ¬ (140737488355328 < m * i.bytes) := by rw [hb, Nat.mul_comm]; omega
      have hrun : (execOp a.eval ⟨some d, .makeSlice T x y, ty, pos, af, g⟩).run C.P w = .ok (.value (.slice (some ⟨w.heap.size, 0, none⟩) 0 m)) { w with heap := w.heap.push (.cells (Array.replicate m z) E) } := by
        by_cases h0 : m = 0
        · subst h0
          simp [execOp, Instr.makeSlice, run_underlying hu, asInt, asIntOf, typeInfo, hi, rs, zeroValue, hz, ← h1, ← h2, w0, newRow, newObj, askRoom, roomBytes]
          simp [Sem.run]
          have e0 : Array.map (fun _ => (default : Value)) (Array.range 0) = #[] := Array.eq_empty_of_size_eq_zero sP
          rw [e0]
        · simp [execOp, Instr.makeSlice, run_underlying hu, asInt, asIntOf, typeInfo, hi, rs, zeroValue, hz, ← h1, ← h2, wn, w0, n1, n2, n5, h0, newRow, newObj, askRoom, roomBytes, row_eq m z hc]
          simp [Sem.run]
      unfold Oper.wp
      rw [hrun]
      refine ⟨w.heap.size, trivial, rfl, ⟨⟨rfl, rfl, rfl, by simp, fun k hk _ => ?_⟩, fun b hb => ?_, by simp, fun b hb => ?_⟩⟩
      · simp only [Array.getElem?_push]
        rw [if_neg oM]
      · obtain rfl := List.mem_singleton.1 hb
        exact ⟨Array.replicate m z, (0, 0), by simp, by simp, by simp, free0⟩
      · obtain rfl := List.mem_singleton.1 hb
        exact .inl (Nat.le_refl _)
end
end Hw
end

section
namespace Hw
open Go

theorem Aw (l : List UInt8) : ∀ u ∈ Aa l, isCell u = true := fun u hu => by
  simp only [Aa, List.mem_map] at hu
  obtain ⟨_, _, rfl⟩ := hu
  rfl
def C4 (n : Nat) : Nat := if n = 0 then 0 else Nat.log2 n + 1
theorem bLen_le {n k : Nat} : C4 n ≤ k ↔ n < 2 ^ k := by
  unfold C4
  by_cases h : n = 0
  · subst h; simp; exact Nat.pow_pos dE
  · rw [if_neg h, Nat.succ_le_iff, Nat.log2_lt h]
theorem bLen_shr {n k : Nat} (h : 2 ^ k ≤ n) : C4 n = k + C4 (n / 2 ^ k) := by
  have key : ∀ j, C4 n ≤ k + j ↔ C4 (n / 2 ^ k) ≤ j := fun j => by
    rw [bLen_le, bLen_le, Nat.pow_add, Nat.div_lt_iff_lt_mul (Nat.pow_pos dE), Nat.mul_comm]
  have h1 := (key (C4 (n / 2 ^ k))).2 (Nat.le_refl _)
  have h2 : k < C4 n := by
    rcases Nat.lt_or_ge k (C4 n) with h | h
    · exact h
    · rw [ge_iff_le, bLen_le] at h; omega
  have h3 := (key (C4 n - k)).1 oM
  omega
def szN (n : Nat) : Nat := min ((C4 (n ||| 1) + 6) / 7) 9
theorem Cp (n : Nat) : 1 ≤ szN n ∧ szN n ≤ 9 := by
  have : 1 ≤ C4 (n ||| 1) := by
    rcases Nat.lt_or_ge 0 (C4 (n ||| 1)) with h | h
    · exact h
    · rw [ge_iff_le, bLen_le] at h
      have h1 : 1 ≤ n ||| 1 := Nat.right_le_or
      simp at h
  unfold szN
  omega
def tailB (x : UInt64) : Nat → List UInt8
  | 0 => []
  | k + 1 => (As x (8 * k)).toUInt8 :: tailB x k
theorem tailB_length (x : UInt64) : ∀ k, (tailB x k).length = k
  | 0 => rfl
  | k + 1 => by simp [tailB, tailB_length x k]
theorem tailB_get (x : UInt64) : ∀ k j, j < k → (tailB x k)[j]? = some (As x (8 * (k - 1 - j))).toUInt8
  | 0, j, h => by omega
  | k + 1, 0, h => by simp [tailB]
  | k + 1, j + 1, h => by
    rw [tailB, List.getElem?_cons_succ, tailB_get x k j oM]
    congr 4
    omega
def headB (x : UInt64) : UInt8 := shl8 255 (9 - szN x.toNat) ||| (As x (8 * (szN x.toNat - 1))).toUInt8
def numB (x : UInt64) : List UInt8 := headB x :: tailB x (szN x.toNat - 1)
theorem Br (x : UInt64) : (numB x).length = szN x.toNat := by
  have := Cp x.toNat
  simp [numB, tailB_length]; omega
def numUp (x : UInt64) (j : Nat) : List UInt8 := headB x :: (tailB x (szN x.toNat - 1)).take j
theorem numUp_length (x : UInt64) (j : Nat) (h : j ≤ szN x.toNat - 1) : (numUp x j).length = 1 + j := by
  simp [numUp, tailB_length]; omega
theorem numUp_step (x : UInt64) (j : Nat) (h : j < szN x.toNat - 1) : numUp x (j + 1) = numUp x j ++ [(As x (8 * (szN x.toNat - 2 - j))).toUInt8] := by
  have hl : j < (tailB x (szN x.toNat - 1)).length := by rw [tailB_length]; exact h
  have hg := tailB_get x (szN x.toNat - 1) j h
  rw [List.getElem?_eq_getElem hl, Option.some.injEq] at hg
  rw [numUp, numUp, List.take_succ_eq_append_getElem hl, hg, show szN x.toNat - 1 - 1 - j = szN x.toNat - 2 - j by omega]
  rfl
theorem numUp_all (x : UInt64) : numUp x (szN x.toNat - 1) = numB x := by
  rw [numUp, List.take_of_length_le (by rw [tailB_length]; omega), numB]
theorem numUp_zero (x : UInt64) : numUp x 0 = [headB x] := by simp [numUp]
def B1 (f : UInt8) : Nat := 9 - C4 (255 ^^^ f).toNat
theorem b8_le (f : UInt8) : C4 (255 ^^^ f).toNat ≤ 8 := bLen_le.2 (255 ^^^ f).toNat_lt
def foldB (a : UInt64) : List UInt8 → UInt64
  | [] => a
  | b :: l => foldB (A2 a 8 ||| b.toUInt64) l
theorem foldB_snoc (b : UInt8) : ∀ (l : List UInt8) (a : UInt64), foldB a (l ++ [b]) = A2 (foldB a l) 8 ||| b.toUInt64
  | [], a => rfl
  | x :: l, a => by rw [List.cons_append, foldB, foldB_snoc b l, foldB]
def headV (f : UInt8) : UInt64 := (f &&& shr8 255 (B1 f)).toUInt64
def numV (xs : List UInt8) (a : Nat) : UInt64 := foldB (headV (xs.getD a 0)) ((xs.drop (a + 1)).take (B1 (xs.getD a 0) - 1))
theorem foldB_step (xs : List UInt8) (s a : Nat) (v : UInt64) (h : s + a < xs.length) : foldB v ((xs.drop s).take (a + 1)) = A2 (foldB v ((xs.drop s).take a)) 8 ||| (xs.getD (s + a) 0).toUInt64 := by
  have hl : a < (xs.drop s).length := by simp; omega
  rw [List.take_succ_eq_append_getElem hl, foldB_snoc]
  congr 2
  simp [List.getD, List.getElem?_eq_getElem h]
theorem cnt_word (f : UInt8) : (Bn (8 - ((C4 (255 ^^^ f).toNat : Nat) : Int) + 1 - 1)).toNat = B1 f - 1 := by
  have := b8_le f
  rw [show (8 - ((C4 (255 ^^^ f).toNat : Nat) : Int) + 1 - 1) = ((8 - C4 (255 ^^^ f).toNat : Nat) : Int) by omega, B1]
  simp only [Bn, UInt64.toNat_ofNat']
  omega
end Hw
end

section
namespace Go.Proofs.YtpacobmjjjillaaGreat
open Go Hw

def len8S : ByteArray := ⟨#[0, 1, 2, 2, 3, 3, 3, 3, 4, 4, 4, 4, 4, 4, 4, 4, 5, 5, 5, 5, 5, 5, 5, 5, 5, 5, 5, 5, 5, 5, 5, 5, 6, 6, 6, 6, 6, 6, 6, 6, 6, 6, 6, 6, 6, 6, 6, 6, 6, 6, 6, 6, 6, 6, 6, 6, 6, 6, 6, 6, 6, 6, 6, 6, 7, 7, 7, 7, 7, 7, 7, 7, 7, 7, 7, 7, 7, 7, 7, 7, 7, 7, 7, 7, 7, 7, 7, 7, 7, 7, 7, 7, 7, 7, 7, 7, 7, 7, 7, 7, 7, 7, 7, 7, 7, 7, 7, 7, 7, 7, 7, 7, 7, 7, 7, 7, 7, 7, 7, 7, 7, 7, 7, 7, 7, 7, 7, 7, 8, 8, 8, 8, 8, 8, 8, 8, 8, 8, 8, 8, 8, 8, 8, 8, 8, 8, 8, 8, 8, 8, 8, 8, 8, 8, 8, 8, 8, 8, 8, 8, 8, 8, 8, 8, 8, 8, 8, 8, 8, 8, 8, 8, 8, 8, 8, 8, 8, 8, 8, 8, 8, 8, 8, 8, 8, 8, 8, 8, 8, 8, 8, 8, 8, 8, 8, 8, 8, 8, 8, 8, 8, 8, 8, 8, 8, 8, 8, 8, 8, 8, 8, 8, 8, 8, 8, 8, 8, 8, 8, 8, 8, 8, 8, 8, 8, 8, 8, 8, 8, 8, 8, 8, 8, 8, 8, 8, 8, 8, 8, 8, 8, 8, 8, 8, 8, 8, 8, 8, 8, 8, 8, 8, 8, 8, 8, 8]⟩
theorem len8_all : ∀ n, n < 256 → len8S.data.toList[n]? = some (UInt8.ofNat (C4 n)) := by decide
theorem len8_get (x : UInt8) : len8S[x.toNat]? = some (UInt8.ofNat (C4 x.toNat)) := by
  have h := len8_all x.toNat x.toNat_lt
  have h2 : x.toNat < len8S.size := x.toNat_lt
  have e : len8S[x.toNat]? = len8S.data.toList[x.toNat]? := by
    rw [getElem?_pos len8S x.toNat h2, List.getElem?_eq_getElem (by exact x.toNat_lt)]
    rfl
  rw [e]; exact h
theorem len8_nat (x : UInt8) : (UInt8.ofNat (C4 x.toNat)).toNat = C4 x.toNat := by
  have : C4 x.toNat ≤ 8 := bLen_le.2 x.toNat_lt
  rw [UInt8.toNat_ofNat', Nat.mod_eq_of_lt oM]

theorem bits_len8 (x : UInt8) : Meets Tryz.prog 206 [u8 x] [] (fun _ => True) (fun v out => v = i64 ((C4 x.toNat : Nat) : Int) ∧ out = []) := by
 intro W hW
 refine Ab Tryz.func206 J 6 Tryz.ntmps206 J (.sr (.a J J J (.nsr (.m J J J (.idxStr (s := len8S) J J J J Y9 _ J (len8_get x) (.conv J J J Y5 Y3 (cv_u8_i64 _) (.a J J J (.na (.ret (An ?_))))))))))
 refine ⟨_, [], Ag J J, sP, sP, ?_, rfl⟩
 rw [len8_nat]

theorem bits_lz8 (x : UInt8) : Meets Tryz.prog 131 [u8 x] [] (fun _ => True) (fun v out => v = i64 (8 - ((C4 x.toNat : Nat) : Int)) ∧ out = []) := by
 intro W hW
 have hb : C4 x.toNat ≤ 8 := bLen_le.2 x.toNat_lt
 refine Ab Tryz.func131 J 6 Tryz.ntmps131 J (.sr (.a J J J (.nsr (.m J J J (.cV J J J J Body206 (bits_len8 _) tV (.sub_i64 J J J J oM (.a J J J (.na (.ret (An ?_))))))))))
 refine ⟨_, [], Ag J J, sP, sP, ?_, rfl⟩
 rfl

theorem shr64_nat (x : UInt64) (n : Nat) : (As x n).toNat = x.toNat / 2 ^ n := by
  have h : x.toNat / 2 ^ n ≤ x.toNat := Nat.div_le_self _ _
  have := x.toNat_lt
  rw [As, UInt64.toNat_ofNat', Nat.mod_eq_of_lt oM]

theorem bits_len64 (x : UInt64) : Meets Tryz.prog 207 [u64 x] [] (fun _ => True) (fun v out => v = i64 ((C4 x.toNat : Nat) : Int) ∧ out = []) := by
 intro W hW
 have hx := x.toNat_lt
 refine Ab Tryz.func207 J 25 Tryz.ntmps207 J (.sr (.a J J J (.na (.join (ι := UInt64 × Nat) (fun p => ⟨[(0, u64 p.1), (2, i64 (p.2 : Int))], []⟩) (fun p => C4 x.toNat = p.2 + C4 p.1.toNat ∧ p.1.toNat < 2 ^ 32 ∧ p.2 ≤ 32) ?_ ?_))))
 ·
  refine .sr (.m J J J (.geq J J J J J (.na (.condP J (fun hc0 => ?_) (fun hc0 => ?_)))))
  ·
   refine .sr (.m J J J (.shr_u64 J J J J 32 J dE (.a J J J (.na (.region (.a J J J (.na ?_)))))))
   exact ⟨(As x 32, 0 + 32), ⟨by simp only [shr64_nat]; have := bLen_shr (n := x.toNat) (k := 32) oM; omega, by simp only [shr64_nat]; omega, by simp only []; omega⟩, Ac (wk1 rfl (wk1 (by rfl) wk0)) wh0 nD⟩
  ·
   refine .skip (Ae ?_)
   exact ⟨(x, 0), ⟨by simp only []; omega, by simp only []; omega, by simp only []; omega⟩, Ac (wk1 rfl (wk1 (by rfl) wk0)) wh0 nD⟩
 ·
  intro p hj
  obtain ⟨y, n⟩ := p
  obtain ⟨hb, hy, hn⟩ := hj
  simp only at hb hy hn ⊢
  refine .join (ι := UInt64 × Nat) (fun p => ⟨[(0, u64 p.1), (2, i64 (p.2 : Int))], []⟩) (fun p => C4 x.toNat = p.2 + C4 p.1.toNat ∧ p.1.toNat < 2 ^ 16 ∧ p.2 ≤ 48) ?_ ?_
  ·
   refine .sr (.m J J J (.geq J J J J J (.na (.condP J (fun hc1 => ?_) (fun hc1 => ?_)))))
   ·
    refine .sr (.m J J J (.shr_u64 J J J J 16 J dE (.a J J J (.na (.region (.m J J J (.aI J J J J oM (.a J J J (.na ?_)))))))))
    exact ⟨(As y 16, n + 16), ⟨by simp only [shr64_nat]; have := bLen_shr (n := y.toNat) (k := 16) oM; omega, by simp only [shr64_nat]; omega, by simp only []; omega⟩, Ac (wk1 rfl (wk1 (by rfl) wk0)) wh0 nD⟩
   ·
    refine .skip (Ae ?_)
    exact ⟨(y, n), ⟨by simp only []; omega, by simp only []; omega, by simp only []; omega⟩, Ac (wk1 rfl (wk1 (by rfl) wk0)) wh0 nD⟩
  ·
   intro p hj
   obtain ⟨y, n⟩ := p
   obtain ⟨hb, hy, hn⟩ := hj
   simp only at hb hy hn ⊢
   refine .join (ι := UInt64 × Nat) (fun p => ⟨[(0, u64 p.1), (2, i64 (p.2 : Int))], []⟩) (fun p => C4 x.toNat = p.2 + C4 p.1.toNat ∧ p.1.toNat < 2 ^ 8 ∧ p.2 ≤ 56) ?_ ?_
   ·
    refine .sr (.m J J J (.geq J J J J J (.na (.condP J (fun hc2 => ?_) (fun hc2 => ?_)))))
    ·
     refine .sr (.m J J J (.shr_u64 J J J J 8 J dE (.a J J J (.na (.region (.m J J J (.aI J J J J oM (.a J J J (.na ?_)))))))))
     exact ⟨(As y 8, n + 8), ⟨by simp only [shr64_nat]; have := bLen_shr (n := y.toNat) (k := 8) oM; omega, by simp only [shr64_nat]; omega, by simp only []; omega⟩, Ac (wk1 rfl (wk1 (by rfl) wk0)) wh0 nD⟩
    ·
     refine .skip (Ae ?_)
     exact ⟨(y, n), ⟨by simp only []; omega, by simp only []; omega, by simp only []; omega⟩, Ac (wk1 rfl (wk1 (by rfl) wk0)) wh0 nD⟩
   ·
    intro p hj
    obtain ⟨y, n⟩ := p
    obtain ⟨hb, hy, hn⟩ := hj
    simp only at hb hy hn ⊢
    refine .sr (.m J J J (.m J J J (.conv J J J Y22 Y5 (Cm _) (.idxStr (s := len8S) J J J J Y9 _ J (len8_get y.toUInt8) ?_))))
    have h8 : y.toUInt8.toNat = y.toNat := by simp; omega
    have h9 := len8_nat y.toUInt8
    have h10 : C4 y.toUInt8.toNat ≤ 8 := bLen_le.2 (by rw [h8]; omega)
    refine .conv J J J Y5 Y3 (cv_u8_i64 _) (.aI J J J J oM (.a J J J (.na (.ret (An ?_)))))
    refine ⟨_, [], Ag J J, sP, sP, ?_, rfl⟩
    rw [h9, h8, hb, Int.natCast_add]

theorem oct_size (x : UInt64) : Meets Tryz.prog 133 [u64 x] [] (fun _ => True) (fun v out => v = i64 ((szN x.toNat : Nat) : Int) ∧ out = []) := by
 intro W hW
 have hb : C4 (x ||| 1).toNat ≤ 64 := bLen_le.2 (x ||| 1).toNat_lt
 have ho : (x ||| 1).toNat = x.toNat ||| 1 := by rw [UInt64.toNat_or]; rfl
 refine Ab Tryz.func133 J 9 Tryz.ntmps133 J (.sr (.a J J J (.nsr (.m J J J (.or_u64 J J J (show Ah _ _ = some (u64 1) from rfl) (.cV J J J J Body207 (bits_len64 _) tV (.aI J J J J oM (.quo_i64 J J J J oM (.min2 J J J J (rfl) (.a J J J (.na (.ret (An ?_)))))))))))))
 refine ⟨_, [], Ag J J, sP, sP, ?_, rfl⟩
 rw [szN, ← ho]; congr 1; split <;> omega

theorem oct_grown (p : Option Addr) (n c m : Nat) (l : List UInt8) (hl : l.length = n) (hp : p = none → n = 0) (hn : n ≤ 100000) (hm : m ≤ 100000) : Meets Tryz.prog 129 [.slice p n c, i64 (m : Int)] [] (fun W => SeesP W p (Aa l)) (fun v out => FreshRow v out (Aa l) 5 n 1) := by
 intro W hW
 refine Ab Tryz.func129 J 12 Tryz.ntmps129 J (.sr (.a J J J (.nsr (.m J J J (.lenSl J J J Y39 (.m J J J (.aI J J J J oM (.mkRoom (z := u8 0) (by' := 1) (n + m) J J J J oM Y39 Sz5 Zr5 (by unfold By; kernel_rfl) J oM oM ?_))))))))
 intro n9
 refine .m J J J (.appendSl (z := u8 0) (by' := 1) (Aa l) J J J J J Y39 Y39 Sz5 Zr5 (by unfold By; kernel_rfl) J (fun w h => Ax h J hW) hp (by simp [Aa, isCell, u8]) Az oM J oM oM oM (by simp [Aa, hl]) ?_)
 intro q1 c1 hq1
 refine .a J J J (.na (.ret (An ?_)))
 refine ⟨_, [⟨q1, [] ++ Aa l, 5, c1 * 1⟩], Ag J J, (by intro b hb; rw [List.mem_singleton.1 hb]; exact Bo), Ce, ⟨q1, c1, by rw [Nat.zero_add], by omega, rfl⟩⟩

theorem oct_number (q n c : Nat) (l : List UInt8) (x : UInt64) (hl : l.length = n) (hnc : n ≤ c) (hn : n ≤ 200000) : Meets Tryz.prog 214 [.slice (some ⟨q, 0, none⟩) n c, u64 x] [q] (fun W => BlkOk W ⟨q, Aa (l), 5, c * 1⟩) (fun v out => FreshRow v out (Aa (l ++ numB x)) 5 (n + szN x.toNat) 1) := by
 intro W hW
 have hz := Cp x.toNat
 refine Ba (hp0 := [⟨q, Aa (l), 5, c * 1⟩]) Tryz.func214 J 37 Tryz.ntmps214 J (HRep.one hW) (.sr (.a J J J (.nsr (.m J J J (.cV J J J J Body133 (oct_size _) tV (.a J J J (.na (.seq (.draw [(0, 0), (0, 1), (0, 2), (0, 3), (0, 4), (0, 5), (0, 6), (0, 7), (0, 8), (0, 9), (0, 10), (4, 11), (4, 12), (0, 13)] Ar zK (.m J J J (.m J J J (.sub_i64 J J J J oM (.shl_u8 J J (show Ah _ _ = some (u8 255) from rfl) J (9 - szN x.toNat) oM oM (.m J J J (.m J J J (.sub_i64 J J J J oM (.mul_i64 J J J J oM (.shr_u64 J J J J (8 * (szN x.toNat - 1)) oM oM (.conv J J J Y22 Y5 (Cm _) (.or_u8 J J J J (.mkRow (z := u8 0) [u8 (headB x)] (Aa [headB x]) J J J Y39 Sz5 Zr5 J J (by intro v hv; rw [List.mem_singleton.1 hv]; rfl) dE J ?_)))))))))))))))))))))
 intro q20
 refine .appendSl (z := u8 0) (by' := 1) (Aa [headB x]) J J J J J Y39 Y39 Sz5 Zr5 (by unfold By; kernel_rfl) J (fun w h => SeesP.of (Ak h Bo)) (fun e => by cases e) (by simp [Aa, isCell, u8]) (rem_there Az) J (by simp [Aa, hl]) oM oM oM (by rfl) ?_
 intro q1 c1 hq1
 refine .a J J J (.na (.seq (.sr (.m J J J (.sub_i64 J J J J oM (.a J J J (.na (.block (.loop (ι := Nat × Nat × Nat) (fun p => ⟨[(0, .slice (some ⟨p.2.1, 0, none⟩) (n + 1 + p.1) p.2.2), (1, u64 x), (5, i64 ((szN x.toNat : Nat) : Int)), (6, i64 (((szN x.toNat : Nat) : Int) - 2 - (p.1 : Int)))], [⟨p.2.1, Aa (l ++ numUp x p.1), 5, p.2.2 * 1⟩]⟩) (fun p => p.1 ≤ szN x.toNat - 1 ∧ n + 1 + p.1 ≤ p.2.2) (fun p => szN x.toNat - 1 - p.1) ((0, q1, c1)) ?_ ?_ ?_)))))))))
 · exact ⟨Nat.zero_le _, hq1⟩
 · exact Ac (wk1 rfl (wk1 rfl (wk1 rfl (wk1 (by rw [show (((szN x.toNat : Nat) : Int) - 2 - ((0 : Nat) : Int)) = ((szN x.toNat : Nat) : Int) - 2 by omega]; rfl) wk0)))) (wh1 (by rw [numUp_zero]; simp only [Aa, List.map_append]; exact Bo) wh0) nD
 ·
  rintro p ⟨hp1, hp2⟩
  refine .seq (.sr (.m J J J (.geq J J J J J (.na (.condP J (fun hc0 => ?_) (fun hc0 => ?_))))))
  ·
   have hp3 : p.1 < szN x.toNat - 1 := by omega
   refine .skip (Ae (.seq (.block (.region (.m J J J (.m J J J (.m J J J (.mul_i64 J J J J oM (.shr_u64 J J J J (8 * (szN x.toNat - 2 - p.1)) oM oM (.conv J J J Y22 Y5 (Cm _) (.mkRow (z := u8 0) [u8 ((As x (8 * (szN x.toNat - 2 - p.1))).toUInt8)] (Aa [(As x (8 * (szN x.toNat - 2 - p.1))).toUInt8]) J J J Y39 Sz5 Zr5 J J (by intro v hv; rw [List.mem_singleton.1 hv]; rfl) dE J ?_)))))))))))
   intro q34
   refine .appendSl (z := u8 0) (by' := 1) (Aa [(As x (8 * (szN x.toNat - 2 - p.1))).toUInt8]) J J J J J Y39 Y39 Sz5 Zr5 (by unfold By; kernel_rfl) J (fun w h => SeesP.of (Ak h Bo)) (fun e => by cases e) (by simp [Aa, isCell, u8]) (rem_there Az) J (by rw [Aa, List.length_map, List.length_append, hl, numUp_length x p.1 oM]; omega) oM oM oM (by rfl) ?_
   intro q2 c2 hq2
   refine .a J J J (.nil (Bj (Ae (.region (.m J J J (.sub_i64 J J J J oM (.a J J J (.na ?_))))))))
   exact ⟨(p.1 + 1, q2, c2), ⟨by simp only []; omega, by simp only []; omega⟩, by simp only []; omega, Ac (wk1 (by rw [show n + 1 + (p.1 + 1) = n + 1 + p.1 + 1 by omega]; rfl) (wk1 rfl (wk1 rfl (wk1 (by rw [show (((szN x.toNat : Nat) : Int) - 2 - ((p.1 + 1 : Nat) : Int)) = ((szN x.toNat : Nat) : Int) - 2 - (p.1 : Int) - 1 by omega]; rfl) wk0)))) (wh1 (by rw [numUp_step x p.1 oM, ← List.append_assoc]; simp only [Aa, List.map_append]; exact Bo) wh0) nD⟩
  ·
   have hp3 : p.1 = szN x.toNat - 1 := by omega
   refine .exit (A1 (A1 (B5 (Ae (.sr (.m J J J (.a J J J (.na (.ret (An ?_))))))))))
   refine ⟨_, [⟨p.2.1, Aa (l ++ numB x), 5, p.2.2 * 1⟩], Ag J J, (by intro b hb; rw [List.mem_singleton.1 hb, ← numUp_all, ← hp3]; exact Bo), Ce, ⟨p.2.1, p.2.2, by rw [show n + 1 + p.1 = n + szN x.toNat by omega], by omega, rfl⟩⟩

theorem oct_Number (p : Option Addr) (n c : Nat) (l : List UInt8) (x : UInt64) (hl : l.length = n) (hp : p = none → n = 0) (hn : n ≤ 90000) : Meets Tryz.prog 152 [.slice p n c, u64 x] [] (fun W => SeesP W p (Aa l)) (fun v out => FreshRow v out (Aa (l ++ numB x)) 5 (n + szN x.toNat) 1) := by
 intro W hW
 have hz := Cp x.toNat
 refine Ab Tryz.func152 J 11 Tryz.ntmps152 J (.sr (.a J J J (.nsr (.m J J J (.m J J J (.cV J J J J Body133 (oct_size _) tV (.call J J J J Body129 (oct_grown p n c (szN x.toNat) l hl hp oM oM) (FreshRow.loose _ _ _ _) (fun w h => Ax h J hW) ?_)))))))
 rintro v1 out1 ⟨q1, c1, rfl, hc1, rfl⟩
 refine .m J J J (.callL (L := [⟨q1, Aa (l), 5, c1 * 1⟩]) J J J J J Body214 (oct_number q1 (n) c1 (l) x (by simp [hl]) hc1 oM) Az lO (fun w h => Av h Z0) ?_)
 rintro v2 out2 ⟨q2, c2, rfl, hc2, rfl⟩
 refine .a J J J (.na (.ret (An ?_)))
 refine ⟨_, [⟨q2, Aa (l ++ numB x), 5, c2 * 1⟩], Ag J J, (by intro b hb; rw [List.mem_singleton.1 hb]; exact Bo), Ce, ⟨q2, c2, rfl, hc2, rfl⟩⟩

theorem oct_Block (p r : Option Addr) (n c m d : Nat) (l ys : List UInt8) (hl : l.length = n) (hy : ys.length = m) (hp : p = none → n = 0) (hr : r = none → m = 0) (hn : n ≤ 40000) (hm : m ≤ 40000) : Meets Tryz.prog 153 [.slice p n c, .slice r m d] [] (fun W => SeesP W p (Aa l) ∧ SeesP W r (Aa ys)) (fun v out => FreshRow v out (Aa (l ++ numB (UInt64.ofNat m) ++ ys)) 5 (n + szN m + m) 1) := by
 intro W hW
 have hz := Cp m
 have hw : Bn (m : Int) = UInt64.ofNat m := by simp only [Bn]; congr 1; omega
 have hmn : (UInt64.ofNat m).toNat = m := by rw [UInt64.toNat_ofNat', Nat.mod_eq_of_lt oM]
 refine Ab Tryz.func153 J 20 Tryz.ntmps153 J (.sr (.a J J J (.nsr (.m J J J (.lenSl J J J Y39 (.conv J J J Y3 Y22 (A4 _) ?_))))))
 rw [hw]
 refine .a J J J (.nsr (.m J J J (.m J J J (.cV J J J J Body133 (oct_size _) tV ?_))))
 rw [hmn]
 refine .m J J J (.lenSl J J J Y39 (.aI J J J J oM (.call J J J J Body129 (oct_grown p n c (szN m + m) l hl hp oM oM) (FreshRow.loose _ _ _ _) (fun w h => Ax h J hW.1) ?_)))
 rintro v1 out1 ⟨q1, c1, rfl, hc1, rfl⟩
 refine .m J J J (.callL (L := [⟨q1, Aa (l), 5, c1 * 1⟩]) J J J J J Body214 (oct_number q1 n c1 l (UInt64.ofNat m) hl hc1 oM) Az lO (fun w h => Av h Z0) ?_)
 rintro v2 out2 ⟨q2, c2, rfl, hc2, rfl⟩
 rw [hmn] at hc2 ⊢
 refine .m J J J (.appendSl (z := u8 0) (by' := 1) (Aa ys) J J J J J Y39 Y39 Sz5 Zr5 (by unfold By; kernel_rfl) J (fun w h => Ax h J hW.2) hr (by simp [Aa, isCell, u8]) Az J (by rw [Aa, List.length_map, List.length_append, Br, hl, hmn, Nat.mul_one]) oM oM oM (by simp [Aa, hy]) ?_)
 intro q3 c3 hq3
 refine .a J J J (.na (.ret (An ?_)))
 refine ⟨_, [⟨q3, Aa (l ++ numB (UInt64.ofNat m) ++ ys), 5, c3 * 1⟩], Ag J J, (by intro b hb; rw [List.mem_singleton.1 hb]; simp only [Aa, List.map_append]; exact Bo), Ce, ⟨q3, c3, rfl, hq3, rfl⟩⟩

end Go.Proofs.YtpacobmjjjillaaGreat
end

section
namespace Go.Proofs.YtpacobmjjjillaaGreat
open Go Hw

theorem res_none {C : Cx} {fn : Func} {s : St} (hr : fn.results = #[]) : Res C fn s (.tuple #[]) := fun a w r => by
  simp [results, hr]
def rdr (n q N cp at' : Nat) (e : Int) : Reader := ⟨.pointer (some ⟨n, 0, none⟩), ⟨some ⟨q, 0, none⟩, N, cp⟩, (at' : Int), e⟩
theorem rdr_ok (n q N cp at' : Nat) (e : Int) : (rdr n q N cp at' e).ok := ⟨rfl⟩
def RB (n q N cp at' : Nat) (e : Int) : Blk := ⟨n, (rdr n q N cp at' e).cells, 140, 4⟩
theorem rdr_at (n q N cp a k : Nat) (e : Int) : rdr n q N cp (a + k) e = ⟨.pointer (some ⟨n, 0, none⟩), ⟨some ⟨q, 0, none⟩, N, cp⟩, (a : Int) + (k : Int), e⟩ := by simp [rdr]
theorem rb_self {w : World} {n q N cp at' : Nat} {e : Int} (h : BlkOk w (RB n q N cp at' e)) : w.cell? ⟨n, 0, none⟩ = some (ptr n 0) := BlkOk.cell0 h rfl

theorem rd_made (n : Nat) : Meets Tryz.prog 205 [ptr n 0] [] (fun W => W.cell? ⟨n, 0, none⟩ = some (ptr n 0)) (fun v out => v = .bool true ∧ out = []) := by
 intro W hW
 refine Ab Tryz.func205 J 13 Tryz.ntmps205 J (.sr (.a J J J (.nsr (.m J J J (.neqNilP J J J J Y84 (.m J J J (.m J J J (.nC J J J (.fld J J J Tryz.underlying140 J Sz84 dE _ J (.loadE J J J Y84 J sP (hW) (.m J J J (.eqSameP J J J J Y84 Sz140 (.pick J J J J J J (.a J J J (.na (.ret (An ?_)))))))))))))))))
 refine ⟨_, [], Ag J J, sP, sP, ?_, rfl⟩
 rfl

theorem rd_take_err (n q N cp at' : Nat) (e : Int) (k : UInt64) (hat : at' ≤ N) (hN : N ≤ cp) (hbig : N ≤ 1000000) (he : ¬ e = 0) : Meets Tryz.prog 130 [ptr n 0, u64 k] [n] (fun W => BlkOk W (RB n q N cp (at') (e))) (fun v out => v = .tuple #[.slice none 0 0, .bool false] ∧ out = [RB n q N cp (at') (e)]) := by
 intro W hW
 have hfB : (rdr n q N cp at' (e)).fB.n = N := rfl
 have hfA : (rdr n q N cp at' (e)).fAt = (at' : Int) := rfl
 have hfE : (rdr n q N cp at' (e)).fErr = (e) := rfl
 have hwd : (Bn (((rdr n q N cp at' (e)).fB.n : Int) - (rdr n q N cp at' (e)).fAt)).toNat = N - at' := by
  rw [hfB, hfA, show ((N : Int) - (at' : Int)) = ((N - at' : Nat) : Int) by omega]; simp only [Bn, UInt64.toNat_ofNat']; omega
 refine Ba (hp0 := [RB n q N cp (at') (e)]) Tryz.func130 J 56 Tryz.ntmps130 J (HRep.one hW) (.sr (.a J J J (.a J J J (.na (.seq (.sr (.m J J J (.cV J J J J Body205 (rd_made n) (fun w h => rb_self (Av h Z0)) ?_))))))))
 refine .not J J J (.m J J J (.m J J J (.nC J J J (.fld J J J Tryz.underlying140 J Sz31 dE _ J (.load1 J J J Y31 J Z0 (by exact Reader.get_fErr (by exact rdr_ok _ _ _ _ _ _)) ?_)))))
 refine .nei J J J J (show (!decide _) = true from congrArg not (decide_eq_false (he))) (.pick J J J J J J (.na (.cond_t J (rfl) (.sr (.a J J J (.a J J J (.na (.ret (Bg (An ?_))))))))))
 refine ⟨_, [RB n q N cp (at') (e)], res_tmp2 J J J, (by intro b hb; rw [List.mem_singleton.1 hb]; exact Bo), Ce, ?_⟩
 exact ⟨rfl, rfl⟩

theorem rd_take_more (n q N cp at' : Nat) (k : UInt64) (hat : at' ≤ N) (hN : N ≤ cp) (hbig : N ≤ 1000000) (hk : N < at' + k.toNat) : Meets Tryz.prog 130 [ptr n 0, u64 k] [n] (fun W => BlkOk W (RB n q N cp (at') (0))) (fun v out => v = .tuple #[.slice none 0 0, .bool false] ∧ out = [RB n q N cp (at') (5)]) := by
 intro W hW
 have hfB : (rdr n q N cp at' (0)).fB.n = N := rfl
 have hfA : (rdr n q N cp at' (0)).fAt = (at' : Int) := rfl
 have hfE : (rdr n q N cp at' (0)).fErr = (0) := rfl
 have hwd : (Bn (((rdr n q N cp at' (0)).fB.n : Int) - (rdr n q N cp at' (0)).fAt)).toNat = N - at' := by
  rw [hfB, hfA, show ((N : Int) - (at' : Int)) = ((N - at' : Nat) : Int) by omega]; simp only [Bn, UInt64.toNat_ofNat']; omega
 refine Ba (hp0 := [RB n q N cp (at') (0)]) Tryz.func130 J 56 Tryz.ntmps130 J (HRep.one hW) (.sr (.a J J J (.a J J J (.na (.seq (.sr (.m J J J (.cV J J J J Body205 (rd_made n) (fun w h => rb_self (Av h Z0)) ?_))))))))
 refine .not J J J (.m J J J (.m J J J (.nC J J J (.fld J J J Tryz.underlying140 J Sz31 dE _ J (.load1 J J J Y31 J Z0 (by exact Reader.get_fErr (by exact rdr_ok _ _ _ _ _ _)) ?_)))))
 refine .nei J J J J (show (!decide _) = false from congrArg not (decide_eq_true (rfl))) (.pick J J J J J J (.na (.cond_f J (rfl) (.skip (Ae (.seq (.seq (.draw [(0, 0), (0, 1), (0, 2), (0, 3), (1, 4), (0, 5), (0, 6), (0, 7), (0, 8), (1, 9), (0, 10), (0, 11), (0, 12)] Ar zK (.m J J J (.m J J J (.nC J J J (.fld J J J Tryz.underlying140 J Co dE _ J (.load1 J J J Y39 J Z0 (by exact Reader.get_fB (by exact rdr_ok _ _ _ _ _ _)) ?_)))))))))))))
 refine .lenSl J J J Y39 (.m J J J (.nC J J J (.fld J J J Tryz.underlying140 J Sz3 dE _ J (.load1 J J J Y3 J Z0 (by exact Reader.get_fAt (by exact rdr_ok _ _ _ _ _ _)) ?_))))
 refine .sub_i64 J J J J oM (.conv J J J Y3 Y22 (A4 _) (.gtr J J J J (decide_eq_true (by rw [hwd]; omega)) ?_))
 refine .na (.cond_t J (rfl) (.sr (.m J J J (.nC J J J (.fld J J J Tryz.underlying140 J Sz31 dE _ J (.s1 J J J J J Sz31 Z0 (by rw [Reader.length (by exact rdr_ok _ _ _ _ _ _)]; decide) (Reader.set_fErr (by exact rdr_ok _ _ _ _ _ _) _) zU ?_))))))
 refine .nsr (.a J J J (.a J J J (.na (.ret (Bg (An ?_))))))
 refine ⟨_, [RB n q N cp (at') (5)], res_tmp2 J J J, (by intro b hb; rw [List.mem_singleton.1 hb]; exact Bo), Ce, ?_⟩
 exact ⟨rfl, rfl⟩

theorem rd_take_ok (n q N cp at' : Nat) (k : UInt64) (hat : at' ≤ N) (hN : N ≤ cp) (hbig : N ≤ 1000000) (hk : at' + k.toNat ≤ N) : Meets Tryz.prog 130 [ptr n 0, u64 k] [n] (fun W => BlkOk W (RB n q N cp (at') (0))) (fun v out => v = .tuple #[.slice (some ⟨q, if cp = at' then 0 else 0 + at' * 1, none⟩) k.toNat (cp - at'), .bool true] ∧ out = [RB n q N cp (at' + k.toNat) (0)]) := by
 intro W hW
 have hfB : (rdr n q N cp at' (0)).fB.n = N := rfl
 have hfA : (rdr n q N cp at' (0)).fAt = (at' : Int) := rfl
 have hfE : (rdr n q N cp at' (0)).fErr = (0) := rfl
 have hwd : (Bn (((rdr n q N cp at' (0)).fB.n : Int) - (rdr n q N cp at' (0)).fAt)).toNat = N - at' := by
  rw [hfB, hfA, show ((N : Int) - (at' : Int)) = ((N - at' : Nat) : Int) by omega]; simp only [Bn, UInt64.toNat_ofNat']; omega
 refine Ba (hp0 := [RB n q N cp (at') (0)]) Tryz.func130 J 56 Tryz.ntmps130 J (HRep.one hW) (.sr (.a J J J (.a J J J (.na (.seq (.sr (.m J J J (.cV J J J J Body205 (rd_made n) (fun w h => rb_self (Av h Z0)) ?_))))))))
 refine .not J J J (.m J J J (.m J J J (.nC J J J (.fld J J J Tryz.underlying140 J Sz31 dE _ J (.load1 J J J Y31 J Z0 (by exact Reader.get_fErr (by exact rdr_ok _ _ _ _ _ _)) ?_)))))
 refine .nei J J J J (show (!decide _) = false from congrArg not (decide_eq_true (rfl))) (.pick J J J J J J (.na (.cond_f J (rfl) (.skip (Ae (.seq (.seq (.draw [(0, 0), (0, 1), (0, 2), (0, 3), (1, 4), (0, 5), (0, 6), (0, 7), (0, 8), (1, 9), (0, 10), (0, 11), (0, 12)] Ar zK (.m J J J (.m J J J (.nC J J J (.fld J J J Tryz.underlying140 J Co dE _ J (.load1 J J J Y39 J Z0 (by exact Reader.get_fB (by exact rdr_ok _ _ _ _ _ _)) ?_)))))))))))))
 refine .lenSl J J J Y39 (.m J J J (.nC J J J (.fld J J J Tryz.underlying140 J Sz3 dE _ J (.load1 J J J Y3 J Z0 (by exact Reader.get_fAt (by exact rdr_ok _ _ _ _ _ _)) ?_))))
 refine .sub_i64 J J J J oM (.conv J J J Y3 Y22 (A4 _) (.gtr J J J J (decide_eq_false (by rw [hwd]; omega)) ?_))
 refine .na (.cond_f J (rfl) (.skip (Ae (.sr (.m J J J (.nC J J J (.fld J J J Tryz.underlying140 J Sz3 dE _ J (.load1 J J J Y3 J Z0 (by exact Reader.get_fAt (by exact rdr_ok _ _ _ _ _ _)) ?_))))))))
 refine .a J J J (.na (.join (ι := Unit) (fun _u => ⟨[(0, ptr n 0), (1, u64 k), (6, i64 (at' : Int))], [⟨n, (rdr n q N cp (at' + k.toNat) 0).cells, 140, 4⟩]⟩) (fun _u => True) ?_ ?_))
 ·
  refine .region (.m J J J (.nC J J J (.fld J J J Tryz.underlying140 J Sz3 dE _ J (.load1 J J J Y3 J Z0 (by exact Reader.get_fAt (by exact rdr_ok _ _ _ _ _ _)) ?_))))
  refine .m J J J (.conv J J J Y22 Y3 (cv_u64_i64 oM) (.aI J J J J oM (.nC J J J (.fld J J J Tryz.underlying140 J Sz3 dE _ J (.s1 J J J J J Sz3 Z0 (by rw [Reader.length (by exact rdr_ok _ _ _ _ _ _)]; decide) (Reader.set_fAt (by exact rdr_ok _ _ _ _ _ _) _) zU ?_)))))
  refine .na ?_
  refine ⟨(), trivial, Ac (wk1 J (wk1 J (wk1 J wk0))) (wh1 (by rw [rdr_at]; exact Bo) wh0) nD⟩
 ·
  intro _u hj
  have hfA2 : (rdr n q N cp (at' + k.toNat) 0).fAt = ((at' + k.toNat : Nat) : Int) := rfl
  have hfC2 : (rdr n q N cp (at' + k.toNat) 0).fB.c = cp := rfl
  refine .seq (.draw [(0, 0), (0, 1), (0, 2), (1, 3), (0, 4), (0, 5), (0, 6), (0, 7), (1, 8), (0, 9), (0, 10), (0, 11)] Ar zK (.m J J J (.nC J J J (.fld J J J Tryz.underlying140 J Co dE _ J (.load1 J J J Y39 J Z0 (by exact Reader.get_fB (by exact rdr_ok _ _ _ _ _ _)) ?_)))))
  refine .m J J J (.m J J J (.nC J J J (.fld J J J Tryz.underlying140 J Sz3 dE _ J (.load1 J J J Y3 J Z0 (by exact Reader.get_fAt (by exact rdr_ok _ _ _ _ _ _)) ?_))))
  refine .sliceLoHiN at' (at'+k.toNat) J J J J J J oM oM oM Y39 Sz5 (.a J J J (.a J J J (.na (.ret (An ?_)))))
  refine ⟨_, [RB n q N cp (at' + k.toNat) (0)], res_tmp2 J J J, (by intro b hb; rw [List.mem_singleton.1 hb]; exact Bo), Ce, ?_⟩
  exact ⟨congrArg (fun z => Value.tuple #[.slice (some ⟨q, if cp = at' then 0 else 0 + at' * 1, none⟩) z (cp - at'), .bool true]) (Nat.add_sub_cancel_left ..), rfl⟩

theorem rd_fail (n q N cp at' : Nat) (e : Int) (a : Nat) (e2 : Int) : Meets Tryz.prog 132 [ptr n 0, i64 (a : Int), i64 e2] [n] (fun W => BlkOk W (RB n q N cp at' e)) (fun v out => v = .tuple #[] ∧ out = [RB n q N cp (a) (e2)]) := by
 intro W hW
 refine Ba (hp0 := [RB n q N cp at' e]) Tryz.func132 J 14 Tryz.ntmps132 J (HRep.one hW) (.sr (.m J J J (.m J J J (.nC J J J (.fld J J J Tryz.underlying140 J Sz3 dE _ J (.s1 J J J J J Sz3 Z0 (by rw [Reader.length (by exact rdr_ok _ _ _ _ _ _)]; decide) (Reader.set_fAt (by exact rdr_ok _ _ _ _ _ _) _) zU ?_))))))
 refine .na (.region (.m J J J (.m J J J (.nC J J J (.fld J J J Tryz.underlying140 J Sz31 dE _ J (.s1 J J J J J Sz31 Z0 (by rw [Reader.length (by exact rdr_ok _ _ _ _ _ _)]; decide) (Reader.set_fErr (by exact rdr_ok _ _ _ _ _ _) _) zU ?_))))))
 refine .nil (en_n ?_)
 refine ⟨_, [RB n q N cp (a) (e2)], res_none J, (by intro b hb; rw [List.mem_singleton.1 hb]; exact Bo), Ce, ?_⟩
 exact ⟨rfl, rfl⟩

theorem rd_take_first (n q N cp at' : Nat) (hat : at' < N) (hN : N ≤ cp) (hbig : N ≤ 1000000) : Meets Tryz.prog 130 [ptr n 0, u64 1] [n] (fun W => BlkOk W (RB n q N cp at' 0)) (fun v out => v = .tuple #[.slice (some ⟨q, at', none⟩) 1 (cp - at'), .bool true] ∧ out = [RB n q N cp (at' + 1) 0]) := by
  have := rd_take_ok n q N cp at' 1 oM hN hbig (by show at' + 1 ≤ N; omega)
  rw [if_neg oM, Nat.zero_add, Nat.mul_one] at this
  exact this

theorem rd_num_err (n q N cp at' : Nat) (e : Int) (xs : List UInt8) (hx : xs.length = N) (hat : at' ≤ N) (hN : N ≤ cp) (hbig : N ≤ 1000000) (he : ¬ e = 0) : Meets Tryz.prog 70 [ptr n 0] [n] (fun W => BlkOk W (RB n q N cp (at') (e)) ∧ Cc W q 0 (Aa xs) ∧ q ≠ n) (fun v out => v = u64 0 ∧ out = [RB n q N cp (at') (e)]) := by
 intro W hW
 have hb8 := b8_le (xs.getD at' 0)
 have hcw := cnt_word (xs.getD at' 0)
 have hcn : (B1 (xs.getD at' 0)) = 9 - C4 (255 ^^^ (xs.getD at' 0)).toNat := rfl
 refine Ba (hp0 := [RB n q N cp (at') (e)]) Tryz.func70 J 73 Tryz.ntmps70 J (HRep.one hW.1) (.sr (.a J J (show Ah _ _ = some (u64 0) from rfl) (.nsr (.m J J J (.callL (L := [RB n q N cp (at') (e)]) J J J J J Body130 (rd_take_err n q N cp at' e 1 hat hN hbig he) Az lO (fun w h => Av h Z0) ?_)))))
 rintro v2 out2 ⟨rfl, rfl⟩
 refine .m J J J (.eX J J J J (.eX J J J J (.a J J J (.a J J J (.na (.seq (.sr (.m J J J (.not J J J (.na (.cond_t J (rfl) (.sr (.a J J (show Ah _ _ = some (u64 0) from rfl) (.na (.ret (Bg (An ?_)))))))))))))))))
 refine ⟨_, [RB n q N cp (at') (e)], Ag J J, (by intro b hb; rw [List.mem_singleton.1 hb]; exact Bo), Ce, ?_⟩
 exact ⟨rfl, rfl⟩

theorem rd_num_end (n q N cp at' : Nat) (xs : List UInt8) (hx : xs.length = N) (hat : at' ≤ N) (hN : N ≤ cp) (hbig : N ≤ 1000000) (hk : N ≤ at') : Meets Tryz.prog 70 [ptr n 0] [n] (fun W => BlkOk W (RB n q N cp (at') (0)) ∧ Cc W q 0 (Aa xs) ∧ q ≠ n) (fun v out => v = u64 0 ∧ out = [RB n q N cp (at') (5)]) := by
 intro W hW
 have hb8 := b8_le (xs.getD at' 0)
 have hcw := cnt_word (xs.getD at' 0)
 have hcn : (B1 (xs.getD at' 0)) = 9 - C4 (255 ^^^ (xs.getD at' 0)).toNat := rfl
 refine Ba (hp0 := [RB n q N cp (at') (0)]) Tryz.func70 J 73 Tryz.ntmps70 J (HRep.one hW.1) (.sr (.a J J (show Ah _ _ = some (u64 0) from rfl) (.nsr (.m J J J (.callL (L := [RB n q N cp (at') (0)]) J J J J J Body130 (rd_take_more n q N cp at' 1 hat hN hbig (by show N < at' + 1; omega)) Az lO (fun w h => Av h Z0) ?_)))))
 rintro v2 out2 ⟨rfl, rfl⟩
 refine .m J J J (.eX J J J J (.eX J J J J (.a J J J (.a J J J (.na (.seq (.sr (.m J J J (.not J J J (.na (.cond_t J (rfl) (.sr (.a J J (show Ah _ _ = some (u64 0) from rfl) (.na (.ret (Bg (An ?_)))))))))))))))))
 refine ⟨_, [RB n q N cp (at') (5)], Ag J J, (by intro b hb; rw [List.mem_singleton.1 hb]; exact Bo), Ce, ?_⟩
 exact ⟨rfl, rfl⟩

theorem rd_num_short (n q N cp at' : Nat) (xs : List UInt8) (hx : xs.length = N) (hat : at' ≤ N) (hN : N ≤ cp) (hbig : N ≤ 1000000) (hk : at' < N) (hk2 : N < at' + (B1 (xs.getD at' 0))) : Meets Tryz.prog 70 [ptr n 0] [n] (fun W => BlkOk W (RB n q N cp (at') (0)) ∧ Cc W q 0 (Aa xs) ∧ q ≠ n) (fun v out => v = u64 0 ∧ out = [RB n q N cp (at') (5)]) := by
 intro W hW
 have hb8 := b8_le (xs.getD at' 0)
 have hcw := cnt_word (xs.getD at' 0)
 have hcn : (B1 (xs.getD at' 0)) = 9 - C4 (255 ^^^ (xs.getD at' 0)).toNat := rfl
 refine Ba (hp0 := [RB n q N cp (at') (0)]) Tryz.func70 J 73 Tryz.ntmps70 J (HRep.one hW.1) (.sr (.a J J (show Ah _ _ = some (u64 0) from rfl) (.nsr (.m J J J (.callL (L := [RB n q N cp (at') (0)]) J J J J J Body130 (rd_take_first n q N cp at' oM hN hbig) Az lO (fun w h => Av h Z0) ?_)))))
 rintro v2 out2 ⟨rfl, rfl⟩
 refine .m J J J (.eX J J J J (.eX J J J J (.a J J J (.a J J J (.na (.seq (.sr (.m J J J (.not J J J (.na (.cond_f J (rfl) (.skip (Ae (.join (ι := Unit) (fun _u => ⟨[(0, ptr n 0), (3, .slice (some ⟨q, at', none⟩) 1 (cp - at')), (5, i64 (at' : Int))], [⟨n, (rdr n q N cp (at' + 1) (0)).cells, 140, 4⟩]⟩) (fun _u => True) ?_ ?_))))))))))))))
 ·
  refine .region (.m J J J (.nC J J J (.fld J J J Tryz.underlying140 J Sz3 dE _ J (.load1 J J J Y3 J Z0 (by exact Reader.get_fAt (by exact rdr_ok _ _ _ _ _ _)) ?_))))
  have hfA4 : (rdr n q N cp (at' + 1) 0).fAt = ((at' + 1 : Nat) : Int) := rfl
  refine .sub_i64 J J J J oM (.a J J J (.na ?_))
  refine ⟨(), trivial, Ac (wk1 J (wk1 J (wk1 (congrArg (fun z => some (i64 z)) (show (rdr n q N cp (at' + 1) 0).fAt - 1 = (at' : Int) by simp [rdr])) wk0))) (wh1 Z0 wh0) nD⟩
 ·
  intro _u hj
  skip
  refine .sr (.m J J J (.idxSlO J J J J Y39 Sz5 0 J oM (.loadE J J J Y5 J (by (simp; exact hW.2.2)) ((by have := hW.2.1 at' _ (B0 oM); rwa [Nat.zero_add] at this)) ?_)))
  refine .not_u8 J J J (.cV J J J J Body131 (bits_lz8 _) tV (.aI J J J J oM (.a J J J (.nsr (.m J J J (.m J J J (.sub_i64 J J J J oM (.conv J J J Y3 Y22 (A4 _) (.callL (L := [RB n q N cp (at' + 1) (0)]) J J J J J Body130 (rd_take_more n q N cp (at' + 1) (Bn (8 - ((C4 (255 ^^^ (xs.getD at' 0)).toNat : Nat) : Int) + 1 - 1)) oM hN hbig (by rw [hcw]; omega)) Az lO (fun w h => Av h Z0) ?_)))))))))
  rintro v2 out2 ⟨rfl, rfl⟩
  refine .m J J J (.eX J J J J (.eX J J J J (.a J J J (.a J J J (.na (.seq (.sr (.m J J J (.not J J J (.na (.cond_t J (rfl) (.sr (.m J J J (.m J J J (.m J J J (.nC J J J (.fld J J J Tryz.underlying140 J Sz31 dE _ J (.load1 J J J Y31 J Z0 (by exact Reader.get_fErr (by exact rdr_ok _ _ _ _ _ _)) ?_))))))))))))))))))
  refine .callL (L := [RB n q N cp (at' + 1) (5)]) J J J J J Body132 (rd_fail n q N cp (at' + 1) 5 at' 5) Az lO (fun w h => Av h Z0) ?_
  rintro v2 out2 ⟨rfl, rfl⟩
  refine .nsr (.a J J (show Ah _ _ = some (u64 0) from rfl) (.na (.ret (Bg (An ?_)))))
  refine ⟨_, [RB n q N cp (at') (5)], Ag J J, (by intro b hb; rw [List.mem_singleton.1 hb]; exact Bo), Ce, ?_⟩
  exact ⟨rfl, rfl⟩

theorem rd_num_bad (n q N cp at' : Nat) (xs : List UInt8) (hx : xs.length = N) (hat : at' ≤ N) (hN : N ≤ cp) (hbig : N ≤ 1000000) (hk2 : at' + (B1 (xs.getD at' 0)) ≤ N) (hz : ¬ szN (numV xs at').toNat = (B1 (xs.getD at' 0))) : Meets Tryz.prog 70 [ptr n 0] [n] (fun W => BlkOk W (RB n q N cp (at') (0)) ∧ Cc W q 0 (Aa xs) ∧ q ≠ n) (fun v out => v = u64 0 ∧ out = [RB n q N cp (at') (4)]) := by
 intro W hW
 have hb8 := b8_le (xs.getD at' 0)
 have hcw := cnt_word (xs.getD at' 0)
 have hcn : (B1 (xs.getD at' 0)) = 9 - C4 (255 ^^^ (xs.getD at' 0)).toNat := rfl
 refine Ba (hp0 := [RB n q N cp (at') (0)]) Tryz.func70 J 73 Tryz.ntmps70 J (HRep.one hW.1) (.sr (.a J J (show Ah _ _ = some (u64 0) from rfl) (.nsr (.m J J J (.callL (L := [RB n q N cp (at') (0)]) J J J J J Body130 (rd_take_first n q N cp at' oM hN hbig) Az lO (fun w h => Av h Z0) ?_)))))
 rintro v2 out2 ⟨rfl, rfl⟩
 refine .m J J J (.eX J J J J (.eX J J J J (.a J J J (.a J J J (.na (.seq (.sr (.m J J J (.not J J J (.na (.cond_f J (rfl) (.skip (Ae (.join (ι := Unit) (fun _u => ⟨[(0, ptr n 0), (3, .slice (some ⟨q, at', none⟩) 1 (cp - at')), (5, i64 (at' : Int))], [⟨n, (rdr n q N cp (at' + 1) (0)).cells, 140, 4⟩]⟩) (fun _u => True) ?_ ?_))))))))))))))
 ·
  refine .region (.m J J J (.nC J J J (.fld J J J Tryz.underlying140 J Sz3 dE _ J (.load1 J J J Y3 J Z0 (by exact Reader.get_fAt (by exact rdr_ok _ _ _ _ _ _)) ?_))))
  have hfA4 : (rdr n q N cp (at' + 1) 0).fAt = ((at' + 1 : Nat) : Int) := rfl
  refine .sub_i64 J J J J oM (.a J J J (.na ?_))
  refine ⟨(), trivial, Ac (wk1 J (wk1 J (wk1 (congrArg (fun z => some (i64 z)) (show (rdr n q N cp (at' + 1) 0).fAt - 1 = (at' : Int) by simp [rdr])) wk0))) (wh1 Z0 wh0) nD⟩
 ·
  intro _u hj
  skip
  refine .sr (.m J J J (.idxSlO J J J J Y39 Sz5 0 J oM (.loadE J J J Y5 J (by (simp; exact hW.2.2)) ((by have := hW.2.1 at' _ (B0 oM); rwa [Nat.zero_add] at this)) ?_)))
  refine .not_u8 J J J (.cV J J J J Body131 (bits_lz8 _) tV (.aI J J J J oM (.a J J J (.nsr (.m J J J (.m J J J (.sub_i64 J J J J oM (.conv J J J Y3 Y22 (A4 _) (.callL (L := [RB n q N cp (at' + 1) (0)]) J J J J J Body130 (rd_take_ok n q N cp (at' + 1) (Bn (8 - ((C4 (255 ^^^ (xs.getD at' 0)).toNat : Nat) : Int) + 1 - 1)) oM hN hbig (by rw [hcw]; omega)) Az lO (fun w h => Av h Z0) ?_)))))))))
  rintro v2 out2 ⟨rfl, rfl⟩
  refine .m J J J (.eX J J J J (.eX J J J J (.a J J J (.a J J J (.na (.seq (.sr (.m J J J (.not J J J (.na (.cond_f J (rfl) (.skip (Ae (.join (ι := Unit) (fun _u => ⟨[(0, ptr n 0), (5, i64 (at' : Int)), (6, i64 (8 - ((C4 (255 ^^^ (xs.getD at' 0)).toNat : Nat) : Int) + 1)), (7, .slice (some ⟨q, if cp = at' + 1 then 0 else 0 + (at' + 1) * 1, none⟩) (Bn (8 - ((C4 (255 ^^^ (xs.getD at' 0)).toNat : Nat) : Int) + 1 - 1)).toNat (cp - (at' + 1))), (8, u64 (foldB (headV (xs.getD at' 0)) ((xs.drop (at' + 1)).take 0)))], [⟨n, (rdr n q N cp (at' + 1 + (Bn (8 - ((C4 (255 ^^^ (xs.getD at' 0)).toNat : Nat) : Int) + 1 - 1)).toNat) (0)).cells, 140, 4⟩]⟩) (fun _u => True) ?_ ?_))))))))))))))
  ·
   refine .draw [(0, 0), (0, 1), (1, 2), (0, 3), (0, 4), (0, 5), (0, 6), (0, 7)] Ar zK (.m J J J (.idxSlO J J J J Y39 Sz5 0 J oM (.loadE J J J Y5 J (by (simp; exact hW.2.2)) ((by have := hW.2.1 at' _ (B0 oM); rwa [Nat.zero_add] at this)) ?_)))
   refine .m J J J (.shr_u8w J J (show Ah _ _ = some (u8 255) from rfl) J (B1 (xs.getD at' 0)) oM (.and_u8 J J J J (.conv J J J Y5 Y22 (Cu _) (.a J J J (.na ?_)))))
   refine ⟨(), trivial, Ac (wk1 J (wk1 J (wk1 J (wk1 J (wk1 J wk0))))) (wh1 Z0 wh0) nD⟩
  ·
   intro _u hj
   skip
   refine .seq (.sr (.m J J J (.lenSl J J J Y39 (.m J J J (.na (.block (.loop (ι := Nat) (fun j => ⟨[(0, ptr n 0), (5, i64 (at' : Int)), (6, i64 (8 - ((C4 (255 ^^^ (xs.getD at' 0)).toNat : Nat) : Int) + 1)), (53, .slice (some ⟨q, if cp = at' + 1 then 0 else 0 + (at' + 1) * 1, none⟩) (Bn (8 - ((C4 (255 ^^^ (xs.getD at' 0)).toNat : Nat) : Int) + 1 - 1)).toNat (cp - (at' + 1))), (54, i64 ((Bn (8 - ((C4 (255 ^^^ (xs.getD at' 0)).toNat : Nat) : Int) + 1 - 1)).toNat : Int)), (55, i64 (j : Int)), (8, u64 (foldB (headV (xs.getD at' 0)) ((xs.drop (at' + 1)).take j)))], [⟨n, (rdr n q N cp (at' + 1 + (Bn (8 - ((C4 (255 ^^^ (xs.getD at' 0)).toNat : Nat) : Int) + 1 - 1)).toNat) (0)).cells, 140, 4⟩]⟩) (fun j => j ≤ (Bn (8 - ((C4 (255 ^^^ (xs.getD at' 0)).toNat : Nat) : Int) + 1 - 1)).toNat) (fun j => (Bn (8 - ((C4 (255 ^^^ (xs.getD at' 0)).toNat : Nat) : Int) + 1 - 1)).toNat - j) (0) ?_ ?_ ?_)))))))
   · exact Nat.zero_le _
   · exact Ac (wk1 rfl (wk1 rfl (wk1 rfl (wk1 rfl (wk1 rfl (wk1 rfl (wk1 rfl wk0))))))) (wh1 Z0 wh0) nD
   ·
    rintro j hj
    refine .sr (.lss J J J J J (.na (.seq (.condP J (fun hc2 => ?_) (fun hc2 => ?_)))))
    ·
     have hj2 : j < (Bn (8 - ((C4 (255 ^^^ (xs.getD at' 0)).toNat : Nat) : Int) + 1 - 1)).toNat := by omega
     refine .skip (Ae (.seq (.block (.sr (.idxSlO J J J J Y39 Sz5 _ J oM (.loadE J J J Y5 J (by (simp; exact hW.2.2)) ((by have h9 := hW.2.1 (at' + 1 + j) _ (B0 oM); rw [if_neg oM]; rw [Nat.zero_add] at h9; rw [show 0 + (at' + 1) * 1 + j = at' + 1 + j by omega]; exact h9)) ?_))))))
     refine .a J J J (.na (.region (.m J J J (.shl_u64 J J J J 8 J dE (.m J J J (.conv J J J Y5 Y22 (Cu _) (.or_u64 J J J J (.a J J J (.nil (Bj (Ae (.region (.aI J J J J oM (.m J J J (.na ?_)))))))))))))))
     exact ⟨j + 1, by omega, by omega, Ac (wk1 rfl (wk1 rfl (wk1 rfl (wk1 rfl (wk1 rfl (wk1 rfl (wk1 (by rw [foldB_step xs (at' + 1) j _ oM]; rfl) wk0))))))) (wh1 Z0 wh0) nD⟩
    ·
     have hj2 : j = (B1 (xs.getD at' 0)) - 1 := by omega
     refine .exit (A1 (A1 (B5 (Ae (.seq (.sr ?_))))))
     have hnv : numV xs at' = foldB (headV (xs.getD at' 0)) ((xs.drop (at' + 1)).take j) := by rw [numV, hj2]

     refine .m J J J (.cV J J J J Body133 (oct_size _) tV (.m J J J (.nei J J J J (show (!decide _) = true from congrArg not (decide_eq_false (by rw [← hnv]; omega))) ?_)))
     refine .na (.cond_t J (rfl) (.sr (.m J J J (.m J J J (.callL (L := [RB n q N cp (at' + 1 + (Bn (8 - ((C4 (255 ^^^ (xs.getD at' 0)).toNat : Nat) : Int) + 1 - 1)).toNat) (0)]) J J J J J Body132 (rd_fail n q N cp (at' + 1 + (Bn (8 - ((C4 (255 ^^^ (xs.getD at' 0)).toNat : Nat) : Int) + 1 - 1)).toNat) 0 at' 4) Az lO (fun w h => Av h Z0) ?_)))))
     rintro v2 out2 ⟨rfl, rfl⟩
     refine .nsr (.a J J (show Ah _ _ = some (u64 0) from rfl) (.na (.ret (Bg (An ?_)))))
     refine ⟨_, [RB n q N cp (at') (4)], Ag J J, (by intro b hb; rw [List.mem_singleton.1 hb]; exact Bo), Ce, ?_⟩
     exact ⟨rfl, rfl⟩

theorem rd_num_ok (n q N cp at' : Nat) (xs : List UInt8) (hx : xs.length = N) (hat : at' ≤ N) (hN : N ≤ cp) (hbig : N ≤ 1000000) (hk2 : at' + (B1 (xs.getD at' 0)) ≤ N) (hz : szN (numV xs at').toNat = (B1 (xs.getD at' 0))) : Meets Tryz.prog 70 [ptr n 0] [n] (fun W => BlkOk W (RB n q N cp (at') (0)) ∧ Cc W q 0 (Aa xs) ∧ q ≠ n) (fun v out => v = u64 (numV xs at') ∧ out = [RB n q N cp (at' + (B1 (xs.getD at' 0))) (0)]) := by
 intro W hW
 have hb8 := b8_le (xs.getD at' 0)
 have hcw := cnt_word (xs.getD at' 0)
 have hcn : (B1 (xs.getD at' 0)) = 9 - C4 (255 ^^^ (xs.getD at' 0)).toNat := rfl
 refine Ba (hp0 := [RB n q N cp (at') (0)]) Tryz.func70 J 73 Tryz.ntmps70 J (HRep.one hW.1) (.sr (.a J J (show Ah _ _ = some (u64 0) from rfl) (.nsr (.m J J J (.callL (L := [RB n q N cp (at') (0)]) J J J J J Body130 (rd_take_first n q N cp at' oM hN hbig) Az lO (fun w h => Av h Z0) ?_)))))
 rintro v2 out2 ⟨rfl, rfl⟩
 refine .m J J J (.eX J J J J (.eX J J J J (.a J J J (.a J J J (.na (.seq (.sr (.m J J J (.not J J J (.na (.cond_f J (rfl) (.skip (Ae (.join (ι := Unit) (fun _u => ⟨[(0, ptr n 0), (3, .slice (some ⟨q, at', none⟩) 1 (cp - at')), (5, i64 (at' : Int))], [⟨n, (rdr n q N cp (at' + 1) (0)).cells, 140, 4⟩]⟩) (fun _u => True) ?_ ?_))))))))))))))
 ·
  refine .region (.m J J J (.nC J J J (.fld J J J Tryz.underlying140 J Sz3 dE _ J (.load1 J J J Y3 J Z0 (by exact Reader.get_fAt (by exact rdr_ok _ _ _ _ _ _)) ?_))))
  have hfA4 : (rdr n q N cp (at' + 1) 0).fAt = ((at' + 1 : Nat) : Int) := rfl
  refine .sub_i64 J J J J oM (.a J J J (.na ?_))
  refine ⟨(), trivial, Ac (wk1 J (wk1 J (wk1 (congrArg (fun z => some (i64 z)) (show (rdr n q N cp (at' + 1) 0).fAt - 1 = (at' : Int) by simp [rdr])) wk0))) (wh1 Z0 wh0) nD⟩
 ·
  intro _u hj
  skip
  refine .sr (.m J J J (.idxSlO J J J J Y39 Sz5 0 J oM (.loadE J J J Y5 J (by (simp; exact hW.2.2)) ((by have := hW.2.1 at' _ (B0 oM); rwa [Nat.zero_add] at this)) ?_)))
  refine .not_u8 J J J (.cV J J J J Body131 (bits_lz8 _) tV (.aI J J J J oM (.a J J J (.nsr (.m J J J (.m J J J (.sub_i64 J J J J oM (.conv J J J Y3 Y22 (A4 _) (.callL (L := [RB n q N cp (at' + 1) (0)]) J J J J J Body130 (rd_take_ok n q N cp (at' + 1) (Bn (8 - ((C4 (255 ^^^ (xs.getD at' 0)).toNat : Nat) : Int) + 1 - 1)) oM hN hbig (by rw [hcw]; omega)) Az lO (fun w h => Av h Z0) ?_)))))))))
  rintro v2 out2 ⟨rfl, rfl⟩
  refine .m J J J (.eX J J J J (.eX J J J J (.a J J J (.a J J J (.na (.seq (.sr (.m J J J (.not J J J (.na (.cond_f J (rfl) (.skip (Ae (.join (ι := Unit) (fun _u => ⟨[(0, ptr n 0), (5, i64 (at' : Int)), (6, i64 (8 - ((C4 (255 ^^^ (xs.getD at' 0)).toNat : Nat) : Int) + 1)), (7, .slice (some ⟨q, if cp = at' + 1 then 0 else 0 + (at' + 1) * 1, none⟩) (Bn (8 - ((C4 (255 ^^^ (xs.getD at' 0)).toNat : Nat) : Int) + 1 - 1)).toNat (cp - (at' + 1))), (8, u64 (foldB (headV (xs.getD at' 0)) ((xs.drop (at' + 1)).take 0)))], [⟨n, (rdr n q N cp (at' + 1 + (Bn (8 - ((C4 (255 ^^^ (xs.getD at' 0)).toNat : Nat) : Int) + 1 - 1)).toNat) (0)).cells, 140, 4⟩]⟩) (fun _u => True) ?_ ?_))))))))))))))
  ·
   refine .draw [(0, 0), (0, 1), (1, 2), (0, 3), (0, 4), (0, 5), (0, 6), (0, 7)] Ar zK (.m J J J (.idxSlO J J J J Y39 Sz5 0 J oM (.loadE J J J Y5 J (by (simp; exact hW.2.2)) ((by have := hW.2.1 at' _ (B0 oM); rwa [Nat.zero_add] at this)) ?_)))
   refine .m J J J (.shr_u8w J J (show Ah _ _ = some (u8 255) from rfl) J (B1 (xs.getD at' 0)) oM (.and_u8 J J J J (.conv J J J Y5 Y22 (Cu _) (.a J J J (.na ?_)))))
   refine ⟨(), trivial, Ac (wk1 J (wk1 J (wk1 J (wk1 J (wk1 J wk0))))) (wh1 Z0 wh0) nD⟩
  ·
   intro _u hj
   skip
   refine .seq (.sr (.m J J J (.lenSl J J J Y39 (.m J J J (.na (.block (.loop (ι := Nat) (fun j => ⟨[(0, ptr n 0), (5, i64 (at' : Int)), (6, i64 (8 - ((C4 (255 ^^^ (xs.getD at' 0)).toNat : Nat) : Int) + 1)), (53, .slice (some ⟨q, if cp = at' + 1 then 0 else 0 + (at' + 1) * 1, none⟩) (Bn (8 - ((C4 (255 ^^^ (xs.getD at' 0)).toNat : Nat) : Int) + 1 - 1)).toNat (cp - (at' + 1))), (54, i64 ((Bn (8 - ((C4 (255 ^^^ (xs.getD at' 0)).toNat : Nat) : Int) + 1 - 1)).toNat : Int)), (55, i64 (j : Int)), (8, u64 (foldB (headV (xs.getD at' 0)) ((xs.drop (at' + 1)).take j)))], [⟨n, (rdr n q N cp (at' + 1 + (Bn (8 - ((C4 (255 ^^^ (xs.getD at' 0)).toNat : Nat) : Int) + 1 - 1)).toNat) (0)).cells, 140, 4⟩]⟩) (fun j => j ≤ (Bn (8 - ((C4 (255 ^^^ (xs.getD at' 0)).toNat : Nat) : Int) + 1 - 1)).toNat) (fun j => (Bn (8 - ((C4 (255 ^^^ (xs.getD at' 0)).toNat : Nat) : Int) + 1 - 1)).toNat - j) (0) ?_ ?_ ?_)))))))
   · exact Nat.zero_le _
   · exact Ac (wk1 rfl (wk1 rfl (wk1 rfl (wk1 rfl (wk1 rfl (wk1 rfl (wk1 rfl wk0))))))) (wh1 Z0 wh0) nD
   ·
    rintro j hj
    refine .sr (.lss J J J J J (.na (.seq (.condP J (fun hc2 => ?_) (fun hc2 => ?_)))))
    ·
     have hj2 : j < (Bn (8 - ((C4 (255 ^^^ (xs.getD at' 0)).toNat : Nat) : Int) + 1 - 1)).toNat := by omega
     refine .skip (Ae (.seq (.block (.sr (.idxSlO J J J J Y39 Sz5 _ J oM (.loadE J J J Y5 J (by (simp; exact hW.2.2)) ((by have h9 := hW.2.1 (at' + 1 + j) _ (B0 oM); rw [if_neg oM]; rw [Nat.zero_add] at h9; rw [show 0 + (at' + 1) * 1 + j = at' + 1 + j by omega]; exact h9)) ?_))))))
     refine .a J J J (.na (.region (.m J J J (.shl_u64 J J J J 8 J dE (.m J J J (.conv J J J Y5 Y22 (Cu _) (.or_u64 J J J J (.a J J J (.nil (Bj (Ae (.region (.aI J J J J oM (.m J J J (.na ?_)))))))))))))))
     exact ⟨j + 1, by omega, by omega, Ac (wk1 rfl (wk1 rfl (wk1 rfl (wk1 rfl (wk1 rfl (wk1 rfl (wk1 (by rw [foldB_step xs (at' + 1) j _ oM]; rfl) wk0))))))) (wh1 Z0 wh0) nD⟩
    ·
     have hj2 : j = (B1 (xs.getD at' 0)) - 1 := by omega
     refine .exit (A1 (A1 (B5 (Ae (.seq (.sr ?_))))))
     have hnv : numV xs at' = foldB (headV (xs.getD at' 0)) ((xs.drop (at' + 1)).take j) := by rw [numV, hj2]

     refine .m J J J (.cV J J J J Body133 (oct_size _) tV (.m J J J (.nei J J J J (show (!decide _) = false from congrArg not (decide_eq_true (by rw [← hnv, hz]; omega))) ?_)))
     refine .na (.cond_f J (rfl) (.skip (Ae (.sr (.m J J J (.a J J J (.na (.ret (An ?_)))))))))
     refine ⟨_, [RB n q N cp (at' + (B1 (xs.getD at' 0))) (0)], Ag J J, (by intro b hb; rw [List.mem_singleton.1 hb, show at' + (B1 (xs.getD at' 0)) = at' + 1 + (Bn (8 - ((C4 (255 ^^^ (xs.getD at' 0)).toNat : Nat) : Int) + 1 - 1)).toNat by rw [hcw]; omega]; exact Bo), Ce, ?_⟩
     exact ⟨by rw [hnv], rfl⟩

theorem rd_take_pos (n q N cp at' : Nat) (k : UInt64) (hN : N ≤ cp) (hbig : N ≤ 1000000) (hk : at' + k.toNat ≤ N) (hk0 : 0 < k.toNat) : Meets Tryz.prog 130 [ptr n 0, u64 k] [n] (fun W => BlkOk W (RB n q N cp at' 0)) (fun v out => v = .tuple #[.slice (some ⟨q, at', none⟩) k.toNat (cp - at'), .bool true] ∧ out = [RB n q N cp (at' + k.toNat) 0]) := by
  have := rd_take_ok n q N cp at' k oM hN hbig hk
  rw [if_neg oM, Nat.zero_add, Nat.mul_one] at this
  exact this
def Cb (xs : List UInt8) (a : Nat) (e : Int) : UInt64 × Nat × Int :=
  if ¬ e = 0 then (0, a, e) else if xs.length ≤ a then (0, a, 5) else if xs.length < a + B1 (xs.getD a 0) then (0, a, 5) else if szN (numV xs a).toNat = B1 (xs.getD a 0) then (numV xs a, a + B1 (xs.getD a 0), 0) else (0, a, 4)
theorem numR_at (xs : List UInt8) (a : Nat) (e : Int) (h : a ≤ xs.length) : (Cb xs a e).2.1 ≤ xs.length := by
  unfold Cb
  split
  · exact h
  split
  · exact h
  split
  · exact h
  split
  · simp only; omega
  · exact h
theorem rd_Number (n q N cp at' : Nat) (e : Int) (xs : List UInt8) (hx : xs.length = N) (hat : at' ≤ N) (hN : N ≤ cp) (hbig : N ≤ 1000000) : Meets Tryz.prog 70 [ptr n 0] [n] (fun W => BlkOk W (RB n q N cp at' e) ∧ Cc W q 0 (Aa xs) ∧ q ≠ n)
    (fun v out => v = u64 (Cb xs at' e).1 ∧ out = [RB n q N cp (Cb xs at' e).2.1 (Cb xs at' e).2.2]) := by
  unfold Cb
  by_cases he : e = 0
  · subst he
    rw [if_neg sP]
    by_cases h1 : xs.length ≤ at'
    · rw [if_pos h1]; exact rd_num_end n q N cp at' xs hx hat hN hbig oM
    · rw [if_neg h1]
      by_cases h2 : xs.length < at' + B1 (xs.getD at' 0)
      · rw [if_pos h2]; exact rd_num_short n q N cp at' xs hx hat hN hbig oM oM
      · rw [if_neg h2]
        by_cases h3 : szN (numV xs at').toNat = B1 (xs.getD at' 0)
        · rw [if_pos h3]; exact rd_num_ok n q N cp at' xs hx hat hN hbig oM h3
        · rw [if_neg h3]; exact rd_num_bad n q N cp at' xs hx hat hN hbig oM h3
  · rw [if_pos he]; exact rd_num_err n q N cp at' e xs hx hat hN hbig he

theorem rd_dig_err (n q N cp at' : Nat) (e : Int) (xs : List UInt8) (hx : xs.length = N) (hat : at' ≤ N) (hN : N ≤ cp) (hbig : N ≤ 1000000) (he : ¬ e = 0) : Meets Tryz.prog 71 [ptr n 0] [n] (fun W => BlkOk W (RB n q N cp (at') (e)) ∧ Cc W q 0 (Aa xs) ∧ q ≠ n) (fun v out => v = agg (Aa (List.replicate 32 0)) ∧ out = [RB n q N cp (at') (e)]) := by
 intro W hW
 refine Ba (hp0 := [RB n q N cp (at') (e)]) Tryz.func71 J 16 Tryz.ntmps71 J (HRep.one hW.1) (.sr (.alloc (cs := (Aa (List.replicate 32 0))) J Zr24 J ?_))
 intro n2 hn2 hf2
 refine .nsr (.m J J J (.callL (L := [RB n q N cp (at') (e)]) J J J J J Body130 (rd_take_err n q N cp at' e 32 hat hN hbig he) (rem_there Az) lO (fun w h => Av h Z1) ?_))
 rintro v2 out2 ⟨rfl, rfl⟩
 refine .m J J J (.eX J J J J (.eX J J J J (.a J J J (.a J J J (.na (.seq (.sr (.m J J J (.not J J J (.na (.cond_t J (rfl) (.sr (.build (cs := Aa (List.replicate 32 0)) J J J (fun w => by kernel_rfl) ?_)))))))))))))
 refine .sA J J J J zE Bm sP Z1 sP zV ?_
 refine .na (.ret (Bg (An ?_)))
 refine ⟨_, [RB n q N cp (at') (e)], Ao J J Y24 J Bm Z1 sP, (by intro b hb; rw [List.mem_singleton.1 hb]; exact Bo), Ce, ?_⟩
 exact ⟨rfl, rfl⟩

theorem rd_dig_more (n q N cp at' : Nat) (xs : List UInt8) (hx : xs.length = N) (hat : at' ≤ N) (hN : N ≤ cp) (hbig : N ≤ 1000000) (hk : N < at' + 32) : Meets Tryz.prog 71 [ptr n 0] [n] (fun W => BlkOk W (RB n q N cp (at') (0)) ∧ Cc W q 0 (Aa xs) ∧ q ≠ n) (fun v out => v = agg (Aa (List.replicate 32 0)) ∧ out = [RB n q N cp (at') (5)]) := by
 intro W hW
 refine Ba (hp0 := [RB n q N cp (at') (0)]) Tryz.func71 J 16 Tryz.ntmps71 J (HRep.one hW.1) (.sr (.alloc (cs := (Aa (List.replicate 32 0))) J Zr24 J ?_))
 intro n2 hn2 hf2
 refine .nsr (.m J J J (.callL (L := [RB n q N cp (at') (0)]) J J J J J Body130 (rd_take_more n q N cp at' 32 hat hN hbig hk) (rem_there Az) lO (fun w h => Av h Z1) ?_))
 rintro v2 out2 ⟨rfl, rfl⟩
 refine .m J J J (.eX J J J J (.eX J J J J (.a J J J (.a J J J (.na (.seq (.sr (.m J J J (.not J J J (.na (.cond_t J (rfl) (.sr (.build (cs := Aa (List.replicate 32 0)) J J J (fun w => by kernel_rfl) ?_)))))))))))))
 refine .sA J J J J zE Bm sP Z1 sP zV ?_
 refine .na (.ret (Bg (An ?_)))
 refine ⟨_, [RB n q N cp (at') (5)], Ao J J Y24 J Bm Z1 sP, (by intro b hb; rw [List.mem_singleton.1 hb]; exact Bo), Ce, ?_⟩
 exact ⟨rfl, rfl⟩

theorem sees_cut {w : World} {q : Nat} {xs : List UInt8} (h : Cc w q 0 (Aa xs)) (a k : Nat) : Cc w q a (Aa ((xs.drop a).take k)) := fun j v hj => by
  simp only [Aa, List.map_take, List.map_drop, List.getElem?_take] at hj
  split at hj
  · rw [List.getElem?_drop] at hj
    have := h (a + j) v hj
    rwa [Nat.zero_add] at this
  · cases hj

theorem rd_dig_ok (n q N cp at' : Nat) (xs : List UInt8) (hx : xs.length = N) (hat : at' ≤ N) (hN : N ≤ cp) (hbig : N ≤ 1000000) (hk : at' + 32 ≤ N) : Meets Tryz.prog 71 [ptr n 0] [n] (fun W => BlkOk W (RB n q N cp (at') (0)) ∧ Cc W q 0 (Aa xs) ∧ q ≠ n) (fun v out => v = agg (Aa ((xs.drop at').take 32)) ∧ out = [RB n q N cp (at' + 32) (0)]) := by
 intro W hW
 have hdl : ((xs.drop at').take 32).length = 32 := by simp; omega
 refine Ba (hp0 := [RB n q N cp (at') (0)]) Tryz.func71 J 16 Tryz.ntmps71 J (HRep.one hW.1) (.sr (.alloc (cs := (Aa (List.replicate 32 0))) J Zr24 J ?_))
 intro n2 hn2 hf2
 refine .nsr (.m J J J (.callL (L := [RB n q N cp (at') (0)]) J J J J J Body130 (rd_take_pos n q N cp at' 32 hN hbig hk dE) (rem_there Az) lO (fun w h => Av h Z1) ?_))
 rintro v2 out2 ⟨rfl, rfl⟩
 refine .m J J J (.eX J J J J (.eX J J J J (.a J J J (.a J J J (.na (.seq (.sr (.m J J J (.not J J J (.na (.cond_f J (rfl) (.skip (Ae (.sr (.m J J J (.s2a J J J Y24 dE (.loadEN (Aa ((xs.drop at').take 32)) J J J Y24 J Bm (by simp; exact hW.2.2) (by rw [Aa, List.length_map]; exact hdl) (sees_cut hW.2.1 at' 32) ?_)))))))))))))))))
 refine .sA J J J J zE Bm (by (rw [Aa, List.length_map]; assumption)) Z1 sP zV ?_
 refine .na (.ret (An ?_))
 refine ⟨_, [RB n q N cp (at' + 32) (0)], Ao J J Y24 J Bm Z1 (by rw [Aa, List.length_map]; exact hdl), (by intro b hb; rw [List.mem_singleton.1 hb]; exact Bo), Ce, ?_⟩
 exact ⟨rfl, rfl⟩

def digR (xs : List UInt8) (a : Nat) (e : Int) : List UInt8 × Nat × Int :=
  if ¬ e = 0 then (List.replicate 32 0, a, e) else if xs.length < a + 32 then (List.replicate 32 0, a, 5) else ((xs.drop a).take 32, a + 32, 0)
theorem digR_at (xs : List UInt8) (a : Nat) (e : Int) (h : a ≤ xs.length) : (digR xs a e).2.1 ≤ xs.length ∧ (digR xs a e).1.length = 32 := by
  unfold digR
  split
  · exact ⟨h, rfl⟩
  split
  · exact ⟨h, rfl⟩
  · exact ⟨by simp only; omega, by simp; omega⟩
theorem rd_Digest (n q N cp at' : Nat) (e : Int) (xs : List UInt8) (hx : xs.length = N) (hat : at' ≤ N) (hN : N ≤ cp) (hbig : N ≤ 1000000) : Meets Tryz.prog 71 [ptr n 0] [n] (fun W => BlkOk W (RB n q N cp at' e) ∧ Cc W q 0 (Aa xs) ∧ q ≠ n)
    (fun v out => v = agg (Aa (digR xs at' e).1) ∧ out = [RB n q N cp (digR xs at' e).2.1 (digR xs at' e).2.2]) := by
  unfold digR
  by_cases he : e = 0
  · subst he
    rw [if_neg sP]
    by_cases h1 : xs.length < at' + 32
    · rw [if_pos h1]; exact rd_dig_more n q N cp at' xs hx hat hN hbig oM
    · rw [if_neg h1]; exact rd_dig_ok n q N cp at' xs hx hat hN hbig oM
  · rw [if_pos he]; exact rd_dig_err n q N cp at' e xs hx hat hN hbig he

end Go.Proofs.YtpacobmjjjillaaGreat
end

section
namespace Go.Proofs.YtpacobmjjjillaaGreat
open Go Hw

theorem BlkOk.keep {ex : List Nat} {w w' : World} {b : Blk} (h : Keeps ex w w') (hb : BlkOk w b) (hn : b.n ∉ ex) : BlkOk w' b := hb.of_heap (h.block b.n hb.lt hn)

def RdNew (N : Nat) (xs : List UInt8) (v : Value) (out : List Blk) : Prop := ∃ n q cp, v = ptr n 0 ∧ N ≤ cp ∧ out = [RB n q N cp 0 0, ⟨q, Aa xs, 5, cp * 1⟩]
theorem RdNew.loose (N : Nat) (xs : List UInt8) : Loose (RdNew N xs) := fun k hk => by
  obtain ⟨q1, _, h1⟩ := fresh_is 0 k
  obtain ⟨q2, h2', h2⟩ := fresh_is (q1 + 1) k
  refine ⟨_, _, ⟨q2, q1, N, rfl, Nat.le_refl _, rfl⟩, ?_⟩
  simp only [RB, List.cons_append, List.nil_append, List.map_cons, List.nodup_cons, List.mem_cons]
  refine ⟨?_, fun h => ?_, hk⟩
  · rintro (h | h)
    · omega
    · obtain ⟨b, hb, e⟩ := List.mem_map.1 h; exact h2 b hb e
  · obtain ⟨b, hb, e⟩ := List.mem_map.1 h; exact h1 b hb e

theorem oct_Read (p : Option Addr) (n c : Nat) (xs : List UInt8) (hl : xs.length = n) (hp : p = none → n = 0) (hn : n ≤ 90000) : Meets Tryz.prog 69 [.slice p n c] [] (fun W => SeesP W p (Aa xs)) (RdNew n xs) := by
 intro W hW
 refine Ab Tryz.func69 J 13 Tryz.ntmps69 J (.sr (.a J J J (.nsr (.m J J J (.call J J J J Body129 (oct_grown p n c 0 xs hl hp oM oM) (FreshRow.loose _ _ _ _) (fun w h => Ax h J hW) ?_)))))
 rintro v1 out1 ⟨q1, c1, rfl, hc1, rfl⟩
 refine .build (cs := (⟨.pointer none, ⟨some ⟨q1, 0, none⟩, n, c1⟩, 0, 0⟩ : Reader).cells) J J J (fun w => by kernel_rfl) ?_
 refine .boxA J J ?_
 intro n7 hn7 hf7
 refine .a J J J (.nsr (.m J J J (.m J J J (.nC J J J (.fld J J J Tryz.underlying140 J Sz84 dE _ J (.s1 J J J J J Sz84 Z0 (by rw [Reader.length (by exact ⟨rfl⟩)]; decide) (Reader.set_fSelf (by exact ⟨rfl⟩) _) zU ?_))))))
 refine .nsr (.m J J J (.a J J J (.na (.ret (An ?_)))))
 refine ⟨_, [RB n7 q1 n c1 0 0, ⟨q1, Aa xs, 5, c1 * 1⟩], Ag J J, (by intro b hb; rcases List.mem_cons.1 hb with rfl | hb; exact Bo; rw [List.mem_singleton.1 hb]; exact mem1), (fun h => h.sublist (by simp [RB])), ⟨n7, q1, c1, rfl, hc1, rfl⟩⟩

theorem rd_Err (n q N cp at' : Nat) (e : Int) : Meets Tryz.prog 134 [ptr n 0] [] (fun W => BlkOk W (RB n q N cp (at') (e))) (fun v out => v = i64 e ∧ out = []) := by
 intro W hW
 refine Ab Tryz.func134 J 10 Tryz.ntmps134 J (.sr (.a J J J (.na (.seq (.sr (.m J J J (.cV J J J J Body205 (rd_made n) (fun w h => h.keeps.cell sP (rb_self hW)) (.not J J J (.na (.cond_f J J (.skip (Ae (.sr (.m J J J (.nC J J J (.fld J J J Tryz.underlying140 J Sz31 dE _ J (.loadE J J J Y31 J sP (BlkOk.cell0 (o := 3) hW J) (.a J J J (.na (.ret (An ?_)))))))))))))))))))))
 refine ⟨_, [], Ag J J, sP, sP, ?_, rfl⟩
 rfl

theorem rd_Left (n q N cp at' : Nat) (e : Int) (hat : at' ≤ N) (hbig : N ≤ 1000000) : Meets Tryz.prog 135 [ptr n 0] [] (fun W => BlkOk W (RB n q N cp (at') (e))) (fun v out => v = i64 ((N : Int) - (at' : Int)) ∧ out = []) := by
 intro W hW
 have hfB : (rdr n q N cp at' e).fB.n = N := rfl
 have hfA : (rdr n q N cp at' e).fAt = (at' : Int) := rfl
 refine Ab Tryz.func135 J 16 Tryz.ntmps135 J (.sr (.a J J J (.na (.seq (.sr (.m J J J (.cV J J J J Body205 (rd_made n) (fun w h => h.keeps.cell sP (rb_self hW)) (.not J J J (.na (.cond_f J J (.skip (Ae (.seq (.draw [(0, 0), (0, 1), (0, 2), (1, 3), (0, 4), (0, 5), (0, 6), (0, 7), (1, 8), (0, 9), (0, 10)] Ar zK (.m J J J (.nC J J J (.fld J J J Tryz.underlying140 J Co dE _ J (.loadE J J J Y39 J sP (BlkOk.cell0 (o := 1) hW J) (.lenSl (n := N) J J J Y39 (.m J J J (.nC J J J (.fld J J J Tryz.underlying140 J Sz3 dE _ J (.loadE J J J Y3 J sP (BlkOk.cell0 (o := 2) hW J) (.sub_i64 J J J J oM (.a J J J (.na (.ret (An ?_))))))))))))))))))))))))))))
 refine ⟨_, [], Ag J J, sP, sP, ?_, rfl⟩
 rfl

def endR (N a : Nat) (e : Int) : Int := if e = 0 then (if (0 : Int) < (N : Int) - (a : Int) then 4 else 0) else e

theorem rd_End (n q N cp at' : Nat) (e : Int) (hat : at' ≤ N) (hbig : N ≤ 1000000) : Meets Tryz.prog 73 [ptr n 0] [] (fun W => BlkOk W (RB n q N cp (at') (e))) (fun v out => v = i64 (endR N at' e) ∧ out = []) := by
 intro W hW
 refine Ab Tryz.func73 J 12 Tryz.ntmps73 J (.sr (.a J J J (.na (.seq (.sr (.m J J J (.cV J J J J Body134 (rd_Err n q N cp at' e) (fun w h => (BlkOk.keep h.keeps hW sP)) (.a J J J (.nsr (.m J J J (.nei J J J J J (.na (.condNP J (fun hc0 => ?_) (fun hc0 => ?_))))))))))))))
 ·
  refine .sr (.m J J J (.a J J J (.na (.ret (Bg (An ?_))))))
  refine ⟨_, [], Ag J J, sP, sP, ?_, rfl⟩
  (simp only [endR, if_neg hc0]; done)
 ·
  refine .skip (Ae (.seq (.sr (.m J J J (.cV J J J J Body135 (rd_Left n q N cp at' e hat hbig) (fun w h => (BlkOk.keep h.keeps hW sP)) (.gtr J J J J J (.na (.condP J (fun hc1 => ?_) (fun hc1 => ?_)))))))))
  ·
   refine .sr (.a J J J (.na (.ret (Bg (An ?_)))))
   refine ⟨_, [], Ag J J, sP, sP, ?_, rfl⟩
   (simp only [endR, if_pos (show e = 0 by omega), if_pos hc1]; done)
  ·
   refine .skip (Ae (.sr (.a J J J (.na (.ret (An ?_))))))
   refine ⟨_, [], Ag J J, sP, sP, ?_, rfl⟩
   (simp only [endR, if_pos (show e = 0 by omega), if_neg hc1]; done)

theorem rd_take64_err (n q N cp at' : Nat) (e : Int) (m : Nat) (hm0 : 0 < m) (hm : m ≤ 90000) (xs : List UInt8) (hx : xs.length = N) (hat : at' ≤ N) (hN : N ≤ cp) (hbig : N ≤ 1000000) (he : ¬ e = 0) : Meets Tryz.prog 72 [ptr n 0, i64 (m : Int)] [n] (fun W => BlkOk W (RB n q N cp (at') (e)) ∧ Cc W q 0 (Aa xs) ∧ q ≠ n) (fun v out => v = .slice none 0 0 ∧ out = [RB n q N cp (at') (e)]) := by
 intro W hW
 have hkm : (Bn (if (0 : Int) > (m : Int) then 0 else (m : Int))).toNat = m := by
  rw [if_neg oM]
  simp only [Bn, UInt64.toNat_ofNat']
  omega
 refine Ba (hp0 := [RB n q N cp (at') (e)]) Tryz.func72 J 19 Tryz.ntmps72 J (HRep.one hW.1) (.sr (.a J J J (.nsr (.m J J J (.m J J J (.max2 J J J J (rfl) (.conv J J J Y3 Y22 (A4 _) (.callL (L := [RB n q N cp (at') (e)]) J J J J J Body130 (rd_take_err n q N cp at' e (Bn (if (0 : Int) > (m : Int) then 0 else (m : Int))) hat hN hbig he) Az lO (fun w h => Av h Z0) ?_))))))))
 rintro v2 out2 ⟨rfl, rfl⟩
 refine .m J J J (.eX J J J J (.eX J J J J (.a J J J (.a J J J (.na (.seq (.sr (.m J J J (.not J J J (.na (.cond_t J (rfl) (.sr (.a J J J (.na (.ret (Bg (An ?_)))))))))))))))))
 refine ⟨_, [RB n q N cp (at') (e)], Ag J J, (by intro b hb; rw [List.mem_singleton.1 hb]; exact Bo), Ce, ?_⟩
 exact ⟨rfl, rfl⟩

theorem rd_take64_more (n q N cp at' : Nat) (m : Nat) (hm0 : 0 < m) (hm : m ≤ 90000) (xs : List UInt8) (hx : xs.length = N) (hat : at' ≤ N) (hN : N ≤ cp) (hbig : N ≤ 1000000) (hk : N < at' + m) : Meets Tryz.prog 72 [ptr n 0, i64 (m : Int)] [n] (fun W => BlkOk W (RB n q N cp (at') (0)) ∧ Cc W q 0 (Aa xs) ∧ q ≠ n) (fun v out => v = .slice none 0 0 ∧ out = [RB n q N cp (at') (5)]) := by
 intro W hW
 have hkm : (Bn (if (0 : Int) > (m : Int) then 0 else (m : Int))).toNat = m := by
  rw [if_neg oM]
  simp only [Bn, UInt64.toNat_ofNat']
  omega
 refine Ba (hp0 := [RB n q N cp (at') (0)]) Tryz.func72 J 19 Tryz.ntmps72 J (HRep.one hW.1) (.sr (.a J J J (.nsr (.m J J J (.m J J J (.max2 J J J J (rfl) (.conv J J J Y3 Y22 (A4 _) (.callL (L := [RB n q N cp (at') (0)]) J J J J J Body130 (rd_take_more n q N cp at' (Bn (if (0 : Int) > (m : Int) then 0 else (m : Int))) hat hN hbig (by rw [hkm]; exact hk)) Az lO (fun w h => Av h Z0) ?_))))))))
 rintro v2 out2 ⟨rfl, rfl⟩
 refine .m J J J (.eX J J J J (.eX J J J J (.a J J J (.a J J J (.na (.seq (.sr (.m J J J (.not J J J (.na (.cond_t J (rfl) (.sr (.a J J J (.na (.ret (Bg (An ?_)))))))))))))))))
 refine ⟨_, [RB n q N cp (at') (5)], Ag J J, (by intro b hb; rw [List.mem_singleton.1 hb]; exact Bo), Ce, ?_⟩
 exact ⟨rfl, rfl⟩

theorem rd_take64_ok (n q N cp at' : Nat) (m : Nat) (hm0 : 0 < m) (hm : m ≤ 90000) (xs : List UInt8) (hx : xs.length = N) (hat : at' ≤ N) (hN : N ≤ cp) (hbig : N ≤ 1000000) (hk : at' + m ≤ N) (hN2 : N ≤ 90000) : Meets Tryz.prog 72 [ptr n 0, i64 (m : Int)] [n] (fun W => BlkOk W (RB n q N cp (at') (0)) ∧ Cc W q 0 (Aa xs) ∧ q ≠ n) (fun v out => ∃ q1 c1, v = .slice (some ⟨q1, 0, none⟩) m c1 ∧ m ≤ c1 ∧ out = [⟨q1, Aa ((xs.drop (at')).take (m)), 5, c1 * 1⟩, RB n q N cp (at' + m) (0)]) := by
 intro W hW
 have hkm : (Bn (if (0 : Int) > (m : Int) then 0 else (m : Int))).toNat = m := by
  rw [if_neg oM]
  simp only [Bn, UInt64.toNat_ofNat']
  omega
 refine Ba (hp0 := [RB n q N cp (at') (0)]) Tryz.func72 J 19 Tryz.ntmps72 J (HRep.one hW.1) (.sr (.a J J J (.nsr (.m J J J (.m J J J (.max2 J J J J (rfl) (.conv J J J Y3 Y22 (A4 _) (.callL (L := [RB n q N cp (at') (0)]) J J J J J Body130 (rd_take_pos n q N cp at' (Bn (if (0 : Int) > (m : Int) then 0 else (m : Int))) hN hbig (by rw [hkm]; exact hk) (by rw [hkm]; exact hm0)) Az lO (fun w h => Av h Z0) ?_))))))))
 rintro v2 out2 ⟨rfl, rfl⟩
 rw [hkm]
 refine .m J J J (.eX J J J J (.eX J J J J (.a J J J (.a J J J (.na (.seq (.sr (.m J J J (.not J J J (.na (.cond_f J (rfl) (.skip (Ae (.sr (.m J J J (.call J J J J Body129 (oct_grown (some ⟨q, at', none⟩) m (cp - at') 0 ((xs.drop (at')).take (m)) (by simp; omega) (fun e => by cases e) oM oM) (FreshRow.loose _ _ _ _) (fun w h => SeesP.of (Ci h (by simp; exact hW.2.2) (sees_cut hW.2.1 (at') (m)))) ?_))))))))))))))))
 rintro v1 out1 ⟨q1, c1, rfl, hc1, rfl⟩
 refine .a J J J (.na (.ret (An ?_)))
 refine ⟨_, [⟨q1, Aa ((xs.drop (at')).take (m)), 5, c1 * 1⟩, RB n q N cp (at' + m) (0)], Ag J J, (by intro b hb; rcases List.mem_cons.1 hb with rfl | hb; exact Bo; rw [List.mem_singleton.1 hb]; exact mem1), (fun h => h.sublist (by simp [RB])), ?_⟩
 exact ⟨q1, c1, rfl, hc1, rfl⟩

theorem rd_blk_err (n q N cp at' : Nat) (e : Int) (xs : List UInt8) (hx : xs.length = N) (hat : at' ≤ N) (hN : N ≤ cp) (hbig : N ≤ 1000000) (he1' : ¬ (Cb xs at' e).2.2 = 0) (hN2 : N ≤ 90000) : Meets Tryz.prog 157 [ptr n 0] [n] (fun W => BlkOk W (RB n q N cp (at') (e)) ∧ Cc W q 0 (Aa xs) ∧ q ≠ n) (fun v out => v = .slice none 0 0 ∧ out = [RB n q N cp at' ((Cb xs at' e).2.2)]) := by
 intro W hW
 have hna := (numR_at xs at' e oM)
 rw [hx] at hna
 obtain ⟨a1, ha1⟩ : ∃ a1, a1 = (Cb xs at' e).2.1 := ⟨_, rfl⟩
 obtain ⟨e1, he1⟩ : ∃ e1, e1 = (Cb xs at' e).2.2 := ⟨_, rfl⟩
 obtain ⟨k1, hk1⟩ : ∃ k1, k1 = (Cb xs at' e).1 := ⟨_, rfl⟩
 have hNum := rd_Number n q N cp at' e xs hx hat hN hbig
 rw [← ha1, ← he1, ← hk1] at hNum
 rw [← ha1] at hna
 refine Ba (hp0 := [RB n q N cp (at') (e)]) Tryz.func157 J 33 Tryz.ntmps157 J (HRep.one hW.1) (.sr (.a J J J (.na (.seq (.sr (.m J J J (.cV J J J J Body205 (rd_made n) (fun w h => rb_self (Av h Z0)) ?_)))))))
 refine .not J J J (.na (.cond_f J J (.skip (Ae (.join (ι := Unit) (fun _u => ⟨[(0, ptr n 0), (3, i64 (at' : Int))], [⟨n, (rdr n q N cp at' e).cells, 140, 4⟩]⟩) (fun _u => True) ?_ ?_)))))
 ·
  refine .region (.m J J J (.nC J J J (.fld J J J Tryz.underlying140 J Sz3 dE _ J (.load1 J J J Y3 J Z0 (by exact Reader.get_fAt (by exact rdr_ok _ _ _ _ _ _)) ?_))))
  refine .a J J J (.na ?_)
  refine ⟨(), trivial, Ac (wk1 J (wk1 J wk0)) (wh1 Z0 wh0) nD⟩
 ·
  intro _u hj
  skip
  refine .sr (.m J J J (.callL (L := [RB n q N cp (at') (e)]) J J J J J Body70 (hNum) Az lO (fun w h => ⟨Av h Z0, Ci h (by simp; exact hW.2.2) hW.2.1, hW.2.2⟩) ?_))
  rintro v2 out2 ⟨rfl, rfl⟩
  refine .a J J J (.nsr (.m J J J (.m J J J (.callL (L := [RB n q N cp (a1) (e1)]) J J J J J Body130 (rd_take_err n q N cp a1 e1 k1 hna hN hbig (by rw [he1]; exact he1')) Az lO (fun w h => Av h Z0) ?_))))
  rintro v2 out2 ⟨rfl, rfl⟩
  refine .m J J J (.eX J J J J (.eX J J J J (.a J J J (.a J J J (.na (.seq (.sr (.m J J J (.not J J J (.na (.cond_t J (rfl) (.sr (.m J J J (.m J J J (.m J J J (.nC J J J (.fld J J J Tryz.underlying140 J Sz31 dE _ J (.load1 J J J Y31 J Z0 (by exact Reader.get_fErr (by exact rdr_ok _ _ _ _ _ _)) ?_))))))))))))))))))
  refine .callL (L := [RB n q N cp (a1) (e1)]) J J J J J Body132 (rd_fail n q N cp a1 e1 at' e1) Az lO (fun w h => Av h Z0) ?_
  rintro v3 out3 ⟨rfl, rfl⟩
  refine .nsr (.a J J J (.na (.ret (Bg (An ?_)))))
  refine ⟨_, [RB n q N cp at' e1], Ag J J, (by intro b hb; rw [List.mem_singleton.1 hb]; exact Bo), Ce, ?_⟩
  exact ⟨rfl, by rw [he1]⟩

theorem rd_blk_more (n q N cp at' : Nat) (e : Int) (xs : List UInt8) (hx : xs.length = N) (hat : at' ≤ N) (hN : N ≤ cp) (hbig : N ≤ 1000000) (he1' : (Cb xs at' e).2.2 = 0) (hk : N < (Cb xs at' e).2.1 + ((Cb xs at' e).1).toNat) (hN2 : N ≤ 90000) : Meets Tryz.prog 157 [ptr n 0] [n] (fun W => BlkOk W (RB n q N cp (at') (e)) ∧ Cc W q 0 (Aa xs) ∧ q ≠ n) (fun v out => v = .slice none 0 0 ∧ out = [RB n q N cp (at') (5)]) := by
 intro W hW
 have hna := (numR_at xs at' e oM)
 rw [hx] at hna
 obtain ⟨a1, ha1⟩ : ∃ a1, a1 = (Cb xs at' e).2.1 := ⟨_, rfl⟩
 obtain ⟨e1, he1⟩ : ∃ e1, e1 = (Cb xs at' e).2.2 := ⟨_, rfl⟩
 obtain ⟨k1, hk1⟩ : ∃ k1, k1 = (Cb xs at' e).1 := ⟨_, rfl⟩
 have hNum := rd_Number n q N cp at' e xs hx hat hN hbig
 rw [← ha1, ← he1, ← hk1] at hNum
 rw [← ha1] at hna
 have he2 : e1 = 0 := by rw [he1]; exact he1'
 clear he1
 subst he2
 have hk1' : k1 = (Cb xs at' e).1 := hk1
 refine Ba (hp0 := [RB n q N cp (at') (e)]) Tryz.func157 J 33 Tryz.ntmps157 J (HRep.one hW.1) (.sr (.a J J J (.na (.seq (.sr (.m J J J (.cV J J J J Body205 (rd_made n) (fun w h => rb_self (Av h Z0)) ?_)))))))
 refine .not J J J (.na (.cond_f J J (.skip (Ae (.join (ι := Unit) (fun _u => ⟨[(0, ptr n 0), (3, i64 (at' : Int))], [⟨n, (rdr n q N cp at' e).cells, 140, 4⟩]⟩) (fun _u => True) ?_ ?_)))))
 ·
  refine .region (.m J J J (.nC J J J (.fld J J J Tryz.underlying140 J Sz3 dE _ J (.load1 J J J Y3 J Z0 (by exact Reader.get_fAt (by exact rdr_ok _ _ _ _ _ _)) ?_))))
  refine .a J J J (.na ?_)
  refine ⟨(), trivial, Ac (wk1 J (wk1 J wk0)) (wh1 Z0 wh0) nD⟩
 ·
  intro _u hj
  skip
  refine .sr (.m J J J (.callL (L := [RB n q N cp (at') (e)]) J J J J J Body70 (hNum) Az lO (fun w h => ⟨Av h Z0, Ci h (by simp; exact hW.2.2) hW.2.1, hW.2.2⟩) ?_))
  rintro v2 out2 ⟨rfl, rfl⟩
  refine .a J J J (.nsr (.m J J J (.m J J J (.callL (L := [RB n q N cp (a1) (0)]) J J J J J Body130 (rd_take_more n q N cp a1 k1 hna hN hbig (by rw [ha1, hk1]; exact hk)) Az lO (fun w h => Av h Z0) ?_))))
  rintro v2 out2 ⟨rfl, rfl⟩
  refine .m J J J (.eX J J J J (.eX J J J J (.a J J J (.a J J J (.na (.seq (.sr (.m J J J (.not J J J (.na (.cond_t J (rfl) (.sr (.m J J J (.m J J J (.m J J J (.nC J J J (.fld J J J Tryz.underlying140 J Sz31 dE _ J (.load1 J J J Y31 J Z0 (by exact Reader.get_fErr (by exact rdr_ok _ _ _ _ _ _)) ?_))))))))))))))))))
  refine .callL (L := [RB n q N cp (a1) (5)]) J J J J J Body132 (rd_fail n q N cp a1 5 at' 5) Az lO (fun w h => Av h Z0) ?_
  rintro v3 out3 ⟨rfl, rfl⟩
  refine .nsr (.a J J J (.na (.ret (Bg (An ?_)))))
  refine ⟨_, [RB n q N cp (at') (5)], Ag J J, (by intro b hb; rw [List.mem_singleton.1 hb]; exact Bo), Ce, ?_⟩
  exact ⟨rfl, rfl⟩

theorem sees_cutP {w : World} {q cp N a k : Nat} {xs : List UInt8} (h : Cc w q 0 (Aa xs)) (hx : xs.length = N) (hN : N ≤ cp) : SeesP w (some ⟨q, if cp = a then 0 else 0 + a * 1, none⟩) (Aa ((xs.drop a).take k)) := fun j v hj => by
  have hc := sees_cut h a k j v hj
  have hlt : j < (Aa ((xs.drop a).take k)).length := (List.getElem?_eq_some_iff.1 hj).1
  simp only [Aa, List.length_map, List.length_take, List.length_drop] at hlt
  refine ⟨q, a, ?_, hc⟩
  rw [if_neg oM, Nat.zero_add, Nat.mul_one]
def blkR (xs : List UInt8) (a : Nat) (e : Int) : Option (List UInt8) × Nat × Int :=
  if ¬ (Cb xs a e).2.2 = 0 then (none, a, (Cb xs a e).2.2) else if xs.length < (Cb xs a e).2.1 + (Cb xs a e).1.toNat then (none, a, 5) else (some ((xs.drop (Cb xs a e).2.1).take (Cb xs a e).1.toNat), (Cb xs a e).2.1 + (Cb xs a e).1.toNat, 0)

theorem rd_blk_ok (n q N cp at' : Nat) (e : Int) (xs : List UInt8) (hx : xs.length = N) (hat : at' ≤ N) (hN : N ≤ cp) (hbig : N ≤ 1000000) (he1' : (Cb xs at' e).2.2 = 0) (hk : (Cb xs at' e).2.1 + ((Cb xs at' e).1).toNat ≤ N) (hN2 : N ≤ 90000) : Meets Tryz.prog 157 [ptr n 0] [n] (fun W => BlkOk W (RB n q N cp (at') (e)) ∧ Cc W q 0 (Aa xs) ∧ q ≠ n) (fun v out => ∃ q1 c1, v = .slice (some ⟨q1, 0, none⟩) (Cb xs at' e).1.toNat c1 ∧ (Cb xs at' e).1.toNat ≤ c1 ∧ out = [⟨q1, Aa ((xs.drop ((Cb xs at' e).2.1)).take ((Cb xs at' e).1.toNat)), 5, c1 * 1⟩, RB n q N cp ((Cb xs at' e).2.1 + (Cb xs at' e).1.toNat) (0)]) := by
 intro W hW
 have hna := (numR_at xs at' e oM)
 rw [hx] at hna
 obtain ⟨a1, ha1⟩ : ∃ a1, a1 = (Cb xs at' e).2.1 := ⟨_, rfl⟩
 obtain ⟨e1, he1⟩ : ∃ e1, e1 = (Cb xs at' e).2.2 := ⟨_, rfl⟩
 obtain ⟨k1, hk1⟩ : ∃ k1, k1 = (Cb xs at' e).1 := ⟨_, rfl⟩
 have hNum := rd_Number n q N cp at' e xs hx hat hN hbig
 rw [← ha1, ← he1, ← hk1] at hNum
 rw [← ha1] at hna
 have he2 : e1 = 0 := by rw [he1]; exact he1'
 clear he1
 subst he2
 have hk1' : k1 = (Cb xs at' e).1 := hk1
 have hk9 : a1 + k1.toNat ≤ N := by rw [ha1, hk1]; exact hk
 refine Ba (hp0 := [RB n q N cp (at') (e)]) Tryz.func157 J 33 Tryz.ntmps157 J (HRep.one hW.1) (.sr (.a J J J (.na (.seq (.sr (.m J J J (.cV J J J J Body205 (rd_made n) (fun w h => rb_self (Av h Z0)) ?_)))))))
 refine .not J J J (.na (.cond_f J J (.skip (Ae (.join (ι := Unit) (fun _u => ⟨[(0, ptr n 0), (3, i64 (at' : Int))], [⟨n, (rdr n q N cp at' e).cells, 140, 4⟩]⟩) (fun _u => True) ?_ ?_)))))
 ·
  refine .region (.m J J J (.nC J J J (.fld J J J Tryz.underlying140 J Sz3 dE _ J (.load1 J J J Y3 J Z0 (by exact Reader.get_fAt (by exact rdr_ok _ _ _ _ _ _)) ?_))))
  refine .a J J J (.na ?_)
  refine ⟨(), trivial, Ac (wk1 J (wk1 J wk0)) (wh1 Z0 wh0) nD⟩
 ·
  intro _u hj
  skip
  refine .sr (.m J J J (.callL (L := [RB n q N cp (at') (e)]) J J J J J Body70 (hNum) Az lO (fun w h => ⟨Av h Z0, Ci h (by simp; exact hW.2.2) hW.2.1, hW.2.2⟩) ?_))
  rintro v2 out2 ⟨rfl, rfl⟩
  refine .a J J J (.nsr (.m J J J (.m J J J (.callL (L := [RB n q N cp (a1) (0)]) J J J J J Body130 (rd_take_ok n q N cp a1 k1 hna hN hbig (by rw [ha1, hk1]; exact hk)) Az lO (fun w h => Av h Z0) ?_))))
  rintro v2 out2 ⟨rfl, rfl⟩
  refine .m J J J (.eX J J J J (.eX J J J J (.a J J J (.a J J J (.na (.seq (.sr (.m J J J (.not J J J (.na (.cond_f J (rfl) (.skip (Ae (.sr (.m J J J (.call J J J J Body129 (oct_grown _ k1.toNat (cp - a1) 0 ((xs.drop (a1)).take (k1.toNat)) (by simp; omega) (fun e => by cases e) oM oM) (FreshRow.loose _ _ _ _) (fun w h => sees_cutP (Ci h (by simp; exact hW.2.2) hW.2.1) hx hN) ?_))))))))))))))))
  rintro v1 out1 ⟨q1, c1, rfl, hc1, rfl⟩
  refine .a J J J (.na (.ret (An ?_)))
  refine ⟨_, [⟨q1, Aa ((xs.drop (a1)).take (k1.toNat)), 5, c1 * 1⟩, RB n q N cp (a1 + k1.toNat) 0], Ag J J, (by intro b hb; rcases List.mem_cons.1 hb with rfl | hb; exact Bo; rw [List.mem_singleton.1 hb]; exact mem1), (fun h => h.sublist (by simp [RB])), ?_⟩
  rw [← ha1, ← hk1]
  exact ⟨q1, c1, rfl, hc1, rfl⟩

end Go.Proofs.YtpacobmjjjillaaGreat
end

section
namespace Go.Proofs.YtpacobmjjjillaaGreat
open Go Hw

theorem clone_bytes (a : Addr) (n c : Nat) (l : List UInt8) (hl : l.length = n) (hn : n ≤ 90000) : Meets Tryz.prog 149 [.slice (some a) n c] [] (fun W => SeesP W (some a) (Aa l)) (fun v out => FreshRow v out (Aa l) 5 n 1) := by
 intro W hW
 refine Ab Tryz.func149 J 8 Tryz.ntmps149 J (.sr (.a J J J (.na (.seq (.sr (.m J J J (.eqNilS (r := false) J J J J Y39 J (.na (.cond_f J (rfl) (.skip (Ae (.sr (.mkRow (z := u8 0) [] [] rfl J J Y39 Sz5 Zr5 J J (by intro v hv; cases hv) dE J ?_)))))))))))))
 intro q0
 refine .m J J J (.appendSl (z := u8 0) (by' := 1) (Aa l) J J J J J Y39 Y39 Sz5 Zr5 (by unfold By; kernel_rfl) J (fun w h => Ax h J hW) (fun e => by cases e) (by simp [Aa, isCell, u8]) Az J J oM oM oM (by simp [Aa, hl]) ?_)
 intro q1 c1 hq1
 refine .a J J J (.na (.ret (An ?_)))
 refine ⟨_, [⟨q1, [] ++ Aa l, 5, c1 * 1⟩], Ag J J, (by intro b hb; rw [List.mem_singleton.1 hb]; exact Bo), Ce, ⟨q1, c1, by rw [Nat.zero_add], by omega, rfl⟩⟩

def bodyB (B : Block) (ls : List (List UInt8)) (ds : List UInt8) : List UInt8 := B.fWriter ++ numB B.fSeq ++ B.fPrev ++ numB (UInt64.ofNat B.fLinks.n) ++ ls.flatten ++ (numB (UInt64.ofNat B.fData.n) ++ ds)
theorem word_nat {n : Nat} (h : n ≤ 1000000) : Bn (n : Int) = UInt64.ofNat n := by simp only [Bn]; congr 1; omega
theorem ofNat_nat {n : Nat} (h : n ≤ 1000000) : (UInt64.ofNat n).toNat = n := by rw [UInt64.toNat_ofNat', Nat.mod_eq_of_lt oM]
theorem flatten_take_step {ls : List (List UInt8)} {k : Nat} (hk : k < ls.length) : (ls.take (k + 1)).flatten = (ls.take k).flatten ++ ls.getD k [] := by
  rw [List.take_succ_eq_append_getElem hk, List.flatten_append]
  simp [List.getD, hk]
theorem Cl {ls : List (List UInt8)} (h : ∀ l ∈ ls, l.length = 32) {k : Nat} (hk : k ≤ ls.length) : (ls.take k).flatten.length = k * 32 := by
  rw [flatten_len 32 _ (fun l hl => h l (List.mem_of_mem_take hl)), List.length_take, Nat.min_eq_left hk]

theorem block_body (B : Block) (hB : B.ok) (ls : List (List UInt8)) (ds : List UInt8) (hn : B.fLinks.n ≤ 40) (hd : B.fData.n ≤ 2000) : Meets Tryz.prog 93 [agg B.cells] [] (fun W => RowsAt W B.fLinks 32 ls ∧ BytesAt W B.fData ds) (fun v out => ∃ N, N = (bodyB B ls ds).length ∧ N ≤ 4000 ∧ FreshRow v out (Aa (bodyB B ls ds)) 5 N 1) := by
 intro W hW
 have hz1 := Cp B.fSeq.toNat
 have hz2 := Cp (UInt64.ofNat B.fLinks.n).toNat
 have hz3 := Cp B.fData.n
 have hw2 := word_nat (n := B.fLinks.n) oM
 have hll := hW.1.len
 refine Ab Tryz.func93 J 41 Tryz.ntmps93 J (.sr (.boxA J J ?_))
 intro n1 hn1 hf1
 refine .a J J J (.nsr (.fld J J J Y53 J Sz25 dE _ J (.sliceArr J J J Y25 Sz5 (.call J J J J Body149 (clone_bytes ⟨n1, 0, none⟩ 32 32 B.fWriter hB.l_fWriter oM) (FreshRow.loose _ _ _ _) (fun W2 W2h => (SeesP.of (sees_part W2h Z0 (Block.see_fWriter hB)))) ?_))))
 rintro v1 out1 ⟨q1, c1, rfl, hc1, rfl⟩
 refine .a J J J (.nsr (.m J J J (.fld J J J Y53 J Ap dE _ J (.load1 J J J Y22 J Z1 (by exact Block.get_fSeq zA) ?_))))
 refine .call J J J J Body152 (oct_Number none 0 0 [] (B.fSeq) J (fun _ => rfl) oM) (FreshRow.loose _ _ _ _) (fun _ _ => SeesP.nil) ?_
 rintro v2 out2 ⟨q2, c2, rfl, hc2, rfl⟩
 refine .appendSl (z := u8 0) (by' := 1) (Aa ([] ++ numB B.fSeq)) J J J J J Y39 Y39 Sz5 Zr5 (by unfold By; kernel_rfl) J (fun w h => SeesP.of (Ak h Bo)) (fun e => by cases e) (Aw _) (rem_there Az) J (by simp only [Aa, List.length_map, List.length_append, Br, hB.l_fWriter, hB.l_fPrev, List.length_nil]; try omega) hc1 oM oM (by simp [Br]) ?_
 intro q3 c3 hq3
 refine .a J J J (.nsr (.m J J J (.fld J J J Y53 J Bm dE _ J (.sliceArr J J J Y24 Sz5 (.appendSl (z := u8 0) (by' := 1) (Aa B.fPrev) J J J J J Y39 Y39 Sz5 Zr5 (by unfold By; kernel_rfl) J (fun W2 W2h => (SeesP.of (sees_part W2h Z2 (Block.see_fPrev hB)))) (fun e => by cases e) (Aw _) Az J (by simp only [Aa, List.length_map, List.length_append, Br, hB.l_fWriter, hB.l_fPrev, List.length_nil]; try omega) hq3 oM oM (by simp [hB.l_fPrev]) ?_)))))
 intro q5 c5 hq5
 refine .a J J J (.nsr (.m J J J (.fld J J J Y53 J Sz51 dE _ J (.load1 J J J Y51 J Z2 (by exact Block.get_fLinks zA) ?_))))
 refine .lenSl J J J Y51 (.conv J J J Y3 Y22 (A4 _) ?_)
 rw [hw2]
 refine .call J J J J Body152 (oct_Number none 0 0 [] (UInt64.ofNat B.fLinks.n) J (fun _ => rfl) oM) (FreshRow.loose _ _ _ _) (fun _ _ => SeesP.nil) ?_
 rintro v4 out4 ⟨q4, c4, rfl, hc4, rfl⟩
 refine .appendSl (z := u8 0) (by' := 1) (Aa ([] ++ numB (UInt64.ofNat B.fLinks.n))) J J J J J Y39 Y39 Sz5 Zr5 (by unfold By; kernel_rfl) J (fun w h => SeesP.of (Ak h Bo)) (fun e => by cases e) (Aw _) (rem_there Az) J (by simp only [Aa, List.length_map, List.length_append, Br, hB.l_fWriter, hB.l_fPrev, List.length_nil]; try omega) hq5 oM oM (by simp [Br]) ?_
 intro q6 c6 hq6
 refine .a J J J (.na (.seq (.sr (.fld J J J Y53 J Sz51 dE _ J (.load1 J J J Y51 J Z3 (by exact Block.get_fLinks zA) ?_)))))
 refine .lenSl J J J Y51 (.m J J J (.na (.block (.loop (ι := Nat × Nat × Nat) (fun p => ⟨[(1, ptr n1 0), (3, .slice (some ⟨p.2.1, 0, none⟩) (32 + (0 + szN B.fSeq.toNat) + 32 + (0 + szN (UInt64.ofNat B.fLinks.n).toNat) + 32 * p.1) p.2.2), (26, B.fLinks.v), (27, i64 (B.fLinks.n : Int)), (28, i64 (p.1 : Int))], [⟨p.2.1, Aa (B.fWriter ++ numB B.fSeq ++ B.fPrev ++ numB (UInt64.ofNat B.fLinks.n) ++ (ls.take p.1).flatten), 5, p.2.2 * 1⟩, ⟨n1, B.cells, 53, B.cells.length⟩]⟩) (fun p => p.1 ≤ B.fLinks.n ∧ 32 + (0 + szN B.fSeq.toNat) + 32 + (0 + szN (UInt64.ofNat B.fLinks.n).toNat) + 32 * p.1 ≤ p.2.2) (fun p => B.fLinks.n - p.1) ((0, q6, c6)) ?_ ?_ ?_))))
 · exact ⟨Nat.zero_le _, by simp only []; omega⟩
 · exact Ac (wk1 rfl (wk1 rfl (wk1 rfl (wk1 rfl (wk1 rfl wk0))))) (wh1 (by simp only [List.take_zero, List.flatten_nil, List.append_nil, Aa, List.map_append, List.nil_append]; exact Bo) (wh1 Z3 wh0)) nD
 ·
  rintro p ⟨hp1, hp2⟩
  refine .sr (.lss J J J J J (.na (.seq (.condP J (fun hc0 => ?_) (fun hc0 => ?_)))))
  ·
   have hp3 : p.1 < B.fLinks.n := by omega
   obtain ⟨b, o, hbp, hbs⟩ := hW.1.see.at (by rw [Bu hW.1.row]; omega)
   have hrk : (ls.getD p.1 []).length = 32 := C5 hW.1.row oM
   refine .skip (Ae (.seq (.block (.sr (.idxSlP 32 J J J hbp J Y51 Bm p.1 J oM (.loadEN (Aa (ls.getD p.1 [])) J J J Y24 J Bm sP (by rw [Aa, List.length_map]; exact hrk) (sees_row hW.1.row hbs oM) ?_))))))
   refine .alloc (cs := (Aa (List.replicate 32 0))) J Zr24 J ?_
   intro n5 hn5 hf5
   refine .sA J J J J zE Bm (by (rw [Aa, List.length_map]; assumption)) Z0 sP zU ?_
   refine .na (.region (.m J J J (.sliceArr J J J Y24 Sz5 (.appendSl (z := u8 0) (by' := 1) (Aa (ls.getD p.1 [])) J J J J J Y39 Y39 Sz5 Zr5 (by unfold By; kernel_rfl) J (fun w h => SeesP.of (Ak h Bo)) (fun e => by cases e) (Aw _) (rem_there Az) J (by simp only [Aa, List.length_map, List.length_append, Br, hB.l_fWriter, hB.l_fPrev, Cl hW.1.row (show p.1 ≤ ls.length by omega)]; omega) hp2 oM oM (by rw [Aa, List.length_map, hrk]) ?_))))
   intro q7 c7 hq7
   refine .a J J J (.nil (Bj (Ae (.region (.aI J J J J oM (.m J J J (.na ?_)))))))
   exact ⟨(p.1 + 1, q7, c7), ⟨by simp only []; omega, by simp only []; omega⟩, by simp only []; omega, Ac (wk1 rfl (wk1 (by rw [show 32 + (0 + szN B.fSeq.toNat) + 32 + (0 + szN (UInt64.ofNat B.fLinks.n).toNat) + 32 * (p.1 + 1) = 32 + (0 + szN B.fSeq.toNat) + 32 + (0 + szN (UInt64.ofNat B.fLinks.n).toNat) + 32 * p.1 + 32 by omega]; rfl) (wk1 rfl (wk1 rfl (wk1 rfl wk0))))) (wh1 (by rw [flatten_take_step oM, ← List.append_assoc]; simp only [Aa, List.map_append]; exact Bo) (wh1 Z2 wh0)) nD⟩
  ·
   have hp3 : p.1 = B.fLinks.n := by omega
   refine .exit (A1 (A1 (B5 (Ae (.sr (.m J J J (.fld J J J Y53 J Co dE _ J (.load1 J J J Y39 J Z1 (by exact Block.get_fData zA) ?_))))))))
   refine .call J J J J Body153 (oct_Block none B.fData.p 0 0 B.fData.n B.fData.c [] ds J hW.2.len (fun _ => rfl) (fun e => by have := hW.2.nil e; have := hW.2.cap; omega) oM oM) (FreshRow.loose _ _ _ _) (fun w h => ⟨SeesP.nil, Ax h J hW.2.see⟩) ?_
   rintro v9 out9 ⟨q9, c9, rfl, hc9, rfl⟩
   refine .appendSl (z := u8 0) (by' := 1) (Aa ([] ++ numB (UInt64.ofNat B.fData.n) ++ ds)) J J J J J Y39 Y39 Sz5 Zr5 (by unfold By; kernel_rfl) J (fun w h => SeesP.of (Ak h Bo)) (fun e => by cases e) (Aw _) (rem_there Az) J (by simp only [Aa, List.length_map, List.length_append, Br, hB.l_fWriter, hB.l_fPrev, Cl hW.1.row (show p.1 ≤ ls.length by omega)]; omega) hp2 oM oM (by simp [Br, hW.2.len, ofNat_nat (show B.fData.n ≤ 1000000 by omega)]) ?_
   intro q8 c8 hq8
   refine .a J J J (.na (.ret (An ?_)))
   have hN : 32 + (0 + szN B.fSeq.toNat) + 32 + (0 + szN (UInt64.ofNat B.fLinks.n).toNat) + 32 * p.1 + (0 + szN B.fData.n + B.fData.n) = (bodyB B ls ds).length := by
    have hfl := Cl hW.1.row (Nat.le_refl ls.length)
    rw [List.take_length] at hfl
    simp only [bodyB, List.length_append, Br, hB.l_fWriter, hB.l_fPrev, hfl, hW.2.len, ofNat_nat (show B.fData.n ≤ 1000000 by omega)]
    omega
   refine ⟨_, [⟨q8, Aa (bodyB B ls ds), 5, c8 * 1⟩], Ag J J, (by intro b hb; rw [List.mem_singleton.1 hb, show bodyB B ls ds = B.fWriter ++ numB B.fSeq ++ B.fPrev ++ numB (UInt64.ofNat B.fLinks.n) ++ (ls.take p.1).flatten ++ (numB (UInt64.ofNat B.fData.n) ++ ds) by rw [bodyB, List.take_of_length_le oM]]; simp only [Aa, List.map_append, List.append_assoc, List.nil_append]; exact Bo), Ce, ⟨_, rfl, by omega, q8, c8, by rw [← hN], by omega, rfl⟩⟩

theorem check_small {B : Block} {ls : List (List UInt8)} (h : bcheck B ls = 0) : B.fLinks.n ≤ 16 ∧ B.fData.n ≤ 512 := by
  unfold bcheck at h
  by_cases h1 : bheadB B = true
  · rw [if_pos h1] at h; cases h
  · unfold bheadB at h1
    simp at h1
    omega
def bytesB (B : Block) (ls : List (List UInt8)) (ds : List UInt8) : List UInt8 := bodyB B ls ds ++ B.fSig

theorem body_small (B : Block) (hB : B.ok) (ls : List (List UInt8)) (ds : List UInt8) (hr : ∀ l ∈ ls, l.length = 32) (hl : ls.length = B.fLinks.n) (hd : ds.length = B.fData.n) (hn : B.fLinks.n ≤ 40) (hd2 : B.fData.n ≤ 2000) : (bodyB B ls ds).length ≤ 4000 := by
  have hz1 := Cp B.fSeq.toNat
  have hz2 := Cp (UInt64.ofNat B.fLinks.n).toNat
  have hz3 := Cp (UInt64.ofNat B.fData.n).toNat
  have hfl := Cl hr (Nat.le_refl ls.length)
  rw [List.take_length] at hfl
  simp only [bodyB, List.length_append, Br, hB.l_fWriter, hB.l_fPrev, hfl, hd]
  omega

theorem bytes_bad (B : Block) (hB : B.ok) (ls : List (List UInt8)) (ds : List UInt8) (hc : ¬ bcheck B ls = 0) : Meets Tryz.prog 42 [agg B.cells] [] (fun W => RowsAt W B.fLinks 32 ls ∧ BytesAt W B.fData ds) (fun v out => v = .tuple #[.slice none 0 0, i64 (bcheck B ls)] ∧ out = []) := by
 intro W hW
 refine Ab Tryz.func42 J 15 Tryz.ntmps42 J (.sr (.boxA J J ?_))
 intro n1 hn1 hf1
 refine .a J J J (.a J J J (.na (.seq (.sr (.lA J J J Y53 J Bw Z0 (Block.length zA) ?_)))))
 refine .cV J J J J Body38 (block_check B hB ls) (fun w h => rows_ext h J hW.1) (.a J J J (.nsr (.m J J J (.nei J J J J (show (!decide _) = true from congrArg not (decide_eq_false (hc))) (.na (.cond_t J (rfl) (.sr (.m J J J (.a J J J (.a J J J (.na (.ret (Bg (An ?_))))))))))))))
 refine ⟨_, [], res_tmp2 J J J, sP, sP, ?_, rfl⟩
 rfl

theorem bytes_ok (B : Block) (hB : B.ok) (ls : List (List UInt8)) (ds : List UInt8) (hc : bcheck B ls = 0) : Meets Tryz.prog 42 [agg B.cells] [] (fun W => RowsAt W B.fLinks 32 ls ∧ BytesAt W B.fData ds) (fun v out => ∃ q c N, N = (bytesB B ls ds).length ∧ N ≤ 5000 ∧ v = .tuple #[.slice (some ⟨q, 0, none⟩) N c, i64 0] ∧ N ≤ c ∧ out = [⟨q, Aa (bytesB B ls ds), 5, c * 1⟩]) := by
 intro W hW
 have hsm := check_small hc
 refine Ab Tryz.func42 J 15 Tryz.ntmps42 J (.sr (.boxA J J ?_))
 intro n1 hn1 hf1
 refine .a J J J (.a J J J (.na (.seq (.sr (.lA J J J Y53 J Bw Z0 (Block.length zA) ?_)))))
 refine .cV J J J J Body38 (block_check B hB ls) (fun w h => rows_ext h J hW.1) (.a J J J (.nsr (.m J J J (.nei J J J J (show (!decide _) = false from congrArg not (decide_eq_true (hc))) (.na (.cond_f J (rfl) (.skip (Ae (.seq (.draw [(1, 0), (0, 2), (0, 3), (3, 1), (4, 4), (0, 5), (0, 6)] Ar zK (.lA J J J Y53 J Bw Z0 (Block.length zA) ?_)))))))))))
 refine .fld J J J Y53 J Sz27 dE _ J (.sliceArr J J J Y27 Sz5 (.call J J J J Body93 (block_body B hB ls ds oM oM) (fun l hl => by obtain ⟨v, out, h1, h2⟩ := FreshRow.loose (Aa (bodyB B ls ds)) 5 (bodyB B ls ds).length 1 l hl; exact ⟨v, out, ⟨_, rfl, body_small B hB ls ds hW.1.row hW.1.len hW.2.len oM oM, h1⟩, h2⟩) (fun w h => ⟨rows_ext h J hW.1, bytes_ext h J hW.2⟩) ?_))
 rintro v1 out1 ⟨N1, hN1, hN2, q1, c1, rfl, hc1, rfl⟩
 refine .appendSl (z := u8 0) (by' := 1) (Aa B.fSig) J J J J J Y39 Y39 Sz5 Zr5 (by unfold By; kernel_rfl) J (fun W2 W2h => (SeesP.of (sees_part W2h Z1 (Block.see_fSig hB)))) (fun e => by cases e) (Aw _) Az J (by rw [Aa, List.length_map, hN1, Nat.mul_one]) hc1 oM oM (by simp [hB.l_fSig]) ?_
 intro q2 c2 hq2
 refine .a J J J (.a J J J (.na (.ret (An ?_))))
 refine ⟨_, [⟨q2, Aa (bytesB B ls ds), 5, c2 * 1⟩], res_tmp2 J J J, (by intro b hb; rw [List.mem_singleton.1 hb, bytesB]; simp only [Aa, List.map_append]; exact Bo), Ce, ⟨q2, c2, N1 + 64, by rw [hN1, bytesB, List.length_append, hB.l_fSig], by omega, rfl, hq2, rfl⟩⟩

theorem bytes_equal (p q : Option Addr) (n m c1 c2 : Nat) (xs ys : List UInt8) (h1 : xs.length = n) (h2 : ys.length = m) : Meets Tryz.prog 98 [.slice p n c1, .slice q m c2] [] (fun W => SeesP W p (Aa xs) ∧ SeesP W q (Aa ys)) (fun v out => v = .bool (decide (xs = ys)) ∧ out = []) := by
 intro W hW
 refine Ab Tryz.func98 J 10 Tryz.ntmps98 J (.sr (.a J J J (.nsr (.m J J J (.toStr J J J Y39 Y5 Y9 (fun w h => Ax h J hW.1) h1 (.m J J J (.toStr J J J Y39 Y5 Y9 (fun w h => Ax h J hW.2) h2 (.eql_str J J J J J (.a J J J (.na (.ret (An ?_))))))))))))
 refine ⟨_, [], Ag J J, sP, sP, ?_, rfl⟩
 rfl

end Go.Proofs.YtpacobmjjjillaaGreat
end

section
namespace Go.Proofs.YtpacobmjjjillaaGreat
open Go Hw

theorem seq_eq (p q : Option Addr) (n c1 c2 : Nat) (xs bs : List (List UInt8)) (hra : ∀ l ∈ xs, l.length = 32) (hrb : ∀ l ∈ bs, l.length = 32) (ha : xs.length = n) (hb : bs.length = n) (hn : n ≤ 1000000) : Meets Tryz.prog 97 [.slice p n c1, .slice q n c2] [] (fun W => SeesP W p (Bv xs) ∧ SeesP W q (Bv bs)) (fun v out => v = .bool (decide (xs = bs)) ∧ out = []) := by
 intro W hW
 refine Ab Tryz.func97 J 26 Tryz.ntmps97 J (.sr (.a J J J (.na (.seq (.sr (.m J J J (.lenSl J J J Y51 (.m J J J (.lenSl J J J Y51 (.nei J J J J (show (!decide _) = false from congrArg not (decide_eq_true (rfl))) (.na (.cond_f J (rfl) (.skip (Ae (.seq (.sr (.m J J J (.lenSl J J J Y51 (.m J J J (.na (.block (.loop (ι := Nat) (fun k => ⟨[(0, .slice p n c1), (1, .slice q n c2), (12, i64 (n : Int)), (13, i64 (k : Int))], []⟩) (fun k => k ≤ n ∧ xs.take k = bs.take k) (fun k => n - k) (0) ?_ ?_ ?_))))))))))))))))))))))
 · exact ⟨by omega, rfl⟩
 · exact Ac (wk1 rfl (wk1 rfl (wk1 rfl (wk1 rfl wk0)))) wh0 nD
 ·
  rintro k ⟨hk, hg⟩
  refine .sr (.lss J J J J J (.na (.seq (.condP J (fun hc1 => ?_) (fun hc1 => ?_)))))
  ·
   have hk2 : k < n := by omega
   obtain ⟨b1, o1, hp1, hs1⟩ := hW.1.at (by rw [Bu hra]; omega)
   obtain ⟨b2, o2, hp2, hs2⟩ := hW.2.at (by rw [Bu hrb]; omega)
   have r1 : (xs.getD k []).length = 32 := C5 hra oM
   have r2 : (bs.getD k []).length = 32 := C5 hrb oM
   refine .skip (Ae (.seq (.block (.sr (.m J J J (.a J J J (.na (.seq (.draw [(0, 0), (0, 1), (0, 2), (1, 3), (0, 4), (0, 5), (0, 6), (1, 7), (0, 8)] Ar zK (.m J J J (.m J J J (.idxSlP 32 J J J hp1 J Y51 Bm k J oM (.loadEN (Aa (xs.getD k [])) J J J Y24 J Bm sP (by rw [Aa, List.length_map]; exact C5 hra oM) (sees_row hra hs1 oM) ?_)))))))))))))
   refine .m J J J (.m J J J (.idxSlP 32 J J J hp2 J Y51 Bm k J oM (.loadEN (Aa (bs.getD k [])) J J J Y24 J Bm sP (by rw [Aa, List.length_map]; exact C5 hrb oM) (sees_row hrb hs2 oM) ?_)))
   refine .neq_bytes J J J J Tryz.eqGuardType24 Y24 Y5 Sz5 zA zA J ?_
   refine .na (.condNP J (fun hc2 => ?_) (fun hc2 => ?_))
   ·
    refine .sr (.a J J J (.na (.ret (bl_r (Bg (Bg (bl_r (Bg (An ?_)))))))))
    refine ⟨_, [], Ag J J, sP, sP, ?_, rfl⟩
    (rw [decide_eq_false (fun e => hc2 (by rw [e]))]; done)
   ·
    refine .skip (Bj (Ae (.region (.aI J J J J oM (.m J J J (.na ?_))))))
    exact ⟨k + 1, ⟨by omega, take_step [] oM oM hg hc2⟩, by omega, Ac (wk1 rfl (wk1 rfl (wk1 rfl (wk1 rfl wk0)))) wh0 nD⟩
  ·
   obtain rfl : k = n := by omega
   refine .exit (A1 (A1 (B5 (Ae (.sr (.a J J J (.na (.ret (An ?_)))))))))
   refine ⟨_, [], Ag J J, sP, sP, ?_, rfl⟩
   (rw [List.take_of_length_le oM, List.take_of_length_le oM] at hg; rw [decide_eq_true hg]; done)

theorem seq_ne (p q : Option Addr) (n m c1 c2 : Nat) (xs bs : List (List UInt8)) (hra : ∀ l ∈ xs, l.length = 32) (hrb : ∀ l ∈ bs, l.length = 32) (ha : xs.length = n) (hb : bs.length = m) (hn : n ≤ 1000000) (hnm : n ≠ m) : Meets Tryz.prog 97 [.slice p n c1, .slice q m c2] [] (fun W => SeesP W p (Bv xs) ∧ SeesP W q (Bv bs)) (fun v out => v = .bool (decide (xs = bs)) ∧ out = []) := by
 intro W hW
 refine Ab Tryz.func97 J 26 Tryz.ntmps97 J (.sr (.a J J J (.na (.seq (.sr (.m J J J (.lenSl J J J Y51 (.m J J J (.lenSl J J J Y51 (.nei J J J J (show (!decide _) = true from congrArg not (decide_eq_false oM)) (.na (.cond_t J (rfl) (.sr (.a J J J (.na (.ret (Bg (An ?_))))))))))))))))))
 refine ⟨_, [], Ag J J, sP, sP, ?_, rfl⟩
 rw [decide_eq_false (fun e => hnm (by rw [← ha, ← hb, e]))]

theorem seq_any (p q : Option Addr) (n m c1 c2 : Nat) (xs ys : List (List UInt8)) (hx : ∀ l ∈ xs, l.length = 32) (hy : ∀ l ∈ ys, l.length = 32) (h1 : xs.length = n) (h2 : ys.length = m) (hn : n ≤ 1000000) :
    Meets Tryz.prog 97 [.slice p n c1, .slice q m c2] [] (fun W => SeesP W p (Bv xs) ∧ SeesP W q (Bv ys)) (fun v out => v = .bool (decide (xs = ys)) ∧ out = []) := by
  by_cases h : n = m
  · subst h; exact seq_eq p q n c1 c2 xs ys hx hy h1 h2 hn
  · exact seq_ne p q n m c1 c2 xs ys hx hy h1 h2 hn h
theorem digests_any2 (p q : Option Addr) (n m c1 c2 : Nat) (xs ys : List (List UInt8)) (hx : ∀ l ∈ xs, l.length = 32) (hy : ∀ l ∈ ys, l.length = 32) (h1 : xs.length = n) (h2 : ys.length = m) (hn : n ≤ 1000000) :
    Meets Tryz.prog 54 [.slice p n c1, .slice q m c2] [] (fun W => SeesP W p (Bv xs) ∧ SeesP W q (Bv ys)) (fun v out => v = .bool (decide (xs = ys)) ∧ out = []) := by
  by_cases h : n = m
  · subst h; exact digests_eq p q n c1 c2 xs ys hx hy h1 h2 hn
  · exact digests_ne p q n m c1 c2 xs ys hx hy h1 h2 hn h

def sameB (A B : Block) (la lb : List (List UInt8)) (da db : List UInt8) : Bool := decide (A.fWriter = B.fWriter) && (decide ((A.fSeq.toNat : Int) = (B.fSeq.toNat : Int)) && (decide (A.fPrev = B.fPrev) && (decide (la = lb) && (decide (da = db) && decide (A.fSig = B.fSig)))))

theorem kit_block (A B : Block) (hA : A.ok) (hB : B.ok) (la lb : List (List UInt8)) (da db : List UInt8) (hn : A.fLinks.n ≤ 1000000) : Meets Tryz.prog 39 [agg A.cells, agg B.cells] [] (fun W => (RowsAt W A.fLinks 32 la ∧ BytesAt W A.fData da) ∧ (RowsAt W B.fLinks 32 lb ∧ BytesAt W B.fData db)) (fun v out => v = .bool (sameB A B la lb da db) ∧ out = []) := by
 intro W hW
 refine Ab Tryz.func39 J 47 Tryz.ntmps39 J (.sr (.boxA J J ?_))
 intro n2 hn2 hf2
 refine .boxA J J ?_
 intro n3 hn3 hf3
 refine .a J J J (.nsr (.fld J J J Y53 J Sz25 dE _ J (.lN (Aa _) J J J Y25 J Sz25 Z1 (Block.row_fWriter zA) (Block.rl_fWriter zA) ?_)))
 refine .fld J J J Y53 J Sz25 dE _ J (.lN (Aa _) J J J Y25 J Sz25 Z0 (Block.row_fWriter zA) (Block.rl_fWriter zA) ?_)
 refine two (fun r hr k => Tr.eql_bytes J J J J Tryz.eqGuardType25 Y25 Y5 Sz5 (by (simp [hA.l_fWriter]; done)) (by (simp [hB.l_fWriter]; done)) hr k) (fun hs1_40 => ?_) (fun hs1_40 => ?_)
 ·
  have hs1_4 := of_decide_eq_true hs1_40
  refine .m J J J (.fld J J J Y53 J Ap dE _ J (.load1 J J J Y22 J Z1 (by exact Block.get_fSeq zA) ?_))
  refine .fld J J J Y53 J Ap dE _ J (.load1 J J J Y22 J Z0 (by exact Block.get_fSeq zA) ?_)
  refine two (fun r hr k => Tr.eqi J J J J hr k) (fun hs1_100 => ?_) (fun hs1_100 => ?_)
  ·
   have hs1_10 := of_decide_eq_true hs1_100
   refine .pick J J J J J J (.m J J J (.fld J J J Y53 J Bm dE _ J (.lN (Aa _) J J J Y24 J Bm Z1 (Block.row_fPrev zA) (Block.rl_fPrev zA) ?_)))
   refine .fld J J J Y53 J Bm dE _ J (.lN (Aa _) J J J Y24 J Bm Z0 (Block.row_fPrev zA) (Block.rl_fPrev zA) ?_)
   refine two (fun r hr k => Tr.eql_bytes J J J J Tryz.eqGuardType24 Y24 Y5 Sz5 (by (simp [hA.l_fPrev]; done)) (by (simp [hB.l_fPrev]; done)) hr k) (fun hs1_170 => ?_) (fun hs1_170 => ?_)
   ·
    have hs1_17 := of_decide_eq_true hs1_170
    refine .pick J J J J J J (.m J J J (.fld J J J Y53 J Sz51 dE _ J (.load1 J J J Y51 J Z1 (by exact Block.get_fLinks zA) ?_)))
    refine .fld J J J Y53 J Sz51 dE _ J (.load1 J J J Y51 J Z0 (by exact Block.get_fLinks zA) ?_)
    refine .callB J J J J Body54 (digests_any2 _ _ _ _ _ _ la lb hW.1.1.row hW.2.1.row hW.1.1.len hW.2.1.len hn) (fun w h => ⟨Ax h J hW.1.1.see, Ax h J hW.2.1.see⟩) (fun hs1_240 => ?_) (fun hs1_240 => ?_)
    ·
     have hs1_24 := of_decide_eq_true hs1_240
     refine .pick J J J J J J (.m J J J (.fld J J J Y53 J Co dE _ J (.load1 J J J Y39 J Z1 (by exact Block.get_fData zA) ?_)))
     refine .toStr J J J Y39 Y5 Y9 (fun w h => Ax h J hW.1.2.see) hW.1.2.len (.fld J J J Y53 J Co dE _ J (.load1 J J J Y39 J Z0 (by exact Block.get_fData zA) ?_))
     refine .toStr J J J Y39 Y5 Y9 (fun w h => Ax h J hW.2.2.see) hW.2.2.len (two (fun r hr k => Tr.eql_str J J J J hr k) (fun hs1_330 => ?_) (fun hs1_330 => ?_))
     ·
      have hs1_33 := of_decide_eq_true hs1_330
      refine .pick J J J J J J (.m J J J (.fld J J J Y53 J Sz27 dE _ J (.lN (Aa _) J J J Y27 J Sz27 Z1 (Block.row_fSig zA) (Block.rl_fSig zA) ?_)))
      refine .fld J J J Y53 J Sz27 dE _ J (.lN (Aa _) J J J Y27 J Sz27 Z0 (Block.row_fSig zA) (Block.rl_fSig zA) ?_)
      refine .eql_bytes J J J J Tryz.eqGuardType27 Y27 Y5 Sz5 (by (simp [hA.l_fSig]; done)) (by (simp [hB.l_fSig]; done)) J ?_
      refine .pick J J J J J J (.a J J J (.na (.ret (An ?_))))
      refine ⟨_, [], Ag J J, sP, sP, ?_, rfl⟩
      simp_all [sameB]
     ·
      have hs1_33 := of_decide_eq_false hs1_330
      refine .pick J J J J J J (.m J J J (.skp J J (.skp J J (.skp J J (.skp J J (.skp J J (.pick J J J J J J (.a J J J (.na (.ret (An ?_)))))))))))
      refine ⟨_, [], Ag J J, sP, sP, ?_, rfl⟩
      simp_all [sameB]
    ·
     have hs1_24 := of_decide_eq_false hs1_240
     refine .pick J J J J J J (.m J J J (.skp J J (.skp J J (.skp J J (.skp J J (.skp J J (.skp J J (.skp J J (.pick J J J J J J (.m J J J (.skp J J (.skp J J (.skp J J (.skp J J (.skp J J (.pick J J J J J J (.a J J J (.na (.ret (An ?_))))))))))))))))))))
     refine ⟨_, [], Ag J J, sP, sP, ?_, rfl⟩
     simp_all [sameB]
   ·
    have hs1_17 := of_decide_eq_false hs1_170
    refine .pick J J J J J J (.m J J J (.skp J J (.skp J J (.skp J J (.skp J J (.skp J J (.pick J J J J J J (.m J J J (.skp J J (.skp J J (.skp J J (.skp J J (.skp J J (.skp J J (.skp J J (.pick J J J J J J (.m J J J (.skp J J (.skp J J (.skp J J (.skp J J (.skp J J (.pick J J J J J J (.a J J J (.na (.ret (An ?_)))))))))))))))))))))))))))
    refine ⟨_, [], Ag J J, sP, sP, ?_, rfl⟩
    simp_all [sameB]
  ·
   have hs1_10 := of_decide_eq_false hs1_100
   refine .pick J J J J J J (.m J J J (.skp J J (.skp J J (.skp J J (.skp J J (.skp J J (.pick J J J J J J (.m J J J (.skp J J (.skp J J (.skp J J (.skp J J (.skp J J (.pick J J J J J J (.m J J J (.skp J J (.skp J J (.skp J J (.skp J J (.skp J J (.skp J J (.skp J J (.pick J J J J J J (.m J J J (.skp J J (.skp J J (.skp J J (.skp J J (.skp J J (.pick J J J J J J (.a J J J (.na (.ret (An ?_))))))))))))))))))))))))))))))))))
   refine ⟨_, [], Ag J J, sP, sP, ?_, rfl⟩
   simp_all [sameB]
 ·
  have hs1_4 := of_decide_eq_false hs1_40
  refine .m J J J (.skp J J (.skp J J (.skp J J (.skp J J (.skp J J (.pick J J J J J J (.m J J J (.skp J J (.skp J J (.skp J J (.skp J J (.skp J J (.pick J J J J J J (.m J J J (.skp J J (.skp J J (.skp J J (.skp J J (.skp J J (.pick J J J J J J (.m J J J (.skp J J (.skp J J (.skp J J (.skp J J (.skp J J (.skp J J (.skp J J (.pick J J J J J J (.m J J J (.skp J J (.skp J J (.skp J J (.skp J J (.skp J J (.pick J J J J J J (.a J J J (.na (.ret (An ?_))))))))))))))))))))))))))))))))))))))))
  refine ⟨_, [], Ag J J, sP, sP, ?_, rfl⟩
  simp_all [sameB]

theorem block_same (A B : Block) (hA : A.ok) (hB : B.ok) (la lb : List (List UInt8)) (da db : List UInt8) (hn : A.fLinks.n ≤ 1000000) : Meets Tryz.prog 44 [agg A.cells, agg B.cells] [] (fun W => (RowsAt W A.fLinks 32 la ∧ BytesAt W A.fData da) ∧ (RowsAt W B.fLinks 32 lb ∧ BytesAt W B.fData db)) (fun v out => v = .bool (sameB A B la lb da db) ∧ out = []) := by
 intro W hW
 refine Ab Tryz.func44 J 45 Tryz.ntmps44 J (.sr (.boxA J J ?_))
 intro n2 hn2 hf2
 refine .boxA J J ?_
 intro n3 hn3 hf3
 refine .a J J J (.nsr (.fld J J J Y53 J Sz25 dE _ J (.lN (Aa _) J J J Y25 J Sz25 Z1 (Block.row_fWriter zA) (Block.rl_fWriter zA) ?_)))
 refine .fld J J J Y53 J Sz25 dE _ J (.lN (Aa _) J J J Y25 J Sz25 Z0 (Block.row_fWriter zA) (Block.rl_fWriter zA) ?_)
 refine two (fun r hr k => Tr.eql_bytes J J J J Tryz.eqGuardType25 Y25 Y5 Sz5 (by (simp [hA.l_fWriter]; done)) (by (simp [hB.l_fWriter]; done)) hr k) (fun hs1_40 => ?_) (fun hs1_40 => ?_)
 ·
  have hs1_4 := of_decide_eq_true hs1_40
  refine .m J J J (.fld J J J Y53 J Ap dE _ J (.load1 J J J Y22 J Z1 (by exact Block.get_fSeq zA) ?_))
  refine .fld J J J Y53 J Ap dE _ J (.load1 J J J Y22 J Z0 (by exact Block.get_fSeq zA) ?_)
  refine two (fun r hr k => Tr.eqi J J J J hr k) (fun hs1_100 => ?_) (fun hs1_100 => ?_)
  ·
   have hs1_10 := of_decide_eq_true hs1_100
   refine .pick J J J J J J (.m J J J (.fld J J J Y53 J Bm dE _ J (.lN (Aa _) J J J Y24 J Bm Z1 (Block.row_fPrev zA) (Block.rl_fPrev zA) ?_)))
   refine .fld J J J Y53 J Bm dE _ J (.lN (Aa _) J J J Y24 J Bm Z0 (Block.row_fPrev zA) (Block.rl_fPrev zA) ?_)
   refine two (fun r hr k => Tr.eql_bytes J J J J Tryz.eqGuardType24 Y24 Y5 Sz5 (by (simp [hA.l_fPrev]; done)) (by (simp [hB.l_fPrev]; done)) hr k) (fun hs1_170 => ?_) (fun hs1_170 => ?_)
   ·
    have hs1_17 := of_decide_eq_true hs1_170
    refine .pick J J J J J J (.m J J J (.fld J J J Y53 J Sz27 dE _ J (.lN (Aa _) J J J Y27 J Sz27 Z1 (Block.row_fSig zA) (Block.rl_fSig zA) ?_)))
    refine .fld J J J Y53 J Sz27 dE _ J (.lN (Aa _) J J J Y27 J Sz27 Z0 (Block.row_fSig zA) (Block.rl_fSig zA) ?_)
    refine two (fun r hr k => Tr.eql_bytes J J J J Tryz.eqGuardType27 Y27 Y5 Sz5 (by (simp [hA.l_fSig]; done)) (by (simp [hB.l_fSig]; done)) hr k) (fun hs1_240 => ?_) (fun hs1_240 => ?_)
    ·
     have hs1_24 := of_decide_eq_true hs1_240
     refine .pick J J J J J J (.m J J J (.fld J J J Y53 J Sz51 dE _ J (.load1 J J J Y51 J Z1 (by exact Block.get_fLinks zA) ?_)))
     refine .fld J J J Y53 J Sz51 dE _ J (.load1 J J J Y51 J Z0 (by exact Block.get_fLinks zA) ?_)
     refine .callB J J J J Body97 (seq_any _ _ _ _ _ _ la lb hW.1.1.row hW.2.1.row hW.1.1.len hW.2.1.len hn) (fun w h => ⟨Ax h J hW.1.1.see, Ax h J hW.2.1.see⟩) (fun hs1_310 => ?_) (fun hs1_310 => ?_)
     ·
      have hs1_31 := of_decide_eq_true hs1_310
      refine .pick J J J J J J (.m J J J (.fld J J J Y53 J Co dE _ J (.load1 J J J Y39 J Z1 (by exact Block.get_fData zA) ?_)))
      refine .fld J J J Y53 J Co dE _ J (.load1 J J J Y39 J Z0 (by exact Block.get_fData zA) ?_)
      refine .cV J J J J Body98 (bytes_equal _ _ _ _ _ _ da db hW.1.2.len hW.2.2.len) (fun w h => ⟨Ax h J hW.1.2.see, Ax h J hW.2.2.see⟩) (.pick J J J J J J (.a J J J (.na (.ret (An ?_)))))
      refine ⟨_, [], Ag J J, sP, sP, ?_, rfl⟩
      simp_all [sameB]
     ·
      have hs1_31 := of_decide_eq_false hs1_310
      refine .pick J J J J J J (.m J J J (.skp J J (.skp J J (.skp J J (.skp J J (.skp J J (.pick J J J J J J (.a J J J (.na (.ret (An ?_)))))))))))
      refine ⟨_, [], Ag J J, sP, sP, ?_, rfl⟩
      simp_all [sameB]
    ·
     have hs1_24 := of_decide_eq_false hs1_240
     refine .pick J J J J J J (.m J J J (.skp J J (.skp J J (.skp J J (.skp J J (.skp J J (.pick J J J J J J (.m J J J (.skp J J (.skp J J (.skp J J (.skp J J (.skp J J (.pick J J J J J J (.a J J J (.na (.ret (An ?_))))))))))))))))))
     refine ⟨_, [], Ag J J, sP, sP, ?_, rfl⟩
     simp_all [sameB]
   ·
    have hs1_17 := of_decide_eq_false hs1_170
    refine .pick J J J J J J (.m J J J (.skp J J (.skp J J (.skp J J (.skp J J (.skp J J (.pick J J J J J J (.m J J J (.skp J J (.skp J J (.skp J J (.skp J J (.skp J J (.pick J J J J J J (.m J J J (.skp J J (.skp J J (.skp J J (.skp J J (.skp J J (.pick J J J J J J (.a J J J (.na (.ret (An ?_)))))))))))))))))))))))))
    refine ⟨_, [], Ag J J, sP, sP, ?_, rfl⟩
    simp_all [sameB]
  ·
   have hs1_10 := of_decide_eq_false hs1_100
   refine .pick J J J J J J (.m J J J (.skp J J (.skp J J (.skp J J (.skp J J (.skp J J (.pick J J J J J J (.m J J J (.skp J J (.skp J J (.skp J J (.skp J J (.skp J J (.pick J J J J J J (.m J J J (.skp J J (.skp J J (.skp J J (.skp J J (.skp J J (.pick J J J J J J (.m J J J (.skp J J (.skp J J (.skp J J (.skp J J (.skp J J (.pick J J J J J J (.a J J J (.na (.ret (An ?_))))))))))))))))))))))))))))))))
   refine ⟨_, [], Ag J J, sP, sP, ?_, rfl⟩
   simp_all [sameB]
 ·
  have hs1_4 := of_decide_eq_false hs1_40
  refine .m J J J (.skp J J (.skp J J (.skp J J (.skp J J (.skp J J (.pick J J J J J J (.m J J J (.skp J J (.skp J J (.skp J J (.skp J J (.skp J J (.pick J J J J J J (.m J J J (.skp J J (.skp J J (.skp J J (.skp J J (.skp J J (.pick J J J J J J (.m J J J (.skp J J (.skp J J (.skp J J (.skp J J (.skp J J (.pick J J J J J J (.m J J J (.skp J J (.skp J J (.skp J J (.skp J J (.skp J J (.pick J J J J J J (.a J J J (.na (.ret (An ?_))))))))))))))))))))))))))))))))))))))
  refine ⟨_, [], Ag J J, sP, sP, ?_, rfl⟩
  simp_all [sameB]

end Go.Proofs.YtpacobmjjjillaaGreat
end

section
namespace Hw
open Go Go.RowKit

theorem Rep.joinK {C : Cx} {K : List Blk} {s : St} {a : Act} {w : World} (hC : C.kb = []) (hk : (K.map (·.n)).Nodup) (ho : ∀ b ∈ K, C.W0.heap.size ≤ b.n ∨ b.n ∈ C.lent) (r' : Rep (C.with K) s a w) : Rep C ⟨s.sl, K ++ s.hp⟩ a w := by
  suffices Rep C ⟨s.sl, s.hp ++ K⟩ a w from ⟨this.rs, this.rh.perm List.perm_append_comm⟩
  refine ⟨⟨r'.rs.size, r'.rs.defers, r'.rs.slots⟩, ⟨fun b hb => ?_, ?_, fun b hb => ?_, r'.rh.keeps, (by rw [hC]; intro _ h; cases h), (by rw [hC]; intro _ _ _ h; cases h)⟩⟩
  · rcases List.mem_append.1 hb with hb | hb
    · exact r'.rh.cells b hb
    · exact r'.rh.kok b hb
  · rw [List.map_append, List.nodup_append]
    refine ⟨r'.rh.nodup, hk, fun i hi j hj => ?_⟩
    obtain ⟨x, hx, rfl⟩ := List.mem_map.1 hi
    obtain ⟨y, hy, rfl⟩ := List.mem_map.1 hj
    exact r'.rh.kd x hx y hy
  · rcases List.mem_append.1 hb with hb | hb
    · exact r'.rh.own b hb
    · exact ho b hb

def sepOk (ops : Array Oper) (p1 p2 : List (Nat × Nat)) : Bool := p2.all fun q => p1.all fun p => reach ops ops.size q.2 p.2

theorem wpAny_two {C : Cx} {K : List Blk} (hC : C.kb = []) (hKn : (K.map (·.n)).Nodup) (hKo : ∀ b ∈ K, C.W0.heap.size ≤ b.n ∨ b.n ∈ C.lent) {ops : Array Oper} {p1 p2 : List (Nat × Nat)} (hok : orderOk ops (p1 ++ p2) = true) (hsep : sepOk ops p1 p2 = true) (Q : St → Prop) :
    ∀ (fuel : Nat) (listed : Array Bool) (s : St) (a : Act) (w : World) (Q1 : St → Prop), listed.size = ops.size → Shut ops listed → (∀ p ∈ p2, listed.getD p.2 false = false) →
      (p1.filter (fun p => !listed.getD p.2 false)).length + p2.length ≤ fuel → (∀ s, Q1 s → clQ (fun s' => Tr C ops (items ops p2) ⟨s'.sl, K ++ s'.hp⟩ Q) s) →
      Rep (C.with K) s a w → Tr (C.with K) ops (items ops (p1.filter (fun p => !listed.getD p.2 false))) s Q1 →
      wpAny C.P .any ops (Fin C Q) fuel listed a w := by
  have hok' := hok
  simp only [orderOk, Bool.and_eq_true, List.all_eq_true] at hok
  obtain ⟨⟨htopo, hall⟩, hpairs⟩ := hok
  have hnd := topo_nodup (p1 ++ p2) [] htopo
  have hpairs1 : pairsOk ops p1 = true := by
    have h1 := pairs_filter (fun p => p1.contains p) (p1 ++ p2) hpairs
    have e2 : p2.filter (fun p => p1.contains p) = [] := List.filter_eq_nil_iff.2 fun p hp h => by
      rw [List.map_append, List.nodup_append] at hnd
      have hp1 : p ∈ p1 := by simpa using h
      exact hnd.2.2 p.2 (List.mem_map.2 ⟨p, hp1, rfl⟩) p.2 (List.mem_map.2 ⟨p, hp, rfl⟩) rfl
    have e1 : p1.filter (fun p => p1.contains p) = p1 := List.filter_eq_self.2 fun p hp => by simpa using hp
    rwa [List.filter_append, e1, e2, List.append_nil] at h1
  have hnd1 : (p1.map (·.2)).Nodup := by rw [List.map_append, List.nodup_append] at hnd; exact hnd.1
  -- the first list is through
  have base : ∀ (fuel : Nat) (listed : Array Bool) (s : St) (a : Act) (w : World) (Q1 : St → Prop), listed.size = ops.size → Shut ops listed → (∀ p ∈ p2, listed.getD p.2 false = false) →
      p2.length ≤ fuel → (∀ s, Q1 s → clQ (fun s' => Tr C ops (items ops p2) ⟨s'.sl, K ++ s'.hp⟩ Q) s) → p1.filter (fun p => !listed.getD p.2 false) = [] →
      Rep (C.with K) s a w → Tr (C.with K) ops (items ops (p1.filter (fun p => !listed.getD p.2 false))) s Q1 → wpAny C.P .any ops (Fin C Q) fuel listed a w := by
    intro fuel listed s a w Q1 hsz hs h2 hlen hq hnil r h
    rw [hnil] at h
    have e2 : p2.filter (fun p => !listed.getD p.2 false) = p2 := List.filter_eq_self.2 fun p hp => by rw [h2 p hp]; rfl
    have e : (p1 ++ p2).filter (fun p => !listed.getD p.2 false) = p2 := by rw [List.filter_append, hnil, e2, List.nil_append]
    cases h with
    | dup h => exact absurd r.rh.nodup h
    | nil h =>
      obtain ⟨s0, he, ht⟩ := hq _ h
      exact wpAny_of_tr (C := C) hok' fuel listed ⟨s0.sl, K ++ s0.hp⟩ a w Q hsz hs (by rw [e]; exact hlen) (Rep.joinK hC hKn hKo (r.eqv he.symm)) (by rw [e]; exact ht)
  intro fuel
  induction fuel with
  | zero =>
    intro listed s a w Q1 hsz hs h2 hlen hq r h
    exact base 0 listed s a w Q1 hsz hs h2 oM hq (List.eq_nil_of_length_eq_zero oM) r h
  | succ fuel ih =>
    intro listed s a w Q1 hsz hs h2 hlen hq r h
    by_cases hnil : p1.filter (fun p => !listed.getD p.2 false) = []
    · exact base _ listed s a w Q1 hsz hs h2 oM hq hnil r h
    obtain ⟨p0, hp0⟩ := List.exists_mem_of_ne_nil _ hnil
    have hun0 : listed.getD p0.2 false = false := by simpa using (List.mem_filter.1 hp0).2
    refine ⟨fun hr => ?_, fun j hj => ?_⟩
    · exfalso
      have : (p1 ++ p2).filter (fun p => !listed.getD p.2 false) ≠ [] := by
        rw [List.filter_append]
        intro e
        exact hnil (List.append_eq_nil_iff.1 e).1
      cases hf : (p1 ++ p2).filter (fun p => !listed.getD p.2 false) with
      | nil => exact this hf
      | cons p l' =>
        have := topo_first hsz (p1 ++ p2) [] htopo sP p l' hf
        rw [hr] at this
        cases this
    obtain ⟨hjlt, hjun, hjb⟩ := (mem_ready' hsz).1 hj
    have hjm := hall j (List.mem_range.2 hjlt)
    simp only [List.contains_eq_mem, decide_eq_true_eq] at hjm
    obtain ⟨q, hq0, hqj⟩ := List.mem_map.1 hjm
    have hq1 : q ∈ p1 := by
      rcases List.mem_append.1 hq0 with h1 | h1
      · exact h1
      · exfalso
        simp only [sepOk, List.all_eq_true] at hsep
        have := reach_listed hs ops.size q.2 p0.2 (by rw [hqj]; exact hjb) (hsep q h1 p0 (List.mem_filter.1 hp0).1)
        rw [hun0] at this
        cases this
    have hqf : q ∈ p1.filter (fun p => !listed.getD p.2 false) := List.mem_filter.2 ⟨hq1, by rw [hqj, hjun]; rfl⟩
    obtain ⟨l1, l2, hf⟩ := List.append_of_mem hqf
    have hoj : ops[j]? = some ops[j] := Array.getElem?_eq_getElem hjlt
    rw [hf, items_append] at h
    have hit : items ops (q :: l2) = (q.1, ops[j]) :: items ops l2 := by
      simp [items, hqj, hjlt]
    rw [hit] at h
    have hpf := pairs_filter (fun p => !listed.getD p.2 false) p1 hpairs1
    rw [hf] at hpf
    have h' := Tr.front (l1 := items ops l1) (l2 := items ops l2) (fun p hp => by
      obtain ⟨p0, hp0, he⟩ := List.mem_filterMap.1 hp
      have hp1 := pairs_split l1 q l2 hpf p0 hp0
      have hun : listed.getD p0.2 false = false := by
        have : p0 ∈ p1.filter (fun p => !listed.getD p.2 false) := by rw [hf]; exact List.mem_append.2 (.inl hp0)
        simpa using (List.mem_filter.1 this).2
      cases hop : ops[p0.2]? with
      | none => rw [hop] at he; cases he
      | some o =>
        rw [hop] at he
        simp only [Option.map_some, Option.some.injEq] at he
        subst he
        simp only [pairOk, Bool.or_eq_true, Bool.and_eq_true] at hp1
        rcases hp1 with hp1 | hp1
        · rw [hop, hqj, hoj] at hp1
          exact hp1
        · have := reach_listed hs ops.size q.2 p0.2 (by rw [hqj]; exact hjb) hp1
          rw [hun] at this
          cases this) h
    have hjl : j < listed.size := by omega
    refine wpOp_mono (K := fun a' w' => ∃ s', Rep (C.with K) s' a' w' ∧ Tr (C.with K) ops (items ops l1 ++ items ops l2) s' (clQ Q1)) ?_ (Tr.step (i := j) hoj h' a w r _ (fun s' a' w' r' k => ⟨s', r', k⟩) _)
    rintro a' w' ⟨s', r', k⟩
    have hfs := filter_set hjl p1 l1 l2 q hqj hnd1 hf
    have hlen2 := congrArg List.length hf
    rw [List.length_append, List.length_cons] at hlen2
    exact ih (listed.setIfInBounds j true) s' a' w' (clQ Q1) (by simp [hsz]) (fun i hi k hk => by
        rw [getD_set _ _ _ hjl] at hi ⊢
        by_cases hij : j = i
        · subst hij; rw [hjb k hk]; simp
        · simp only [hij, decide_false, Bool.false_or] at hi
          rw [hs i hi k hk]; simp)
      (fun p hp => by
        rw [getD_set _ _ _ hjl, h2 p hp, Bool.or_false]
        refine decide_eq_false fun e => ?_
        rw [List.map_append, List.nodup_append] at hnd
        exact hnd.2.2 q.2 (List.mem_map.2 ⟨q, hq1, rfl⟩) p.2 (List.mem_map.2 ⟨p, hp, rfl⟩) (by rw [hqj, e]))
      (by rw [hfs, List.length_append]; omega)
      (fun s ⟨s0, he, h0⟩ => by
        obtain ⟨s1, he1, h1⟩ := hq _ h0
        exact ⟨s1, he1.trans he, h1⟩) r' (by rw [hfs, items_append]; exact k)

theorem Sat.drawK {C : Cx} {id : Nat} {ops : List Oper} {sl : List (Nat × Value)} {hp A K : List Blk} {Q : Exit → St → Prop} (hsp : hp.Perm (A ++ K)) (hC : C.kb = []) (p1 p2 : List (Nat × Nat)) (hm : C.P.follows .mixedOrders = true) (hok : orderOk ops.toArray (p1 ++ p2) = true) (hsep : sepOk ops.toArray p1 p2 = true)
    (h : Tr (C.with K) ops.toArray (items ops.toArray p1) ⟨sl, A⟩ (fun s' => Tr C ops.toArray (items ops.toArray p2) ⟨s'.sl, K ++ s'.hp⟩ (Q .normal))) : Sat C (.region id ops.toArray true) ⟨sl, hp⟩ Q := by
  intro a w r
  have hh := r.rh.perm hsp
  have hnd := hh.nodup
  rw [List.map_append, List.nodup_append] at hnd
  have hlen : (p1 ++ p2).length ≤ ops.length := by
    simp only [orderOk, Bool.and_eq_true] at hok
    have hnd := topo_nodup (p1 ++ p2) [] hok.1.1
    have hlt : ∀ x ∈ (p1 ++ p2).map (·.2), x ∈ List.range ops.length := fun x hx => by
      obtain ⟨p, hp, rfl⟩ := List.mem_map.1 hx
      have := (topo_mem (p1 ++ p2) [] hok.1.1 p hp).1
      simpa using this
    have := hnd.length_le_of_subset hlt
    simpa using this
  have z : ∀ j, (Array.replicate ops.toArray.size false).getD j false = false := fun j => by
    rw [Array.getD_eq_getD_getElem?, Array.getElem?_replicate]
    split <;> rfl
  have h0 : p1.filter (fun p => !(Array.replicate ops.toArray.size false).getD p.2 false) = p1 := List.filter_eq_self.2 fun p _ => by rw [z]; rfl
  rw [List.length_append] at hlen
  have := wpAny_two (C := C) (K := K) hC hnd.2.1 (fun b hb => hh.own b (List.mem_append.2 (.inr hb))) hok hsep (Q .normal) ops.toArray.size (Array.replicate ops.toArray.size false) ⟨sl, A⟩ a { w with drawn := w.drawn + 1 } _ sP
    (fun j hj => by rw [z] at hj; cases hj) (fun p _ => z p.2) (by rw [h0]; simpa using hlen) (fun s q => ⟨s, .refl _, q⟩)
    ⟨⟨r.rs.size, r.rs.defers, r.rs.slots⟩, HRep.drew (show HRep (C.with K) A w from ⟨fun b hb => hh.cells b (List.mem_append.2 (.inl hb)), hnd.1, fun b hb => hh.own b (List.mem_append.2 (.inl hb)), hh.keeps, fun b hb => hh.cells b (List.mem_append.2 (.inr hb)),
      fun b hb k hk => hnd.2.2 b.n (List.mem_map.2 ⟨b, hb, rfl⟩) k.n (List.mem_map.2 ⟨k, hk, rfl⟩)⟩) _⟩ (by rw [h0]; exact h)
  refine wp_mono (wp_region_any hm this) fun e a' w' ⟨he, s', r', q⟩ => ?_
  subst he
  exact ⟨s', r', q⟩

def SRounds (C : Cx) (body : Code) (Q : Exit → St → Prop) : Nat → St → Prop
  | 0, _ => False
  | n + 1, s => Sat C body s (thenQ (SRounds C body Q n) Q)
theorem SRounds.more {C : Cx} {body : Code} {Q : Exit → St → Prop} {n : Nat} {s : St} (h : Sat C body s (thenQ (SRounds C body Q n) Q)) : SRounds C body Q (n + 1) s := h
theorem Sat.rounds {C : Cx} {body : Code} {Q : Exit → St → Prop} (n : Nat) {s : St} (h : SRounds C body Q n s) : Sat C (.loop body) s Q := by
  intro a w r
  refine wp_loop_rounds n ?_
  induction n generalizing s a w with
  | zero => exact h.elim
  | succ n ih =>
    rw [rounds_succ]
    refine wp_mono (h a w r) fun e a' w' ⟨s', r', q⟩ => ?_
    cases e with
    | normal => exact ih q a' w' r'
    | _ => exact ⟨s', r', q⟩

theorem Bp {L : List Blk} {lent : List Nat} (h : L.map (·.n) = lent) : ∀ n ∈ lent, ∃ b ∈ L, b.n = n := fun n hn => by
  subst h
  obtain ⟨b, hb, rfl⟩ := List.mem_map.1 hn
  exact ⟨b, hb, rfl⟩
theorem HRep.two {P : Program} {W : World} {N : Nat} {A B : Blk} (ha : BlkOk W A) (hb : BlkOk W B) (hn : A.n ≠ B.n) : HRep ⟨P, W, N, [A.n, B.n], [], []⟩ [A, B] W := by
  refine ⟨fun b h => ?_, by simpa using hn, fun b h => ?_, Keeps.refl _ _, fun _ h => (by cases h), fun _ _ _ h => (by cases h)⟩
  · rcases List.mem_cons.1 h with rfl | h
    · exact ha
    · rw [List.mem_singleton.1 h]; exact hb
  · rcases List.mem_cons.1 h with rfl | h
    · exact .inr List.mem_cons_self
    · rw [List.mem_singleton.1 h]; exact .inr (List.mem_cons_of_mem _ List.mem_cons_self)
end Hw
end

section
namespace Hw
open Go Go.RowKit

section
variable {X Y l l' l'' hp hp1 R : List Blk} {x B : Blk} {n : Nat} {cs cs' : List Value} {T : TypeId} {m m' : Nat}
theorem rem_seg (h : l.Perm (B :: l')) : (X ++ l).Perm (B :: (X ++ l')) := (List.Perm.append_left X h).trans List.perm_middle
theorem sg_here : (X ++ l).Perm (X ++ l) := .refl _
theorem sg_there (h : l.Perm (X ++ l')) : (x :: l).Perm (X ++ (x :: l')) := (List.Perm.cons x h).trans List.perm_middle.symm
theorem sg_seg (h : l.Perm (X ++ l')) : (Y ++ l).Perm (X ++ (Y ++ l')) := by
  refine (List.Perm.append_left Y h).trans ?_
  rw [← List.append_assoc, ← List.append_assoc]
  exact List.Perm.append_right l' List.perm_append_comm
theorem sp_x {A K : List Blk} (h : l.Perm (A ++ K)) : (X ++ l).Perm ((X ++ A) ++ K) := by rw [List.append_assoc]; exact List.Perm.append_left X h
theorem sg_end : X.Perm (X ++ []) := by rw [List.append_nil]
theorem Au : hp.Perm ([] ++ hp) := .refl _
theorem Ai (h : hp.Perm (x :: hp1)) (k : hp1.Perm (l ++ R)) : hp.Perm ((x :: l) ++ R) := h.trans (.cons x k)
theorem pm_consE (h : hp.Perm (⟨n, cs, T, m⟩ :: hp1)) (e : cs = cs') (e2 : m = m') (k : hp1.Perm (l ++ R)) : hp.Perm ((⟨n, cs', T, m'⟩ :: l) ++ R) := by subst e; subst e2; exact Ai h k
theorem B6 (h : hp.Perm (X ++ hp1)) (k : hp1.Perm (l ++ R)) : hp.Perm ((X ++ l) ++ R) := by
  rw [List.append_assoc]
  exact h.trans (List.Perm.append_left X k)
theorem pm_none (h : hp.Perm (l ++ R)) : hp.Perm (([] ++ l) ++ R) := h
theorem mem_seg (h : B ∈ l) : B ∈ X ++ l := List.mem_append_right _ h
theorem Bt : ∀ b ∈ X, b ∈ X ++ l := fun b hb => List.mem_append_left _ hb
theorem in_all : ∀ b ∈ X, b ∈ X := fun b hb => hb
theorem in_there (h : ∀ b ∈ X, b ∈ l) : ∀ b ∈ X, b ∈ x :: l := fun b hb => List.mem_cons_of_mem _ (h b hb)
theorem in_seg (h : ∀ b ∈ X, b ∈ l) : ∀ b ∈ X, b ∈ Y ++ l := fun b hb => List.mem_append_right _ (h b hb)
theorem Upd.seg {b : Nat} (h : Upd l b cs T m cs' l') : Upd (X ++ l) b cs T m cs' (X ++ l') := by
  induction X with
  | nil => exact h
  | cons x X ih => exact .tail ih
end
theorem Bh {sl sl' : List (Nat × Value)} {hp hp' R : List Blk} (h1 : wkl sl sl') (h2 : hp.Perm (hp' ++ R)) : Weak ⟨sl, hp⟩ ⟨sl', hp'⟩ :=
  ⟨wkl_mem h1, fun b hb => h2.symm.subset (List.mem_append_left _ hb), fun h => by
    have := (h2.map (·.n)).nodup_iff.1 h
    rw [List.map_append, List.nodup_append] at this
    exact this.1⟩
theorem Be {C : Cx} {fn : Func} {R : Value → List Blk → Prop} {s : St} {v : Value} {out K : List Blk} (hr : Res C fn s v) (hp : s.hp.Perm (out ++ K)) (h : R v out) : endAt C fn R s :=
  ⟨v, out, hr, fun b hb => hp.symm.subset (List.mem_append_left _ hb), fun hn => by
    have := (hp.map (·.n)).nodup_iff.1 hn
    rw [List.map_append, List.nodup_append] at this
    exact this.1, h⟩

theorem Meets.imp {P : Program} {f : FuncId} {args : List Value} {lent : List Nat} {Pre Pre' : World → Prop} {R R' : Value → List Blk → Prop} (h : Meets P f args lent Pre R) (hp : ∀ w, Pre' w → Pre w) (hr : ∀ v out, R v out → R' v out) : Meets P f args lent Pre' R' :=
  fun W hW => (h W (hp W hW)).mono fun e W' ⟨v, out, h1, h2, h3⟩ => ⟨v, out, h1, hr v out h2, h3⟩

structure Hid (p : Prop) : Prop where
  out : p

def Lies (bl : List Blk) (w : World) : Prop := ∀ b ∈ bl, BlkOk w b
theorem Lies.of {C : Cx} {hp bl : List Blk} {w : World} (h : HRep C hp w) (hb : ∀ b ∈ bl, b ∈ hp) : Lies bl w := fun b hb' => h.cells b (hb b hb')
theorem Lies.sub {bl bl' : List Blk} {w : World} (h : Lies bl w) (hb : ∀ b ∈ bl', b ∈ bl) : Lies bl' w := fun b hb' => h b (hb b hb')
theorem Lies.keep {bl : List Blk} {ex : List Nat} {w w' : World} (h : Lies bl w) (k : Keeps ex w w') (hn : ∀ b ∈ bl, b.n ∉ ex) : Lies bl w' := fun b hb => (h b hb).of_heap (k.block b.n (h b hb).lt (hn b hb))

def Acc (s : Sl) (bl : List Blk) (cells : List Value) (E : TypeId) (n size : Nat) : Prop :=
  (s = Sl.nil ∧ bl = [] ∧ cells = [] ∧ n = 0) ∨ ∃ q c, s = ⟨some ⟨q, 0, none⟩, n, c⟩ ∧ n ≤ c ∧ cells.length = n * size ∧ bl = [⟨q, cells, E, c * size⟩]
section
variable {s : Sl} {bl : List Blk} {cells : List Value} {E : TypeId} {n size : Nat}
theorem Acc.none : Acc Sl.nil [] [] E 0 size := .inl ⟨rfl, rfl, rfl, rfl⟩
theorem Acc.some {q c : Nat} (h : n ≤ c) (hl : cells.length = n * size) : Acc ⟨.some ⟨q, 0, .none⟩, n, c⟩ [⟨q, cells, E, c * size⟩] cells E n size := .inr ⟨q, c, rfl, h, hl, rfl⟩
theorem Acc.num (h : Acc s bl cells E n size) : s.n = n := by rcases h with ⟨rfl, _, _, rfl⟩ | ⟨q, c, rfl, _⟩ <;> rfl
theorem Acc.len (h : Acc s bl cells E n size) : cells.length = n * size := by rcases h with ⟨_, _, rfl, rfl⟩ | ⟨q, c, _, _, h, _⟩; simp; exact h
theorem Acc.cap (h : Acc s bl cells E n size) : s.n ≤ s.c := by rcases h with ⟨rfl, _⟩ | ⟨q, c, rfl, h, _⟩; exact Nat.le_refl _; exact h
theorem Acc.nil (h : Acc s bl cells E n size) (hp : s.p = .none) : s.n = 0 := by rcases h with ⟨rfl, _⟩ | ⟨q, c, rfl, _⟩; rfl; cases hp
theorem Acc.nilc (h : Acc s bl cells E n size) (hp : s.p = .none) : s.c = 0 := by rcases h with ⟨rfl, _⟩ | ⟨q, c, rfl, _⟩; rfl; cases hp
theorem Acc.see (h : Acc s bl cells E n size) {w : World} (hw : Lies bl w) : SeesP w s.p cells := by
  rcases h with ⟨_, _, rfl, _⟩ | ⟨q, c, rfl, _, _, rfl⟩
  · exact SeesP.nil
  · refine SeesP.of fun j v hj => ?_
    have := (hw _ (List.mem_singleton.2 rfl)).cell (o := 0 + j) (v := v) (by simpa using hj)
    simpa using this
end

section
variable {C : Cx} {ops : Array Oper} {rest : List (Nat × Oper)} {sl : List (Nat × Value)} {hp hp' : List Blk} {Q : St → Prop} {c d : Nat} {ty : TypeId} {pos : String} {af : Array Edge} {g : Option (Nat × Bool)}

theorem Tr.appendAcc {x y : Operand} {s : Sl} {bl : List Blk} {n m size by' c2 : Nat} {T tx E E2 : TypeId} {z : Value} {olds : List Value} {p : Option Addr} (news : List Value) (hg : Am ops sl g = true) (hc : Nat.beq c 4 = true) (hd : Nat.blt d C.N = true)
    (hx : Ah sl x = some s.v) (hy : Ah sl y = some (.slice p m c2)) (hu : C.P.underlying T = some (.slice E)) (hut : C.P.underlying tx = some (.slice E2)) (hs : Sz C.P E size) (hz : Zr C.P E z) (hb : By C.P E by') (hzc : z.cells.size = size)
    (hacc : Acc s bl olds E n size) (hp1 : hp.Perm (bl ++ hp')) (hsee : ∀ w, HRep C hp w → SeesP w p news) (hpn : p = none → m = 0) (hcell : ∀ u ∈ news, isCell u = true)
    (hbig : n + m ≤ 1000000) (hfit : (n + m) * by' ≤ 140737488355328) (hnl : news.length = m * size)
    (k : ∀ s' bl', Acc s' bl' (olds ++ news) E (n + m) size → Tr C ops rest ⟨(d, s'.v) :: sl, bl' ++ hp'⟩ Q) :
    Tr C ops ((c, ⟨some d, .call { callee := .builtin .append, args := #[x, y], argTypes := #[T, tx] }, ty, pos, af, g⟩) :: rest) ⟨sl, hp⟩ Q := by
  rcases hacc with ⟨rfl, rfl, rfl, rfl⟩ | ⟨q, cp, rfl, hnc, hol, rfl⟩
  · rw [List.nil_append] at hp1
    simp only [Nat.zero_add, List.nil_append] at k hbig hfit
    by_cases hm : m = 0
    · subst hm
      have hnil : news = [] := by simpa using hnl
      subst hnil
      refine Tr.act (ρ := Unit) (fun _ => True) (fun _ => .slice none 0 0) (fun _ => hp') (nbeq' hc) (A8 hg) (C6 (nblt hd)) ⟨by simpa [Known, Op.operands, Call.operands] using known2 hx hy, fun a w hf hh => ?_⟩ (fun _ _ => k Sl.nil [] Acc.none)
      have h1 := hf x (by simp [Op.operands, Call.operands]); rw [hx] at h1
      have h2 := hf y (by simp [Op.operands, Call.operands]); rw [hy] at h2
      simp only [Option.some.injEq, Sl.v, Sl.nil] at h1 h2
      have rs := Da hs
      unfold Oper.wp
      have hex : (execOp a.eval ⟨some d, .call { callee := .builtin .append, args := #[x, y], argTypes := #[T, tx] }, ty, pos, af, g⟩).run C.P w = .ok (.value (.slice none 0 0)) w := by
        cases p <;> simp [execOp, resolve, invoke, builtin, ← h1, ← h2, Builtin.append_, run_underlying hu, run_underlying hut, rs, Builtin.lenOf, Builtin.firstCells, loadCells, loadCellsFrom, storeCells]
      rw [hex]
      exact ⟨(), trivial, rfl, hh.perm hp1⟩
    · refine Tr.act (ρ := Nat × Nat) (fun r => m ≤ r.2) (fun r => .slice (some ⟨r.1, 0, none⟩) m r.2) (fun r => ⟨r.1, news, E, r.2 * size⟩ :: hp') (nbeq' hc) (A8 hg) (C6 (nblt hd))
        ⟨by simpa [Known, Op.operands, Call.operands] using known2 hx hy, fun a w hf hh => ?_⟩ (fun r hr => k ⟨some ⟨r.1, 0, none⟩, m, r.2⟩ _ (Acc.some hr hnl))
      have h1 := hf x (by simp [Op.operands, Call.operands]); rw [hx] at h1
      have h2 := hf y (by simp [Op.operands, Call.operands]); rw [hy] at h2
      simp only [Option.some.injEq, Sl.v, Sl.nil] at h1 h2
      have hsz := hs
      unfold Sz at hs; unfold Zr at hz; unfold By at hb
      cases hi : C.P.info? E with
      | none => rw [hi] at hs; simp at hs
      | some i =>
        rw [hi] at hs hz hb
        simp only [Option.map_some, Option.some.injEq, Option.bind_some] at hs hz hb
        subst hs
        have hS : Src C.P i.size tx (.slice p m c2) m news w := Src.ofP hut (hsee w hh) hpn hnl hcell
        have hrun := run_append_grow_src (P := C.P) w T tx ty E i z hu hi hz none 0 0 [] (by simp [Builtin.firstCells]) _ m news hS oM oM (growslice_fits oM (by rw [hb]; simpa using hfit))
        simp only [Nat.zero_add, List.nil_append] at hrun
        have hge := grownCap_ge w m 0 E
        unfold Oper.wp
        have hex : (execOp a.eval ⟨some d, .call { callee := .builtin .append, args := #[x, y], argTypes := #[T, tx] }, ty, pos, af, g⟩).run C.P w = .ok (.value (.slice (some ⟨w.heap.size, 0, none⟩) m (grownCap w m 0 E))) (w.drew.alloc (.cells (news.toArray ++ Builtin.zeroCells z.cells (grownCap w m 0 E - m)) E)) := by
          simp [execOp, resolve, invoke, builtin, ← h1, ← h2, hrun]
        rw [hex]
        refine ⟨(w.heap.size, grownCap w m 0 E), hge, rfl, ?_⟩
        have hret : Ret [] [⟨w.heap.size, news, E, grownCap w m 0 E * i.size⟩] w (w.drew.alloc (.cells (news.toArray ++ Builtin.zeroCells z.cells (grownCap w m 0 E - m)) E)) := Ret.pushD _ _ _ _ (by
          have e : grownCap w m 0 E * i.size = m * i.size + (grownCap w m 0 E - m) * i.size := by rw [← Nat.add_mul]; congr 1; omega
          simp [Builtin.zeroCells, hnl, hzc, e]) sP
        exact (hh.perm hp1).grown hret
  · refine Tr.appendSl (z := z) (by' := by') news hg hc hd hx hy hu hut hs hz hb hzc hsee hpn hcell hp1 rfl hol hnc hbig hfit hnl (fun q' c' hq => ?_)
    exact k ⟨some ⟨q', 0, none⟩, n + m, c'⟩ _ (Acc.some hq (by rw [List.length_append, hol, hnl, Nat.add_mul]))

theorem Tr.copyP {x y : Operand} {b o n cap1 m2 c2 : Nat} {p : Option Addr} {cs vs cs' : List Value} {BT T T2 E : TypeId} {m : Nat} (src : List Value) (k0 : Nat) (hg : Am ops sl g = true) (hc : Nat.beq c 4 = true) (hd : Nat.blt d C.N = true)
    (hx : Ah sl x = some (.slice (some ⟨b, o, none⟩) n cap1)) (hy : Ah sl y = some (.slice p m2 c2)) (hu : C.P.underlying T = some (.slice E)) (hs : Sz C.P E 1)
    (hsee : ∀ w, HRep C hp w → SeesP w p src) (hpn : p = none → m2 = 0) (hsl : src.length = m2) (hk0 : min n m2 = k0) (hvs : src.take k0 = vs) (hcell : ∀ u ∈ src, isCell u = true) (hb : (⟨b, cs, BT, m⟩ : Blk) ∈ hp) (hl : o + k0 ≤ cs.length) (hcs : upd cs o vs = cs') (hup : Upd hp b cs BT m cs' hp')
    (k : Tr C ops rest ⟨(d, i64 (k0 : Int)) :: sl, hp'⟩ Q) : Tr C ops ((c, ⟨some d, .call { callee := .builtin .copy, args := #[x, y], argTypes := #[T, T2] }, ty, pos, af, g⟩) :: rest) ⟨sl, hp⟩ Q := by
  refine Tr.act (ρ := Unit) (fun _ => True) (fun _ => i64 (k0 : Int)) (fun _ => hp') (nbeq' hc) (A8 hg) (C6 (nblt hd)) ⟨by simpa [Known, Op.operands, Call.operands] using known2 hx hy, fun a w hf hh => ?_⟩ (fun _ _ => k)
  have h1 := hf x (by simp [Op.operands, Call.operands]); rw [hx] at h1
  have h2 := hf y (by simp [Op.operands, Call.operands]); rw [hy] at h2
  simp only [Option.some.injEq] at h1 h2
  have hvl : vs.length = k0 := by rw [← hvs, List.length_take, hsl]; omega
  obtain ⟨full, fr, hbk⟩ := hh.cells _ hup.mem
  have hpl := hbk.pre.length_le
  simp only [Array.length_toList] at hpl
  have hlt := (hh.cells _ hup.mem).lt
  have hfc : (Builtin.firstCells 1 k0 (.slice p m2 c2)).run C.P w = .ok vs.toArray w := by
    cases p with
    | none =>
      have := hpn rfl
      subst this
      have : vs = [] := List.eq_nil_of_length_eq_zero oM
      subst this
      simp [Builtin.firstCells, ← hk0, loadCells, loadCellsFrom]
    | some ad =>
      refine run_firstCells_some w 1 k0 ad m2 c2 vs (by rw [hvl, Nat.mul_one]) fun j v hj => ?_
      have hj' : src[j]? = some v := by
        rw [← hvs, List.getElem?_take] at hj
        split at hj
        · exact hj
        · cases hj
      obtain ⟨b2, o2, e, hcc⟩ := hsee w hh j v hj'
      simp only [Option.some.injEq] at e
      subst e
      rw [B3]; exact hcc
  have hk1 : m2.min n = k0 := by rw [← hk0]; exact Nat.min_comm m2 n
  have hst := run_storeCells (P := C.P) (b := b) (o := o) vs 0 w full hbk.heap oM (by rw [hbk.size]; exact hbk.free) (fun u hu => hcell u (by rw [← hvs] at hu; exact List.mem_of_mem_take hu))
  have hrun : (execOp a.eval ⟨some d, .call { callee := .builtin .copy, args := #[x, y], argTypes := #[T, T2] }, ty, pos, af, g⟩).run C.P w = .ok (.value (i64 (k0 : Int))) (setBlk w b (C8 full o vs) BT fr) := by
    simp [execOp, resolve, invoke, builtin, Builtin.copy_, ← h1, ← h2, run_underlying hu, Builtin.lenOf, Da hs, hk1, hfc, hst, goInt]
  unfold Oper.wp
  rw [hrun]
  refine ⟨(), trivial, rfl, hh.upd hup hlt (by rw [putAll_size]; exact hbk.size) ?_ hbk.free⟩
  rw [← hcs]
  exact upd_pre hbk.pre (by rw [hvl]; exact hl)

theorem Tr.nd {l : List (Nat × Oper)} {s : St} (h : (s.hp.map (·.n)).Nodup → Tr C ops l s Q) : Tr C ops l s Q := by
  by_cases hn : (s.hp.map (·.n)).Nodup
  · exact h hn
  · exact .dup hn

variable {f : Operand} {fid : FuncId} {ars : List Operand} {ats : Array TypeId} {vs us : List Value} {fst cap : Array Value}
theorem Tr.call4 {Pre : World → Prop} {R : Value → List Blk → Prop} (hg : Am ops sl g = true) (hk : Nat.beq c 4 = true) (hd : Nat.blt d C.N = true) (hfn : Ah sl f = some (.func (.func fid) #[] #[])) (hargs : evs sl ars = some vs) (hb : Ay C.P fid)
    (hc : Meets C.P fid vs [] Pre R) (hpre : ∀ w, HRep C hp w → Pre w)
    (k : ∀ v out, R v out → Tr C ops rest ⟨(d, v) :: sl, out ++ hp⟩ Q) : Tr C ops ((c, ⟨some d, .call ⟨.value f, ars.toArray, ats⟩, ty, pos, af, g⟩) :: rest) ⟨sl, hp⟩ Q := by
  refine Tr.act (ρ := Value × List Blk) (fun r => R r.1 r.2) (·.1) (fun r => r.2 ++ hp) (nbeq' hk) (A8 hg) (C6 (nblt hd)) ⟨known_call hfn hargs, fun a w hf hh => ?_⟩ (fun r hr => k r.1 r.2 hr)
  unfold Oper.wp
  rw [run_call hfn hargs hf, hb]
  refine (hc w (hpre w hh)).mono fun e w' ⟨v, out, he, hR, hret⟩ => ?_
  subst he
  exact ⟨(v, out), hR, rfl, hh.grown hret⟩
end
end Hw
end

section
namespace Go.Proofs.YtpacobmjjjillaaGreat
open Go Hw

def BB (b : Nat) (X : Block) : Blk := ⟨b, X.cells, 53, 131⟩
theorem rd_DigestE (n q N cp a : Nat) (e : Int) (xs : List UInt8) (hx : xs.length = N) (hat : a ≤ N) (hN : N ≤ cp) (hbig : N ≤ 1000000) (l : List UInt8) (a1 : Nat) (e1 : Int) (h : digR xs a e = (l, a1, e1)) : Meets Tryz.prog 71 [ptr n 0] [n] (fun W => BlkOk W (RB n q N cp a e) ∧ Cc W q 0 (Aa xs) ∧ q ≠ n)
    (fun v out => v = agg (Aa l) ∧ out = [RB n q N cp a1 e1]) := by
  have := rd_Digest n q N cp a e xs hx hat hN hbig
  rw [h] at this
  exact this
theorem rd_NumberE (n q N cp a : Nat) (e : Int) (xs : List UInt8) (hx : xs.length = N) (hat : a ≤ N) (hN : N ≤ cp) (hbig : N ≤ 1000000) (l : UInt64) (a1 : Nat) (e1 : Int) (h : Cb xs a e = (l, a1, e1)) : Meets Tryz.prog 70 [ptr n 0] [n] (fun W => BlkOk W (RB n q N cp a e) ∧ Cc W q 0 (Aa xs) ∧ q ≠ n)
    (fun v out => v = u64 l ∧ out = [RB n q N cp a1 e1]) := by
  have := rd_Number n q N cp a e xs hx hat hN hbig
  rw [h] at this
  exact this
theorem digE_le {xs l : List UInt8} {a a1 N : Nat} {e e1 : Int} (h : digR xs a e = (l, a1, e1)) (hx : xs.length = N) (hat : a ≤ N) : a1 ≤ N ∧ l.length = 32 := by
  have := digR_at xs a e oM
  rw [h] at this
  exact ⟨by have := this.1; simp only at this; omega, this.2⟩
theorem numE_le {xs : List UInt8} {l : UInt64} {a a1 N : Nat} {e e1 : Int} (h : Cb xs a e = (l, a1, e1)) (hx : xs.length = N) (hat : a ≤ N) : a1 ≤ N := by
  have := numR_at xs a e oM
  rw [h] at this
  simp only at this; omega

theorem opt_head (b c n q N cp at' : Nat) (e : Int) (X : Block) (hX : X.ok) (xs : List UInt8) (hx : xs.length = N) (hat : at' ≤ N) (hN : N ≤ cp) (hbig : N ≤ 90000) (hbn : b ≠ n) (hcb : c ≠ b) (hcn : c ≠ n) (hqb : q ≠ b) (hqn : q ≠ n) (l1 : List UInt8) (a1 : Nat) (e1 : Int) (x2 : UInt64) (a2 : Nat) (e2 : Int) (l3 : List UInt8) (a3 : Nat) (e3 : Int) (h1 : digR xs at' e = (l1, a1, e1)) (h2 : Cb xs a1 e1 = (x2, a2, e2)) (h3 : digR xs a2 e2 = (l3, a3, e3)) : Meets Tryz.prog 154 [ptr b 0, ptr c 0] [b, n] (fun W => BlkOk W (BB b X) ∧ BlkOk W (RB n q N cp at' e) ∧ W.cell? ⟨c, 0, none⟩ = some (ptr n 0) ∧ Cc W q 0 (Aa xs)) (fun v out => v = .tuple #[] ∧ out = [BB b ({ X with fWriter := l1, fSeq := x2, fPrev := l3 } : Block), RB n q N cp a3 e3]) := by
 intro W hW
 have hd1 := digE_le h1 hx hat
 have hd2 := numE_le h2 hx hd1.1
 have hd3 := digE_le h3 hx hd2
 have ok1 : ({ X with fWriter := l1 } : Block).ok := ⟨hd1.2, hX.l_fPrev, hX.l_fSig⟩
 have ok2 : ({ X with fWriter := l1, fSeq := x2 } : Block).ok := ⟨hd1.2, hX.l_fPrev, hX.l_fSig⟩
 refine Ba (hp0 := [BB b X, RB n q N cp at' e]) Tryz.func154 J 18 Tryz.ntmps154 J (HRep.two hW.1 hW.2.1 hbn) (.sr (.m J J J (.loadE J J J Y84 J (by (simp; omega)) (hW.2.2.1) ?_)))
 refine .callL (L := [RB n q N cp (at') (e)]) J J J J J Body71 (rd_DigestE n q N cp at' e xs hx hat hN oM l1 a1 e1 h1) (rem_there Az) (Bp J) (fun w h => ⟨Av h Z1, Ci h (by simp; omega) hW.2.2.2, hqn⟩) ?_
 rintro v2 out2 ⟨rfl, rfl⟩
 refine .nC J J J (.fld J J J Y53 J Sz25 dE _ J (.storeN (Aa _) J J J J J zE Sz25 (by simp [hd1.2]) Z1 (by rw [Block.length zA]; simp [hd1.2]) (Block.upd_fWriter zA _ (by simp [hd1.2])) zV ?_))
 refine .nsr (.m J J J (.loadE J J J Y84 J (by (simp; omega)) (hW.2.2.1) ?_))
 refine .callL (L := [RB n q N cp (a1) (e1)]) J J J J J Body70 (rd_NumberE n q N cp a1 e1 xs hx hd1.1 hN oM x2 a2 e2 h2) Az (Bp J) (fun w h => ⟨Av h Z0, Ci h (by simp; omega) hW.2.2.2, hqn⟩) ?_
 rintro v2 out2 ⟨rfl, rfl⟩
 refine .nC J J J (.fld J J J Y53 J Ap dE _ J (.s1 J J J J J Ap Z1 (by rw [Block.length zA]; decide) (Block.set_fSeq zA _) zV ?_))
 refine .na (.region (.m J J J (.loadE J J J Y84 J (by (simp; omega)) (hW.2.2.1) ?_)))
 refine .callL (L := [RB n q N cp (a2) (e2)]) J J J J J Body71 (rd_DigestE n q N cp a2 e2 xs hx hd2 hN oM l3 a3 e3 h3) Az (Bp J) (fun w h => ⟨Av h Z0, Ci h (by simp; omega) hW.2.2.2, hqn⟩) ?_
 rintro v2 out2 ⟨rfl, rfl⟩
 refine .nC J J J (.fld J J J Y53 J Bm dE _ J (.storeN (Aa _) J J J J J zE Bm (by simp [hd3.2]) Z1 (by rw [Block.length zA]; simp [hd3.2]) (Block.upd_fPrev zA _ (by simp [hd3.2])) zV ?_))
 refine .nil (en_n (Be (out := (BB b ({ X with fWriter := l1, fSeq := x2, fPrev := l3 } : Block) :: (RB n q N cp a3 e3 :: []))) (res_none J) (Ai rM (Ai rM Au)) ?_))
 exact ⟨rfl, rfl⟩

def takR (xs : List UInt8) (m a : Nat) (e : Int) : List UInt8 × Nat × Int :=
  if ¬ e = 0 then ([], a, e) else if xs.length < a + m then ([], a, 5) else ((xs.drop a).take m, a + m, 0)
theorem rd_TakeE (n q N cp a : Nat) (e : Int) (m : Nat) (hm0 : 0 < m) (hm : m ≤ 90000) (xs : List UInt8) (hx : xs.length = N) (hat : a ≤ N) (hN : N ≤ cp) (hbig : N ≤ 90000) (l : List UInt8) (a1 : Nat) (e1 : Int) (h : takR xs m a e = (l, a1, e1)) : Meets Tryz.prog 72 [ptr n 0, i64 (m : Int)] [n] (fun W => BlkOk W (RB n q N cp a e) ∧ Cc W q 0 (Aa xs) ∧ q ≠ n)
    (fun v out => ∃ s bl, v = s.v ∧ Acc s bl (Aa l) 5 l.length 1 ∧ out = bl ++ [RB n q N cp a1 e1]) := by
  unfold takR at h
  by_cases he : e = 0
  · subst he
    rw [if_neg sP] at h
    by_cases h1 : xs.length < a + m
    · rw [if_pos h1] at h
      obtain ⟨rfl, rfl, rfl⟩ : [] = l ∧ a = a1 ∧ (5 : Int) = e1 := by simpa using h
      exact (rd_take64_more n q N cp a m hm0 hm xs hx hat hN oM oM).imp (fun w h => h) fun v out ⟨h1, h2⟩ => ⟨Sl.nil, [], h1, Acc.none, h2⟩
    · rw [if_neg h1] at h
      obtain ⟨rfl, rfl, rfl⟩ : (xs.drop a).take m = l ∧ a + m = a1 ∧ (0 : Int) = e1 := by simpa using h
      refine (rd_take64_ok n q N cp a m hm0 hm xs hx hat hN oM oM hbig).imp (fun w h => h) fun v out ⟨q1, c1, h1, h2, h3⟩ => ?_
      have hl : ((xs.drop a).take m).length = m := by simp; omega
      refine ⟨⟨some ⟨q1, 0, none⟩, m, c1⟩, [_], h1, ?_, h3⟩
      rw [hl]
      exact Acc.some h2 (by simp [hl]; omega)
  · rw [if_pos he] at h
    obtain ⟨rfl, rfl, rfl⟩ : [] = l ∧ a = a1 ∧ e = e1 := by simpa using h
    exact (rd_take64_err n q N cp a e m hm0 hm xs hx hat hN oM he).imp (fun w h => h) fun v out ⟨h1, h2⟩ => ⟨Sl.nil, [], h1, Acc.none, h2⟩
theorem takE_le {xs l : List UInt8} {a a1 m N : Nat} {e e1 : Int} (h : takR xs m a e = (l, a1, e1)) (hx : xs.length = N) (hat : a ≤ N) : a1 ≤ N ∧ (l = [] ∨ l.length = m) := by
  unfold takR at h
  split at h
  · obtain ⟨rfl, rfl, rfl⟩ : [] = l ∧ a = a1 ∧ e = e1 := by simpa using h
    exact ⟨hat, .inl rfl⟩
  split at h
  · obtain ⟨rfl, rfl, rfl⟩ : [] = l ∧ a = a1 ∧ (5 : Int) = e1 := by simpa using h
    exact ⟨hat, .inl rfl⟩
  · obtain ⟨rfl, rfl, rfl⟩ : (xs.drop a).take m = l ∧ a + m = a1 ∧ (0 : Int) = e1 := by simpa using h
    exact ⟨by omega, .inr (by simp; omega)⟩
theorem rd_BlockE (n q N cp a : Nat) (e : Int) (xs : List UInt8) (hx : xs.length = N) (hat : a ≤ N) (hN : N ≤ cp) (hbig : N ≤ 90000) (o : Option (List UInt8)) (a1 : Nat) (e1 : Int) (h : blkR xs a e = (o, a1, e1)) : Meets Tryz.prog 157 [ptr n 0] [n] (fun W => BlkOk W (RB n q N cp a e) ∧ Cc W q 0 (Aa xs) ∧ q ≠ n)
    (fun v out => ∃ s bl, v = s.v ∧ Acc s bl (Aa (o.getD [])) 5 (o.getD []).length 1 ∧ out = bl ++ [RB n q N cp a1 e1]) := by
  unfold blkR at h
  by_cases he : (Cb xs a e).2.2 = 0
  · rw [if_neg (by simp [he])] at h
    by_cases h1 : xs.length < (Cb xs a e).2.1 + (Cb xs a e).1.toNat
    · rw [if_pos h1] at h
      obtain ⟨rfl, rfl, rfl⟩ : none = o ∧ a = a1 ∧ (5 : Int) = e1 := by simpa using h
      exact (rd_blk_more n q N cp a e xs hx hat hN oM he oM hbig).imp (fun w h => h) fun v out ⟨h1, h2⟩ => ⟨Sl.nil, [], h1, Acc.none, h2⟩
    · rw [if_neg h1] at h
      obtain ⟨rfl, rfl, rfl⟩ : some ((xs.drop (Cb xs a e).2.1).take (Cb xs a e).1.toNat) = o ∧ (Cb xs a e).2.1 + (Cb xs a e).1.toNat = a1 ∧ (0 : Int) = e1 := by simpa using h
      refine (rd_blk_ok n q N cp a e xs hx hat hN oM he oM hbig).imp (fun w h => h) fun v out ⟨q1, c1, h1, h2, h3⟩ => ?_
      have hl : ((xs.drop (Cb xs a e).2.1).take (Cb xs a e).1.toNat).length = (Cb xs a e).1.toNat := by simp; omega
      refine ⟨⟨some ⟨q1, 0, none⟩, (Cb xs a e).1.toNat, c1⟩, [_], h1, ?_, h3⟩
      simp only [Option.getD_some]
      rw [hl]
      exact Acc.some h2 (by simp only [Aa, List.length_map, hl]; omega)
  · rw [if_pos he] at h
    obtain ⟨rfl, rfl, rfl⟩ : none = o ∧ a = a1 ∧ (Cb xs a e).2.2 = e1 := by simpa using h
    exact (rd_blk_err n q N cp a e xs hx hat hN oM he hbig).imp (fun w h => h) fun v out ⟨h1, h2⟩ => ⟨Sl.nil, [], h1, Acc.none, h2⟩
theorem blkE_le {xs : List UInt8} {o : Option (List UInt8)} {a a1 N : Nat} {e e1 : Int} (h : blkR xs a e = (o, a1, e1)) (hx : xs.length = N) (hat : a ≤ N) : a1 ≤ N ∧ (o.getD []).length ≤ N := by
  unfold blkR at h
  split at h
  · obtain ⟨rfl, rfl, rfl⟩ : none = o ∧ a = a1 ∧ (Cb xs a e).2.2 = e1 := by simpa using h
    exact ⟨hat, by simp⟩
  split at h
  · obtain ⟨rfl, rfl, rfl⟩ : none = o ∧ a = a1 ∧ (5 : Int) = e1 := by simpa using h
    exact ⟨hat, by simp⟩
  · obtain ⟨rfl, rfl, rfl⟩ : some ((xs.drop (Cb xs a e).2.1).take (Cb xs a e).1.toNat) = o ∧ (Cb xs a e).2.1 + (Cb xs a e).1.toNat = a1 ∧ (0 : Int) = e1 := by simpa using h
    exact ⟨by omega, by simp; omega⟩
def Ch (xs : List UInt8) : Nat → Nat → Int → List (List UInt8) × Nat × Int
  | 0, a, e => ([], a, e)
  | j + 1, a, e => ((Ch xs j a e).1 ++ [(digR xs (Ch xs j a e).2.1 (Ch xs j a e).2.2).1], (digR xs (Ch xs j a e).2.1 (Ch xs j a e).2.2).2)
theorem digsR_succ {xs l : List UInt8} {j a a1 : Nat} {e e1 : Int} (h : digR xs (Ch xs j a e).2.1 (Ch xs j a e).2.2 = (l, a1, e1)) : Ch xs (j + 1) a e = ((Ch xs j a e).1 ++ [l], a1, e1) := by rw [Ch, h]
theorem digsR_at {xs : List UInt8} {a N : Nat} {e : Int} (hx : xs.length = N) (hat : a ≤ N) : ∀ j, (Ch xs j a e).2.1 ≤ N ∧ (∀ l ∈ (Ch xs j a e).1, l.length = 32) ∧ (Ch xs j a e).1.length = j
  | 0 => ⟨hat, fun l hl => by simp [Ch] at hl, rfl⟩
  | j + 1 => by
    obtain ⟨h1, h2, h3⟩ := digsR_at (e := e) hx hat j
    have h4 := digR_at xs (Ch xs j a e).2.1 (Ch xs j a e).2.2 oM
    refine ⟨by simp only [Ch]; omega, fun l hl => ?_, by simp [Ch, h3]⟩
    simp only [Ch, List.mem_append, List.mem_singleton] at hl
    rcases hl with hl | rfl
    · exact h2 l hl
    · exact h4.2
theorem ofNat_step (j : Nat) : UInt64.ofNat j + 1 = UInt64.ofNat (j + 1) := by rw [UInt64.ofNat_add]; rfl

theorem opt_links (b c n q N cp at' : Nat) (e : Int) (X : Block) (hX : X.ok) (xs : List UInt8) (hx : xs.length = N) (hat : at' ≤ N) (hN : N ≤ cp) (hbig : N ≤ 90000) (hbn : b ≠ n) (hcb : c ≠ b) (hcn : c ≠ n) (hqb : q ≠ b) (hqn : q ≠ n) (hXl : X.fLinks = Sl.nil) (x1 : UInt64) (a1 : Nat) (e1 : Int) (h1 : Cb xs at' e = (x1, a1, e1)) : Meets Tryz.prog 155 [ptr b 0, ptr c 0] [b, n] (fun W => BlkOk W (BB b X) ∧ BlkOk W (RB n q N cp at' e) ∧ W.cell? ⟨c, 0, none⟩ = some (ptr n 0) ∧ Cc W q 0 (Aa xs)) (fun v out => ∃ s bl, v = .tuple #[] ∧ Acc s bl (Bv (Ch xs (min x1.toNat 17) a1 e1).1) 24 (min x1.toNat 17) 32 ∧ out = RB n q N cp (Ch xs (min x1.toNat 17) a1 e1).2.1 (Ch xs (min x1.toNat 17) a1 e1).2.2 :: BB b ({ X with fLinks := s } : Block) :: bl) := by
 intro W hW
 have ha1 := numE_le h1 hx hat
 have okL : ∀ s : Sl, ({ X with fLinks := s } : Block).ok := fun s => ⟨hX.l_fWriter, hX.l_fPrev, hX.l_fSig⟩
 refine Ba (hp0 := [BB b X, RB n q N cp at' e]) Tryz.func155 J 20 Tryz.ntmps155 J (HRep.two hW.1 hW.2.1 hbn) (.sr (.loadE J J J Y84 J (by (simp; omega)) (hW.2.2.1) ?_))
 refine .callL (L := [RB n q N cp (at') (e)]) J J J J J Body70 (rd_NumberE n q N cp at' e xs hx hat hN oM x1 a1 e1 h1) (rem_there Az) (Bp J) (fun w h => ⟨Av h Z1, Ci h (by simp; omega) hW.2.2.2, hqn⟩) ?_
 rintro v2 out2 ⟨rfl, rfl⟩
 refine .min2 J J J J (show Value.int .u64 (if (17 : Int) < (x1.toNat : Int) then 17 else (x1.toNat : Int)) = .int .u64 ((min x1.toNat 17 : Nat) : Int) from by congr 1; split <;> omega) ?_
 refine .m J J J (.na (.block (.loop (ι := Nat × Sl × List Blk) (fun p => ⟨[(0, ptr b 0), (1, ptr c 0), (5, .int .u64 ((min x1.toNat 17 : Nat) : Int)), (6, u64 (UInt64.ofNat p.1))], (RB n q N cp (Ch xs p.1 a1 e1).2.1 (Ch xs p.1 a1 e1).2.2 :: (BB b ({ X with fLinks := p.2.1 } : Block) :: (p.2.2 ++ [])))⟩) (fun p => p.1 ≤ min x1.toNat 17 ∧ Acc p.2.1 p.2.2 (Bv (Ch xs p.1 a1 e1).1) 24 p.1 32) (fun p => min x1.toNat 17 - p.1) ((0, Sl.nil, [])) ?_ ?_ ?_)))
 · exact ⟨Nat.zero_le _, Acc.none⟩
 · exact Bh (wk1 rfl (wk1 rfl (wk1 rfl (wk1 rfl wk0)))) (Ai rM (pm_consE rM (by rw [← hXl]) rfl (pm_none Au)))
 ·
  rintro p ⟨hp1, hac⟩
  have hD := digsR_at (e := e1) hx ha1 p.1
  obtain ⟨l2, r2, hd⟩ : ∃ l r, digR xs (Ch xs p.1 a1 e1).2.1 (Ch xs p.1 a1 e1).2.2 = (l, r) := ⟨_, _, rfl⟩
  obtain ⟨a2, e2⟩ := r2
  have hdl := digE_le hd hx hD.1
  have hs := digsR_succ hd
  have hj64 : (UInt64.ofNat p.1).toNat = p.1 := ofNat_nat oM
  refine .sr (.lss J J J J J (.na (.seq (.condP J (fun hc0 => ?_) (fun hc0 => ?_)))))
  ·
   have hp3 : p.1 < min x1.toNat 17 := by omega
   refine .skip (Ae (.seq (.block (.drawK (sp_v (sp_k (sp_x sp_n))) J [(0, 0), (0, 1), (0, 2), (0, 3), (0, 4), (0, 5), (4, 6), (4, 7), (4, 8), (0, 9), (0, 10)] [(4, 11)] Ar zK zK (.m J J J (.m J J J (.nC J J J (.fld J J J Y53 J Sz51 dE _ J (.kload1 J J J Y51 J Z0 (by exact Block.get_fLinks (by exact okL _)) ?_)))))))))
   refine .kloadE J J J Y84 J (by (simp [Cx.with]; omega)) (hW.2.2.1) ?_
   refine .callL (L := [RB n q N cp ((Ch xs p.1 a1 e1).2.1) ((Ch xs p.1 a1 e1).2.2)]) J J J J J Body71 (rd_DigestE n q N cp (Ch xs p.1 a1 e1).2.1 (Ch xs p.1 a1 e1).2.2 xs hx hD.1 hN oM l2 a2 e2 hd) Az (Bp J) (fun w h => ⟨Av h Z0, Ci h (by simp [Cx.with]; omega) hW.2.2.2, hqn⟩) ?_
   rintro v2 out2 ⟨rfl, rfl⟩
   refine .mkRow (z := agg (Aa (List.replicate 32 0))) [agg (Aa l2)] (Aa l2) J J J Y51 Bm Zr24 J J (by intro v hv; rw [List.mem_singleton.1 hv]; simp [Value.cells, hdl.2]) dE (by simp [Value.cells]) ?_
   intro q7
   refine .appendAcc (z := agg (Aa (List.replicate 32 0))) (by' := 32) (Aa l2) J J J J J Y51 Y51 Bm Zr24 (by unfold By; kernel_rfl) J hac sG (fun w h => SeesP.of (Ak h Z0)) (fun e => by cases e) (Aw _) oM oM (by simp [Aa, hdl.2]) ?_
   intro s8 bl8 hac8
   refine .nC J J J (.fld J J J Y53 J Sz51 dE _ J (.nil (.s1 J J J J J Sz51 Z0 (by rw [Block.length (by exact okL _)]; decide) (by exact Block.set_fLinks (by exact okL _) _) zU ?_)))
   refine .nil (Bj (Ae (.region (.add_u64 J J J (show Ah _ _ = some (u64 1) from rfl) (.m J J J (.na ?_))))))
   refine ⟨(p.1 + 1, s8, bl8), ⟨by simp only []; omega, ?_⟩, by simp only []; omega, Bh (wk1 J (wk1 J (wk1 J (wk1 (congrArg (fun z => some (u64 z)) (ofNat_step _)) wk0)))) (pm_consE rM (by simp only [hs]) J (Ai rM (B6 sG Au)))⟩
   simp only [hs]
   rw [flatB_append]
   simpa [Bv] using hac8
  ·
   have hp3 : p.1 = min x1.toNat 17 := by omega
   refine .exit (A1 (A1 (B5 (en_n (Be (out := (RB n q N cp (Ch xs p.1 a1 e1).2.1 (Ch xs p.1 a1 e1).2.2 :: (BB b ({ X with fLinks := p.2.1 } : Block) :: (p.2.2 ++ [])))) (res_none J) (Ai rM (Ai rM (B6 sG Au))) ?_)))))
   rw [← hp3]; exact ⟨p.2.1, p.2.2, rfl, hac, by simp⟩

theorem upd_nil (cs : List Value) (o : Nat) : upd cs o [] = cs := by simp [upd]
theorem upd_sig {X : Block} (h : X.ok) {l : List UInt8} (hl : l = [] ∨ l.length = 64) : upd X.cells 67 (Aa l) = ({ X with fSig := l ++ X.fSig.drop l.length } : Block).cells := by
  rcases hl with rfl | hl
  · exact upd_nil _ _
  · rw [Block.upd_fSig h l hl, hl, List.drop_of_length_le (by rw [h.l_fSig]; exact Nat.le_refl _), List.append_nil]

theorem opt_tail (b c n q N cp at' : Nat) (e : Int) (X : Block) (hX : X.ok) (xs : List UInt8) (hx : xs.length = N) (hat : at' ≤ N) (hN : N ≤ cp) (hbig : N ≤ 90000) (hbn : b ≠ n) (hcb : c ≠ b) (hcn : c ≠ n) (hqb : q ≠ b) (hqn : q ≠ n) (o : Option (List UInt8)) (a1 : Nat) (e1 : Int) (l : List UInt8) (a2 : Nat) (e2 : Int) (h1 : blkR xs at' e = (o, a1, e1)) (h2 : takR xs 64 a1 e1 = (l, a2, e2)) : Meets Tryz.prog 156 [ptr b 0, ptr c 0] [b, n] (fun W => BlkOk W (BB b X) ∧ BlkOk W (RB n q N cp at' e) ∧ W.cell? ⟨c, 0, none⟩ = some (ptr n 0) ∧ Cc W q 0 (Aa xs)) (fun v out => ∃ s2 bl, v = .tuple #[] ∧ Acc s2 bl (Aa (o.getD [])) 5 (o.getD []).length 1 ∧ out = RB n q N cp a2 e2 :: BB b ({ X with fData := s2, fSig := l ++ X.fSig.drop l.length } : Block) :: bl) := by
 intro W hW
 have hb1 := blkE_le h1 hx hat
 have ht1 := takE_le h2 hx hb1.1
 have okD : ∀ s : Sl, ({ X with fData := s } : Block).ok := fun s => ⟨hX.l_fWriter, hX.l_fPrev, hX.l_fSig⟩
 have hlen : l.length ≤ 64 := by rcases ht1.2 with h | h <;> simp [h]
 refine Ba (hp0 := [BB b X, RB n q N cp at' e]) Tryz.func156 J 15 Tryz.ntmps156 J (HRep.two hW.1 hW.2.1 hbn) (.sr (.m J J J (.loadE J J J Y84 J (by (simp; omega)) (hW.2.2.1) ?_)))
 refine .callL (L := [RB n q N cp (at') (e)]) J J J J J Body157 (rd_BlockE n q N cp at' e xs hx hat hN hbig o a1 e1 h1) (rem_there Az) (Bp J) (fun w h => ⟨Av h Z1, Ci h (by simp; omega) hW.2.2.2, hqn⟩) ?_
 rintro v2 out2 ⟨s2, bl2, rfl, hac2, rfl⟩
 simp only [List.append_assoc, List.cons_append, List.nil_append]
 refine .nC J J J (.fld J J J Y53 J Co dE _ J (.s1 J J J J J Co mR (by rw [Block.length zA]; decide) (by exact Block.set_fData zA _) uU ?_))
 refine .na (.draw [(0, 0), (0, 1), (0, 2), (0, 3), (1, 4), (4, 5), (4, 6)] Ar zK (.m J J J (.nC J J J (.fld J J J Y53 J Sz27 dE _ J (.sliceArr J J J Y27 Sz5 (.loadE J J J Y84 J (by (simp; omega)) (hW.2.2.1) ?_))))))
 refine .callL (L := [RB n q N cp (a1) (e1)]) J J J J J Body72 (rd_TakeE n q N cp a1 e1 64 dE dE xs hx hb1.1 hN hbig l a2 e2 h2) (by repeat (first | exact Az | apply rem_seg)) (Bp J) (fun w h => ⟨Av h mR, Ci h (by simp; omega) hW.2.2.2, hqn⟩) ?_
 rintro v3 out3 ⟨s3, bl3, rfl, hac3, rfl⟩
 simp only [List.append_assoc, List.cons_append, List.nil_append]
 refine .copyP (Aa l) l.length J J J J J Y39 Sz5 (fun w h => hac3.see (Lies.of h (by repeat (exact Bt)))) (fun e => hac3.nil e) (by simp [Aa, hac3.num]) (by rw [hac3.num]; omega) (List.take_of_length_le (by simp [Aa])) (Aw _) mR (by rw [Block.length (okD _)]; show 67 + l.length ≤ 131; omega) (upd_sig (okD _) ht1.2) uU ?_
 refine .nil (en_n (Be (out := (RB n q N cp a2 e2 :: (BB b ({ X with fData := s2, fSig := l ++ X.fSig.drop l.length } : Block) :: (bl2 ++ [])))) (res_none J) (Ai (by repeat (first | exact Az | apply rem_seg)) (Ai (by repeat (first | exact Az | apply rem_seg)) (B6 (by repeat (first | exact sg_here | apply sg_seg)) Au))) ?_))
 exact ⟨s2, bl2, rfl, hac2, by simp⟩

theorem mk_head (n : Nat) : Meets Tryz.prog 94 [ptr n 0] [] (fun _ => True) (fun v out => ∃ c, v = .func (.func 154) #[] #[ptr c 0] ∧ out = [⟨c, [ptr n 0], 84, 1⟩]) := by
 intro W hW
 refine Ab Tryz.func94 J 4 Tryz.ntmps94 J (.sr (.box1 J J J ?_))
 intro n1 hn1 hf1
 refine .a J J J (.nsr (.makeFunc J J J J (.a J J J (.na (.ret (An (Be (out := (⟨n1, [ptr n 0], 84, 1⟩ :: [])) (Ag J J) (Ai rM Au) ?_)))))))
 exact ⟨n1, rfl, by simp⟩

theorem mk_links (n : Nat) : Meets Tryz.prog 95 [ptr n 0] [] (fun _ => True) (fun v out => ∃ c, v = .func (.func 155) #[] #[ptr c 0] ∧ out = [⟨c, [ptr n 0], 84, 1⟩]) := by
 intro W hW
 refine Ab Tryz.func95 J 4 Tryz.ntmps95 J (.sr (.box1 J J J ?_))
 intro n1 hn1 hf1
 refine .a J J J (.nsr (.makeFunc J J J J (.a J J J (.na (.ret (An (Be (out := (⟨n1, [ptr n 0], 84, 1⟩ :: [])) (Ag J J) (Ai rM Au) ?_)))))))
 exact ⟨n1, rfl, by simp⟩

theorem mk_tail (n : Nat) : Meets Tryz.prog 96 [ptr n 0] [] (fun _ => True) (fun v out => ∃ c, v = .func (.func 156) #[] #[ptr c 0] ∧ out = [⟨c, [ptr n 0], 84, 1⟩]) := by
 intro W hW
 refine Ab Tryz.func96 J 4 Tryz.ntmps96 J (.sr (.box1 J J J ?_))
 intro n1 hn1 hf1
 refine .a J J J (.nsr (.makeFunc J J J J (.a J J J (.na (.ret (An (Be (out := (⟨n1, [ptr n 0], 84, 1⟩ :: [])) (Ag J J) (Ai rM Au) ?_)))))))
 exact ⟨n1, rfl, by simp⟩

theorem opt_linksE (b c n q N cp at' : Nat) (e : Int) (X : Block) (hX : X.ok) (xs : List UInt8) (hx : xs.length = N) (hat : at' ≤ N) (hN : N ≤ cp) (hbig : N ≤ 90000) (hbn : b ≠ n) (hcb : c ≠ b) (hcn : c ≠ n) (hqb : q ≠ b) (hqn : q ≠ n)  (hXl : X.fLinks = Sl.nil) (x1 : UInt64) (a1 : Nat) (e1 : Int) (h1 : Cb xs at' e = (x1, a1, e1)) (ls : List (List UInt8)) (a5 : Nat) (e5 : Int) (h5 : Ch xs (min x1.toNat 17) a1 e1 = (ls, a5, e5)) : Meets Tryz.prog 155 [ptr b 0, ptr c 0] [b, n] (fun W => BlkOk W (BB b X) ∧ BlkOk W (RB n q N cp at' e) ∧ W.cell? ⟨c, 0, none⟩ = some (ptr n 0) ∧ Cc W q 0 (Aa xs))
    (fun v out => ∃ s bl, v = .tuple #[] ∧ Acc s bl (Bv ls) 24 (min x1.toNat 17) 32 ∧ out = RB n q N cp a5 e5 :: BB b ({ X with fLinks := s } : Block) :: bl) := by
  have := opt_links b c n q N cp at' e X hX xs hx hat hN hbig hbn hcb hcn hqb hqn hXl x1 a1 e1 h1
  rw [h5] at this
  exact this
theorem cell_lt {w : World} {c o : Nat} {v : Value} (h : w.cell? ⟨c, o, none⟩ = some v) : c < w.heap.size := by
  rcases Nat.lt_or_ge c w.heap.size with h1 | h1
  · exact h1
  · simp [World.cell?, Array.getElem?_eq_none h1] at h

theorem block_build (r n q N cp c1 c2 c3 : Nat) (xs : List UInt8) (hx : xs.length = N) (hN : N ≤ cp) (hbig : N ≤ 90000) (hr : r ≠ n) (hc1 : c1 ≠ n) (hc2 : c2 ≠ n) (hc3 : c3 ≠ n) (hqn : q ≠ n) (l1 : List UInt8) (a1 : Nat) (e1 : Int) (x2 : UInt64) (a2 : Nat) (e2 : Int) (l3 : List UInt8) (a3 : Nat) (e3 : Int) (h1 : digR xs 0 0 = (l1, a1, e1)) (h2 : Cb xs a1 e1 = (x2, a2, e2)) (h3 : digR xs a2 e2 = (l3, a3, e3)) (x4 : UInt64) (a4 : Nat) (e4 : Int) (h4 : Cb xs a3 e3 = (x4, a4, e4)) (ls : List (List UInt8)) (a5 : Nat) (e5 : Int) (h5 : Ch xs (min x4.toNat 17) a4 e4 = (ls, a5, e5)) (o : Option (List UInt8)) (a6 : Nat) (e6 : Int) (h6 : blkR xs a5 e5 = (o, a6, e6)) (l7 : List UInt8) (a7 : Nat) (e7 : Int) (h7 : takR xs 64 a6 e6 = (l7, a7, e7))  : Meets Tryz.prog 88 [.slice (some ⟨r, 0, none⟩) 3 3] [n] (fun W => BlkOk W (RB n q N cp 0 0) ∧ Cc W q 0 (Aa xs) ∧ (W.cell? ⟨r, 0, none⟩ = some (.func (.func 154) #[] #[ptr c1 0]) ∧ W.cell? ⟨r, 1, none⟩ = some (.func (.func 155) #[] #[ptr c2 0]) ∧ W.cell? ⟨r, 2, none⟩ = some (.func (.func 156) #[] #[ptr c3 0])) ∧ W.cell? ⟨c1, 0, none⟩ = some (ptr n 0) ∧ W.cell? ⟨c2, 0, none⟩ = some (ptr n 0) ∧ W.cell? ⟨c3, 0, none⟩ = some (ptr n 0) ∧ q < W.heap.size) (fun v out => ∃ s2 bl2 s3 bl3, v = agg ({ Block.zero with fWriter := l1, fSeq := x2, fPrev := l3, fLinks := s2, fData := s3, fSig := l7 ++ Block.zero.fSig.drop l7.length } : Block).cells ∧ Acc s2 bl2 (Bv ls) 24 (min x4.toNat 17) 32 ∧ Acc s3 bl3 (Aa (o.getD [])) 5 (o.getD []).length 1 ∧ out = RB n q N cp a7 e7 :: (bl2 ++ bl3)) := by
 intro W hW
 have hd1 := digE_le h1 hx (Nat.zero_le _)
 have hd2 := numE_le h2 hx hd1.1
 have hd3 := digE_le h3 hx hd2
 have hd4 := numE_le h4 hx hd3.1
 have hd5 := digsR_at (e := e4) hx hd4 (min x4.toNat 17)
 rw [h5] at hd5
 have hd6 := blkE_le h6 hx hd5.1
 have hd7 := takE_le h7 hx hd6.1
 have hqlt := hW.2.1
 have hs64 : (l7 ++ Block.zero.fSig.drop l7.length).length = 64 := by rcases hd7.2 with h | h <;> simp [h, Block.zero]
 have okX : ∀ s2 s3, ({ Block.zero with fWriter := l1, fSeq := x2, fPrev := l3, fLinks := s2, fData := s3, fSig := l7 ++ Block.zero.fSig.drop l7.length } : Block).ok := fun s2 s3 => ⟨hd1.2, hd3.2, hs64⟩
 refine Ba (hp0 := [RB n q N cp 0 0]) Tryz.func88 J 16 Tryz.ntmps88 J (HRep.one hW.1) (.sr (.alloc (cs := Block.zero.cells) J Block.zr J ?_))
 intro n2 hn2 hf2
 refine .nsr (.alloc (cs := Block.zero.cells) J Block.zr J ?_)
 intro n3 hn3 hf3
 refine .na (.seq (.sr ?_))
 have hS : n3 ≠ n ∧ c1 ≠ n3 ∧ q ≠ n3 := by
  have hl1 := cell_lt hW.2.2.2.1
  have hl2 := hW.2.2.2.2.2.2
  have hl3 : W.heap.size ≤ n3 := hn3
  exact ⟨fun e => hf3 (RB n q N cp 0 0) sP e.symm, by omega, by omega⟩
 have hS2 : c2 ≠ n3 := by
  have hl1 := cell_lt hW.2.2.2.2.1
  have hl3 : W.heap.size ≤ n3 := hn3
  omega
 have hS3 : c3 ≠ n3 := by
  have hl1 := cell_lt hW.2.2.2.2.2.1
  have hl3 : W.heap.size ≤ n3 := hn3
  omega
 refine .m J J J (.lenSl J J J Y154 (.m J J J (.na (.block (.rounds 4 (SRounds.more (.sr (.lss J J J J J (.na (.seq (.cond_t J (rfl) (.skip (Ae (.seq (.block (.sr (.idxSl1 J J J J Y154 Sz100 0 J oM (.loadE J J J Tryz.underlying100 J (by (simp; omega)) (hW.2.2.1.1) ?_))))))))))))))))))
 refine .a J J J (.na (.region (.m J J J (.callCL (L := [BB n3 Block.zero, RB n q N cp (0) (0)]) J J J J J J Body154 (opt_head n3 c1 n q N cp 0 0 Block.zero Block.zero_ok xs hx (Nat.zero_le _) hN hbig hS.1 hS.2.1 hc1 hS.2.2 hqn l1 a1 e1 x2 a2 e2 l3 a3 e3 h1 h2 h3) (pm_consE rM J J (Ai rM Au)) (Bp J) (fun w h => ⟨Av h Z0, Av h Z2, h.keeps.cell (by simp; omega) hW.2.2.2.1, Ci h (by simp; omega) hW.2.1⟩) ?_))))
 rintro v5 out5 ⟨rfl, rfl⟩
 refine .nil (Bj (Ae (.region (.aI J J J J oM (.m J J J (.na (SRounds.more (.sr (.lss J J J J J (.na (.seq (.cond_t J (rfl) (.skip (Ae (.seq (.block (.sr (.idxSl1 J J J J Y154 Sz100 1 J oM (.loadE J J J Tryz.underlying100 J (by (simp; omega)) (hW.2.2.1.2.1) ?_)))))))))))))))))))
 refine .a J J J (.na (.region (.m J J J (.callCL (L := [BB n3 ({ Block.zero with fWriter := l1, fSeq := x2, fPrev := l3 } : Block), RB n q N cp (a3) (e3)]) J J J J J J Body155 (opt_linksE n3 c2 n q N cp a3 e3 ({ Block.zero with fWriter := l1, fSeq := x2, fPrev := l3 } : Block) ⟨hd1.2, hd3.2, rfl⟩ xs hx hd3.1 hN hbig hS.1 hS2 hc2 hS.2.2 hqn J x4 a4 e4 h4 ls a5 e5 h5) (pm_consE rM J J (Ai rM Au)) (Bp J) (fun w h => ⟨Av h Z0, Av h Z1, h.keeps.cell (by simp; omega) hW.2.2.2.2.1, Ci h (by simp; omega) hW.2.1⟩) ?_))))
 rintro v6 out6 ⟨s2, bl2, rfl, hac2, rfl⟩
 refine .nil (Bj (Ae (.region (.aI J J J J oM (.m J J J (.na (SRounds.more (.sr (.lss J J J J J (.na (.seq (.cond_t J (rfl) (.skip (Ae (.seq (.block (.sr (.idxSl1 J J J J Y154 Sz100 2 J oM (.loadE J J J Tryz.underlying100 J (by (simp; omega)) (hW.2.2.1.2.2) ?_)))))))))))))))))))
 refine .a J J J (.na (.region (.m J J J (.callCL (L := [BB n3 ({ Block.zero with fWriter := l1, fSeq := x2, fPrev := l3, fLinks := s2 } : Block), RB n q N cp (a5) (e5)]) J J J J J J Body156 (opt_tail n3 c3 n q N cp a5 e5 ({ Block.zero with fWriter := l1, fSeq := x2, fPrev := l3, fLinks := s2 } : Block) ⟨hd1.2, hd3.2, rfl⟩ xs hx hd5.1 hN hbig hS.1 hS3 hc3 hS.2.2 hqn o a6 e6 l7 a7 e7 h6 h7) (pm_consE rM J J (Ai rM Au)) (Bp J) (fun w h => ⟨Av h Z1, Av h Z0, h.keeps.cell (by simp; omega) hW.2.2.2.2.2.1, Ci h (by simp; omega) hW.2.1⟩) ?_))))
 rintro v7 out7 ⟨s3, bl3, rfl, hac3, rfl⟩
 refine .nil (Bj (Ae (.region (.aI J J J J oM (.m J J J (.na (SRounds.more (.sr (.lss J J J J J (.na (.seq (.cond_f J (rfl) (.exit (A1 (A1 (B5 (Ae (.sr (.lA J J J Y53 J Bw Z1 (Block.length (by exact okX _ _)) ?_)))))))))))))))))))
 refine .sA J J J J (Block.isCell (by exact okX _ _)) Bw (Block.length (by exact okX _ _)) mR (Block.length (by exact Block.zero_ok)) uU ?_
 refine .na (.ret (An (Be (out := (RB n q N cp a7 e7 :: (bl2 ++ (bl3 ++ [])))) (Ao J J Y53 J Bw mR (by exact Block.length (by exact okX _ _))) (Ai rM (B6 sG (B6 sG Au))) ?_)))
 exact ⟨s2, bl2, s3, bl3, rfl, hac2, hac3, by simp⟩

end Go.Proofs.YtpacobmjjjillaaGreat
end

section
namespace Go.Proofs.YtpacobmjjjillaaGreat
open Go Hw

structure DB where
  w : List UInt8
  seq : UInt64
  prev : List UInt8
  ls : List (List UInt8)
  ds : List UInt8
  sg : List UInt8
deriving DecidableEq
def DB.zero : DB := ⟨List.replicate 32 0, 0, List.replicate 32 0, [], [], List.replicate 64 0⟩
def DB.head (D : DB) : Bool := decide ((4294967295 : Int) < (D.seq.toNat : Int)) || (!decide (decide (D.prev = List.replicate 32 0) = decide ((D.seq.toNat : Int) = 0)) || (decide ((16 : Int) < (D.ls.length : Int)) || decide ((512 : Int) < (D.ds.length : Int))))
def DB.check (D : DB) : Int := if D.head = true then 2 else (if linksBad D.prev D.ls = true then 2 else 0)
def DB.body (D : DB) : List UInt8 := D.w ++ numB D.seq ++ D.prev ++ numB (UInt64.ofNat D.ls.length) ++ D.ls.flatten ++ (numB (UInt64.ofNat D.ds.length) ++ D.ds)
def DB.bytes (D : DB) : List UInt8 := D.body ++ D.sg
structure DB.ok (D : DB) : Prop where
  w : D.w.length = 32
  prev : D.prev.length = 32
  sg : D.sg.length = 64
  ls : ∀ l ∈ D.ls, l.length = 32
structure BlockIs (W : World) (B : Block) (D : DB) : Prop where
  ok : B.ok
  w : B.fWriter = D.w
  seq : B.fSeq = D.seq
  prev : B.fPrev = D.prev
  ls : RowsAt W B.fLinks 32 D.ls
  ds : BytesAt W B.fData D.ds
  sg : B.fSig = D.sg
theorem BlockIs.dok {W : World} {B : Block} {D : DB} (h : BlockIs W B D) : D.ok := ⟨by rw [← h.w]; exact h.ok.l_fWriter, by rw [← h.prev]; exact h.ok.l_fPrev, by rw [← h.sg]; exact h.ok.l_fSig, h.ls.row⟩
theorem BlockIs.check {W : World} {B : Block} {D : DB} (h : BlockIs W B D) : bcheck B D.ls = D.check := by
  simp only [bcheck, bheadB, DB.check, DB.head, h.seq, h.prev, h.ls.len, h.ds.len]
theorem BlockIs.body {W : World} {B : Block} {D : DB} (h : BlockIs W B D) : bodyB B D.ls D.ds = D.body := by
  simp only [bodyB, DB.body, h.w, h.seq, h.prev, h.ls.len, h.ds.len]
theorem BlockIs.bytes {W : World} {B : Block} {D : DB} (h : BlockIs W B D) : bytesB B D.ls D.ds = D.bytes := by
  simp only [bytesB, DB.bytes, h.body, h.sg]
theorem acc_rows {s : Sl} {bl : List Blk} {ls : List (List UInt8)} {E : TypeId} {n : Nat} {w : World} (h : Acc s bl (Bv ls) E n 32) (hl : Lies bl w) (hr : ∀ l ∈ ls, l.length = 32) (hn : ls.length = n) (hm : n ≤ 1000000) : RowsAt w s 32 ls :=
  ⟨by rw [h.num, hn], hr, h.cap, h.see hl, by rw [h.num]; unfold maxLen; omega, h.nilc⟩
theorem acc_bytes {s : Sl} {bl : List Blk} {l : List UInt8} {E : TypeId} {n : Nat} {w : World} (h : Acc s bl (Aa l) E n 1) (hl : Lies bl w) (hn : l.length = n) (hm : n ≤ 1000000) : BytesAt w s l :=
  ⟨by rw [h.num, hn], h.cap, h.see hl, by rw [h.num]; unfold maxLen; omega, h.nilc⟩
def readP (xs : List UInt8) : DB × Nat × Int :=
  let r1 := digR xs 0 0
  let r2 := Cb xs r1.2.1 r1.2.2
  let r3 := digR xs r2.2.1 r2.2.2
  let r4 := Cb xs r3.2.1 r3.2.2
  let r5 := Ch xs (min r4.1.toNat 17) r4.2.1 r4.2.2
  let r6 := blkR xs r5.2.1 r5.2.2
  let r7 := takR xs 64 r6.2.1 r6.2.2
  (⟨r1.1, r2.1, r3.1, r5.1, r6.1.getD [], r7.1 ++ (List.replicate 64 0).drop r7.1.length⟩, r7.2)
def readD (xs : List UInt8) : DB × Int :=
  if endR xs.length (readP xs).2.1 (readP xs).2.2 = 0 ∧ (readP xs).1.check = 0 then ((readP xs).1, 0) else (DB.zero, 4)
theorem readD_bad {xs : List UInt8} (h : ¬ (endR xs.length (readP xs).2.1 (readP xs).2.2 = 0 ∧ (readP xs).1.check = 0)) : readD xs = (DB.zero, 4) := if_neg h
theorem readD_ok {xs : List UInt8} (h : endR xs.length (readP xs).2.1 (readP xs).2.2 = 0 ∧ (readP xs).1.check = 0) : readD xs = ((readP xs).1, 0) := if_pos h
theorem bcheck_D {B : Block} {D : DB} (h1 : B.fSeq = D.seq) (h2 : B.fPrev = D.prev) (h3 : B.fLinks.n = D.ls.length) (h4 : B.fData.n = D.ds.length) : bcheck B D.ls = D.check := by
  have e : bheadB B = D.head := by
    unfold bheadB DB.head
    rw [h1, h2, h3, h4]
  unfold bcheck DB.check
  rw [e, h2]
theorem zero_is (W : World) : BlockIs W Block.zero DB.zero := ⟨Block.zero_ok, rfl, rfl, rfl, ⟨rfl, fun l hl => (by cases hl), Nat.le_refl _, SeesP.nil, Nat.zero_le _, fun _ => rfl⟩, ⟨rfl, Nat.le_refl _, SeesP.nil, Nat.zero_le _, fun _ => rfl⟩, rfl⟩
theorem fin_bad {xs : List UInt8} {out : List Blk} (h : ¬ (endR xs.length (readP xs).2.1 (readP xs).2.2 = 0 ∧ (readP xs).1.check = 0)) : ∃ B : Block, B.ok ∧ Value.tuple #[agg Block.zero.cells, i64 4] = .tuple #[agg B.cells, i64 (readD xs).2] ∧ ∀ W2, Lies out W2 → BlockIs W2 B (readD xs).1 := by
  rw [readD_bad h]
  exact ⟨Block.zero, Block.zero_ok, rfl, fun W2 _ => zero_is W2⟩
theorem fin_ok {xs : List UInt8} {out : List Blk} {B : Block} (h : endR xs.length (readP xs).2.1 (readP xs).2.2 = 0 ∧ (readP xs).1.check = 0) (hok : B.ok) (hB : ∀ W2, Lies out W2 → BlockIs W2 B (readP xs).1) : ∃ B' : Block, B'.ok ∧ Value.tuple #[agg B.cells, i64 0] = .tuple #[agg B'.cells, i64 (readD xs).2] ∧ ∀ W2, Lies out W2 → BlockIs W2 B' (readD xs).1 := by
  rw [readD_ok h]
  exact ⟨B, hok, rfl, hB⟩

theorem block_read (p : Option Addr) (n c : Nat) (xs : List UInt8) (hl : xs.length = n) (hp : p = none → n = 0) (hn : n ≤ 90000) : Meets Tryz.prog 43 [.slice p n c] [] (fun W => SeesP W p (Aa xs)) (fun v out => ∃ B : Block, B.ok ∧ v = .tuple #[agg B.cells, i64 (readD xs).2] ∧ ∀ W2, Lies out W2 → BlockIs W2 B (readD xs).1) := by
 intro W hW
 obtain ⟨l1, r1, h1⟩ : ∃ l r, digR xs 0 0 = (l, r) := ⟨_, _, rfl⟩
 obtain ⟨a1, e1⟩ := r1
 obtain ⟨x2, r2, h2⟩ : ∃ l r, Cb xs a1 e1 = (l, r) := ⟨_, _, rfl⟩
 obtain ⟨a2, e2⟩ := r2
 obtain ⟨l3, r3, h3⟩ : ∃ l r, digR xs a2 e2 = (l, r) := ⟨_, _, rfl⟩
 obtain ⟨a3, e3⟩ := r3
 obtain ⟨x4, r4, h4⟩ : ∃ l r, Cb xs a3 e3 = (l, r) := ⟨_, _, rfl⟩
 obtain ⟨a4, e4⟩ := r4
 obtain ⟨ls, r5, h5⟩ : ∃ l r, Ch xs (min x4.toNat 17) a4 e4 = (l, r) := ⟨_, _, rfl⟩
 obtain ⟨a5, e5⟩ := r5
 obtain ⟨o, r6, h6⟩ : ∃ l r, blkR xs a5 e5 = (l, r) := ⟨_, _, rfl⟩
 obtain ⟨a6, e6⟩ := r6
 obtain ⟨l7, r7, h7⟩ : ∃ l r, takR xs 64 a6 e6 = (l, r) := ⟨_, _, rfl⟩
 obtain ⟨a7, e7⟩ := r7
 have hrp : readP xs = ((⟨l1, x2, l3, ls, o.getD [], l7 ++ (List.replicate 64 0).drop l7.length⟩ : DB), a7, e7) := by simp only [readP, h1, h2, h3, h4, h5, h6, h7]
 have hd1 := digE_le h1 hl (Nat.zero_le _)
 have hd2 := numE_le h2 hl hd1.1
 have hd3 := digE_le h3 hl hd2
 have hd4 := numE_le h4 hl hd3.1
 have hd5 := digsR_at (e := e4) hl hd4 (min x4.toNat 17)
 rw [h5] at hd5
 have hd6 := blkE_le h6 hl hd5.1
 have hd7 := takE_le h7 hl hd6.1
 have hs64 : (l7 ++ (List.replicate 64 0).drop l7.length).length = 64 := by rcases hd7.2 with h | h <;> simp [h]
 have okX : ∀ s2 s3, ({ Block.zero with fWriter := l1, fSeq := x2, fPrev := l3, fLinks := s2, fData := s3, fSig := l7 ++ Block.zero.fSig.drop l7.length } : Block).ok := fun s2 s3 => ⟨hd1.2, hd3.2, hs64⟩
 refine Ab Tryz.func43 J 26 Tryz.ntmps43 J (.sr (.alloc (cs := Block.zero.cells) J Block.zr J ?_))
 intro n2 hn2 hf2
 refine .a J J J (.nsr (.m J J J (.call4 J J J J J Body69 (oct_Read p n c xs hl hp hn) (fun w h => Ax h J hW) ?_)))
 rintro v7 out7 ⟨n4, q4, cp4, rfl, hcp, rfl⟩
 refine .a J J J (.nsr (.m J J J (.call4 J J J J J Body94 (mk_head n4) tV ?_)))
 rintro v9 out9 ⟨c1, rfl, rfl⟩
 refine .m J J J (.call4 J J J J J Body95 (mk_links n4) tV ?_)
 rintro v11 out11 ⟨c2, rfl, rfl⟩
 refine .m J J J (.call4 J J J J J Body96 (mk_tail n4) tV ?_)
 rintro v13 out13 ⟨c3, rfl, rfl⟩
 refine .mkRow (z := .nilFunc) [.func (.func 154) #[] #[ptr c1 0], .func (.func 155) #[] #[ptr c2 0], .func (.func 156) #[] #[ptr c3 0]] [.func (.func 154) #[] #[ptr c1 0], .func (.func 155) #[] #[ptr c2 0], .func (.func 156) #[] #[ptr c3 0]] rfl J J Y154 Sz100 Zr100 J J (by intro v hv; simp only [List.mem_cons, List.not_mem_nil, or_false] at hv; rcases hv with rfl | rfl | rfl <;> rfl) dE J ?_
 intro r14
 refine .nd (fun hnd => ?_)
 simp only [RB, blk, List.map_cons, List.map_nil, List.map_append, List.cons_append, List.nil_append, List.nodup_cons, List.mem_cons, List.not_mem_nil, or_false] at hnd
 have hne : Hid (r14 ≠ n4 ∧ c1 ≠ n4 ∧ c2 ≠ n4 ∧ c3 ≠ n4 ∧ q4 ≠ n4) := ⟨by refine ⟨?_, ?_, ?_, ?_, ?_⟩ <;> (intro e; simp [e] at hnd)⟩
 clear hnd
 refine .callL (L := [RB n4 q4 n cp4 0 0]) J J J J J Body88 (block_build r14 n4 q4 n cp4 c1 c2 c3 xs hl hcp hn hne.out.1 hne.out.2.1 hne.out.2.2.1 hne.out.2.2.2.1 hne.out.2.2.2.2 l1 a1 e1 x2 a2 e2 l3 a3 e3 h1 h2 h3 x4 a4 e4 h4 ls a5 e5 h5 o a6 e6 h6 l7 a7 e7 h7) (Ai rM Au) (Bp J) (fun w h => ⟨Av h Z4, Ak h (by exact mem5), ⟨(Av h Z0).cell (o := 0) J, (Av (B := ⟨r14, [.func (.func 154) #[] #[ptr c1 0], .func (.func 155) #[] #[ptr c2 0], .func (.func 156) #[] #[ptr c3 0]], _, _⟩) h Z0).cell (o := 1) J, (Av (B := ⟨r14, [.func (.func 154) #[] #[ptr c1 0], .func (.func 155) #[] #[ptr c2 0], .func (.func 156) #[] #[ptr c3 0]], _, _⟩) h Z0).cell (o := 2) J⟩, (Av (B := ⟨c1, _, _, _⟩) h Z3).cell (o := 0) J, (Av (B := ⟨c2, _, _, _⟩) h Z2).cell (o := 0) J, (Av (B := ⟨c3, _, _, _⟩) h Z1).cell (o := 0) J, (Av (B := ⟨q4, Aa xs, _, _⟩) h (by exact mem5)).lt⟩) ?_
 rintro v15 out15 ⟨s2, bl2, s3, bl3, rfl, hac2, hac3, rfl⟩
 simp only [List.append_assoc, List.cons_append, List.nil_append]
 refine .alloc (cs := Block.zero.cells) J Block.zr J ?_
 intro n5 hn5 hf5
 refine .sA J J J J (Block.isCell (by exact okX _ _)) Bw (Block.length (by exact okX _ _)) Z0 (Block.length (by exact Block.zero_ok)) zU ?_
 refine .na (.seq (.sr (.m J J J (.cV J J J J Body73 (rd_End n4 q4 n cp4 a7 e7 hd7.1 oM) (fun w h => Av h Z1) ?_))))
 refine two (fun r hr k => Tr.nei J J J J hr k) (fun hs3_20 => ?_) (fun hs3_20 => ?_)
 ·
  have hs3_2 := nd_t hs3_20
  refine .m J J J (.skp J J (.skp J J (.skp J J (.pick J J J J J J (.na (.cond_t J J (.sr (.build (cs := Block.zero.cells) J J J (fun w => by kernel_rfl) ?_))))))))
  refine .sA J J J J (Block.isCell (by exact Block.zero_ok)) Bw (Block.length (by exact Block.zero_ok)) mR (Block.length (by exact Block.zero_ok)) uU ?_
  refine .a J J J (.na (.ret (Bg (An (Be (out := (bl2 ++ (bl3 ++ []))) (A0 J J J Y53 J Bw mR (by exact Block.length (by exact Block.zero_ok))) (B6 sG (B6 sG Au)) ?_)))))
  first
   | exact fin_bad (by rw [hrp, hl]; exact fun h => hs3_2 h.1)
   | exact fin_bad (by rw [hrp, ← bcheck_D (B := ({ Block.zero with fWriter := l1, fSeq := x2, fPrev := l3, fLinks := s2, fData := s3, fSig := l7 ++ Block.zero.fSig.drop l7.length } : Block)) rfl rfl (by rw [hac2.num]; exact hd5.2.2.symm) hac3.num]; exact fun h => hc0 h.2)
   | exact fin_ok (by rw [hrp, hl, ← bcheck_D (B := ({ Block.zero with fWriter := l1, fSeq := x2, fPrev := l3, fLinks := s2, fData := s3, fSig := l7 ++ Block.zero.fSig.drop l7.length } : Block)) rfl rfl (by rw [hac2.num]; exact hd5.2.2.symm) hac3.num]; exact ⟨hs3_2, hc0⟩) (okX _ _) (fun W2 h2 => by
     rw [hrp]
     exact ⟨okX _ _, rfl, rfl, rfl, acc_rows hac2 (h2.sub Bt) hd5.2.1 hd5.2.2 oM, acc_bytes hac3 (h2.sub (in_seg Bt)) rfl (by have := hd6.2; omega), rfl⟩)
 ·
  have hs3_2 := nd_f hs3_20
  refine .m J J J (.lA J J J Y53 J Bw Z0 (Block.length (by exact okX _ _)) ?_)
  refine .cV J J J J Body38 (block_check ({ Block.zero with fWriter := l1, fSeq := x2, fPrev := l3, fLinks := s2, fData := s3, fSig := l7 ++ Block.zero.fSig.drop l7.length } : Block) (okX _ _) ls) (fun w h => acc_rows hac2 (Lies.of h (by repeat (first | exact Bt | refine in_there ?_))) hd5.2.1 hd5.2.2 oM) ?_
  refine .nei J J J J J (.pick J J J J J J (.na (.condNP J (fun hc0 => ?_) (fun hc0 => ?_))))
  ·
   refine .sr (.build (cs := Block.zero.cells) J J J (fun w => by kernel_rfl) ?_)
   refine .sA J J J J (Block.isCell (by exact Block.zero_ok)) Bw (Block.length (by exact Block.zero_ok)) mR (Block.length (by exact Block.zero_ok)) uU ?_
   refine .a J J J (.na (.ret (Bg (An (Be (out := (bl2 ++ (bl3 ++ []))) (A0 J J J Y53 J Bw mR (by exact Block.length (by exact Block.zero_ok))) (B6 sG (B6 sG Au)) ?_)))))
   first
    | exact fin_bad (by rw [hrp, hl]; exact fun h => hs3_2 h.1)
    | exact fin_bad (by rw [hrp, ← bcheck_D (B := ({ Block.zero with fWriter := l1, fSeq := x2, fPrev := l3, fLinks := s2, fData := s3, fSig := l7 ++ Block.zero.fSig.drop l7.length } : Block)) rfl rfl (by rw [hac2.num]; exact hd5.2.2.symm) hac3.num]; exact fun h => hc0 h.2)
    | exact fin_ok (by rw [hrp, hl, ← bcheck_D (B := ({ Block.zero with fWriter := l1, fSeq := x2, fPrev := l3, fLinks := s2, fData := s3, fSig := l7 ++ Block.zero.fSig.drop l7.length } : Block)) rfl rfl (by rw [hac2.num]; exact hd5.2.2.symm) hac3.num]; exact ⟨hs3_2, hc0⟩) (okX _ _) (fun W2 h2 => by
      rw [hrp]
      exact ⟨okX _ _, rfl, rfl, rfl, acc_rows hac2 (h2.sub Bt) hd5.2.1 hd5.2.2 oM, acc_bytes hac3 (h2.sub (in_seg Bt)) rfl (by have := hd6.2; omega), rfl⟩)
  ·
   refine .skip (Ae (.sr (.lA J J J Y53 J Bw Z0 (Block.length (by exact okX _ _)) ?_)))
   refine .sA J J J J (Block.isCell (by exact okX _ _)) Bw (Block.length (by exact okX _ _)) mR (Block.length (by exact Block.zero_ok)) uU ?_
   refine .a J J J (.na (.ret (An (Be (out := (bl2 ++ (bl3 ++ []))) (A0 J J J Y53 J Bw mR (by exact Block.length (by exact okX _ _))) (B6 sG (B6 sG Au)) ?_))))
   first
    | exact fin_bad (by rw [hrp, hl]; exact fun h => hs3_2 h.1)
    | exact fin_bad (by rw [hrp, ← bcheck_D (B := ({ Block.zero with fWriter := l1, fSeq := x2, fPrev := l3, fLinks := s2, fData := s3, fSig := l7 ++ Block.zero.fSig.drop l7.length } : Block)) rfl rfl (by rw [hac2.num]; exact hd5.2.2.symm) hac3.num]; exact fun h => hc0 h.2)
    | exact fin_ok (by rw [hrp, hl, ← bcheck_D (B := ({ Block.zero with fWriter := l1, fSeq := x2, fPrev := l3, fLinks := s2, fData := s3, fSig := l7 ++ Block.zero.fSig.drop l7.length } : Block)) rfl rfl (by rw [hac2.num]; exact hd5.2.2.symm) hac3.num]; exact ⟨hs3_2, hc0⟩) (okX _ _) (fun W2 h2 => by
      rw [hrp]
      exact ⟨okX _ _, rfl, rfl, rfl, acc_rows hac2 (h2.sub Bt) hd5.2.1 hd5.2.2 oM, acc_bytes hac3 (h2.sub (in_seg Bt)) rfl (by have := hd6.2; omega), rfl⟩)

end Go.Proofs.YtpacobmjjjillaaGreat
end

section
namespace Hw
open Go

def rolW (x : UInt64) (s : Nat) : UInt64 := A2 x s ||| As x (64 - s)
def schA (p : List UInt8) : Nat → List UInt64
  | 0 => List.replicate 80 0
  | i + 1 => (schA p i).set (i / 8) (A2 ((schA p i).getD (i / 8) 0) 8 ||| (p.getD i 0).toUInt64)
theorem schA_length (p : List UInt8) : ∀ i, (schA p i).length = 80
  | 0 => rfl
  | i + 1 => by rw [schA, List.length_set, schA_length p i]
def sig0 (x : UInt64) : UInt64 := rolW x 63 ^^^ rolW x 56 ^^^ As x 7
def sig1 (y : UInt64) : UInt64 := rolW y 45 ^^^ rolW y 3 ^^^ As y 6
def schB (w : List UInt64) : Nat → List UInt64
  | 0 => w
  | j + 1 => (schB w j).set (16 + j) ((schB w j).getD j 0 + sig0 ((schB w j).getD (j + 1) 0) + (schB w j).getD (j + 9) 0 + sig1 ((schB w j).getD (j + 14) 0))
theorem schB_length (w : List UInt64) : ∀ j, (schB w j).length = w.length
  | 0 => rfl
  | j + 1 => by rw [schB, List.length_set, schB_length w j]
def schW (p : List UInt8) : List UInt64 := schB (schA p 128) 64
structure W8 where
  a : UInt64
  b : UInt64
  c : UInt64
  d : UInt64
  e : UInt64
  f : UInt64
  g : UInt64
  h : UInt64
def W8.l (s : W8) : List UInt64 := [s.a, s.b, s.c, s.d, s.e, s.f, s.g, s.h]
def W8.of (l : List UInt64) : W8 := ⟨l.getD 0 0, l.getD 1 0, l.getD 2 0, l.getD 3 0, l.getD 4 0, l.getD 5 0, l.getD 6 0, l.getD 7 0⟩
def rndT1 (s : W8) (k w : UInt64) : UInt64 := s.h + (rolW s.e 50 ^^^ rolW s.e 46 ^^^ rolW s.e 23) + ((s.e &&& s.f) ^^^ ((18446744073709551615 ^^^ s.e) &&& s.g)) + k + w
def rndT2 (s : W8) : UInt64 := (rolW s.a 36 ^^^ rolW s.a 30 ^^^ rolW s.a 25) + ((s.a &&& s.b) ^^^ (s.a &&& s.c) ^^^ (s.b &&& s.c))
def rnd1 (s : W8) (k w : UInt64) : W8 := ⟨rndT1 s k w + rndT2 s, s.a, s.b, s.c, s.d + rndT1 s k w, s.e, s.f, s.g⟩
def rnds (k w : List UInt64) (s : W8) : Nat → W8
  | 0 => s
  | t + 1 => rnd1 (rnds k w s t) (k.getD t 0) (w.getD t 0)
def addUp (st xs : List UInt64) : Nat → List UInt64
  | 0 => st
  | i + 1 => (addUp st xs i).set i ((addUp st xs i).getD i 0 + xs.getD i 0)
theorem Cg (st xs : List UInt64) : ∀ i, (addUp st xs i).length = st.length
  | 0 => rfl
  | i + 1 => by rw [addUp, List.length_set, Cg st xs i]
theorem addUp_get (st xs : List UInt64) : ∀ i j, i ≤ j → (addUp st xs i).getD j 0 = st.getD j 0
  | 0, j, _ => rfl
  | i + 1, j, h => by
    rw [addUp, List.getD_eq_getElem?_getD, List.getElem?_set_ne oM, ← List.getD_eq_getElem?_getD]
    exact addUp_get st xs i j oM
def pieceW (k st : List UInt64) (p : List UInt8) : List UInt64 := addUp st (rnds k (schW p) (W8.of st) 80).l 8
theorem pieceW_length (k st : List UInt64) (p : List UInt8) : (pieceW k st p).length = st.length := Cg _ _ _
def sumUp (st : List UInt64) : Nat → List UInt8
  | 0 => List.replicate 64 0
  | i + 1 => (sumUp st i).set i (As (st.getD (i / 8) 0) (56 - 8 * (i % 8))).toUInt8
theorem Cz (st : List UInt64) : ∀ i, (sumUp st i).length = 64
  | 0 => rfl
  | i + 1 => by rw [sumUp, List.length_set, Cz st i]
def padZ (n : Nat) : Nat := (239 - n % 128) % 128
theorem padZ_lt (n : Nat) : padZ n < 128 := Nat.mod_lt _ dE
theorem padZ_at (n j : Nat) (h : j ≤ padZ n) : (n + 1 + j) % 128 = 112 ↔ j = padZ n := by unfold padZ at *; omega
def beUp (x : UInt64) : Nat → List UInt8
  | 0 => []
  | j + 1 => beUp x j ++ [(As x (56 - 8 * j)).toUInt8]
theorem beUp_length (x : UInt64) : ∀ j, (beUp x j).length = j
  | 0 => rfl
  | j + 1 => by rw [beUp, List.length_append, beUp_length x j]; rfl
def padB (l : List UInt8) : List UInt8 := l ++ [128] ++ List.replicate (padZ l.length) 0 ++ beUp 0 8 ++ beUp (UInt64.ofNat (8 * l.length)) 8
theorem padB_length (l : List UInt8) : (padB l).length = l.length + 17 + padZ l.length := by
  simp only [padB, List.length_append, beUp_length, List.length_replicate, List.length_singleton]; omega
theorem padB_mod (l : List UInt8) : (padB l).length = 128 * ((padB l).length / 128) := by
  rw [padB_length]; unfold padZ; omega
def runW (k st : List UInt64) (bs : List UInt8) : Nat → List UInt64
  | 0 => st
  | i + 1 => pieceW k (runW k st bs i) ((bs.drop (128 * i)).take 128)
theorem runW_length (k st : List UInt64) (bs : List UInt8) : ∀ i, (runW k st bs i).length = st.length
  | 0 => rfl
  | i + 1 => by rw [runW, pieceW_length, runW_length k st bs i]
def allW (k st : List UInt64) (l : List UInt8) : List UInt64 := runW k st (padB l) ((padB l).length / 128)
theorem allW_length (k st : List UInt64) (l : List UInt8) : (allW k st l).length = st.length := runW_length _ _ _ _
end Hw
end

section
namespace Go.Proofs.YtpacobmjjjillaaGreat
open Go Hw

def kW : List UInt64 := [4794697086780616226, 8158064640168781261, 13096744586834688815, 16840607885511220156, 4131703408338449720, 6480981068601479193, 10538285296894168987, 12329834152419229976, 15566598209576043074, 1334009975649890238, 2608012711638119052, 6128411473006802146, 8268148722764581231, 9286055187155687089, 11230858885718282805, 13951009754708518548, 16472876342353939154, 17275323862435702243, 1135362057144423861, 2597628984639134821, 3308224258029322869, 5365058923640841347, 6679025012923562964, 8573033837759648693, 10970295158949994411, 12119686244451234320, 12683024718118986047, 13788192230050041572, 14330467153632333762, 15395433587784984357, 489312712824947311, 1452737877330783856, 2861767655752347644, 3322285676063803686, 5560940570517711597, 5996557281743188959, 7280758554555802590, 8532644243296465576, 9350256976987008742, 10552545826968843579, 11727347734174303076, 12113106623233404929, 14000437183269869457, 14369950271660146224, 15101387698204529176, 15463397548674623760, 17586052441742319658, 1182934255886127544, 1847814050463011016, 2177327727835720531, 2830643537854262169, 3796741975233480872, 4115178125766777443, 5681478168544905931, 6601373596472566643, 7507060721942968483, 8399075790359081724, 8693463985226723168, 9568029438360202098, 10144078919501101548, 10430055236837252648, 11840083180663258601, 13761210420658862357, 14299343276471374635, 14566680578165727644, 15097957966210449927, 16922976911328602910, 17689382322260857208, 500013540394364858, 748580250866718886, 1242879168328830382, 1977374033974150939, 2944078676154940804, 3659926193048069267, 4368137639120453308, 4836135668995329356, 5532061633213252278, 6448918945643986474, 6902733635092675308, 7801388544844847127]
def startW : List UInt64 := [7640891576956012808, 13503953896175478587, 4354685564936845355, 11912009170470909681, 5840696475078001361, 11170449401992604703, 2270897969802886507, 6620516959819538809]

theorem sha_K  : Meets Tryz.prog 237 [] [] (fun _ => True) (fun v out => v = agg (Af kW) ∧ out = []) := by
 intro W hW
 refine Ab Tryz.func237 J 2 Tryz.ntmps237 J (.sr (.alloc (cs := (Af (List.replicate 80 0))) J Zr209 J ?_))
 intro n0 hn0 hf0
 refine .nsr (.build (cs := Af kW) J J J (fun w => by kernel_rfl) ?_)
 refine .sA J J J J zB Sz209 (by (simp [kW]; done)) Z0 sP zU ?_
 refine .na (.ret (An ?_))
 refine ⟨_, [], Ao J J Y209 J Sz209 Z0 (by simp [kW]), sP, sP, ?_, rfl⟩
 rfl

theorem sha_Start  : Meets Tryz.prog 204 [] [] (fun _ => True) (fun v out => v = agg (Af startW) ∧ out = []) := by
 intro W hW
 refine Ab Tryz.func204 J 2 Tryz.ntmps204 J (.sr (.alloc (cs := (Af (List.replicate 8 0))) J Zr135 J ?_))
 intro n0 hn0 hf0
 refine .nsr (.build (cs := Af startW) J J J (fun w => by kernel_rfl) ?_)
 refine .sA J J J J zB Sz135 (by (simp [startW]; done)) Z0 sP zU ?_
 refine .na (.ret (An ?_))
 refine ⟨_, [], Ao J J Dc J Sz135 Z0 (by simp [startW]), sP, sP, ?_, rfl⟩
 rfl

theorem bits_rol (x : UInt64) (k : Int) (s : Nat) (hk : -64 ≤ k ∧ k ≤ 64) (hs : (Bn k &&& 63).toNat = s) (hs2 : s ≤ 63) : Meets Tryz.prog 238 [u64 x, i64 k] [] (fun _ => True) (fun v out => v = u64 (rolW x s) ∧ out = []) := by
 intro W hW
 have h64 : ((64 : UInt64) - (Bn k &&& 63)).toNat = 64 - s := by rw [UInt64.toNat_sub_of_le _ _ (by rw [UInt64.le_iff_toNat_le, hs]; show s ≤ 64; omega), hs]; rfl
 refine Ab Tryz.func238 J 17 Tryz.ntmps238 J (.sr (.a J J (show Ah _ _ = some (u64 0) from rfl) (.nsr (.m J J J (.conv J J J Y3 Y35 (A4 _) (.and_u64 J J J (show Ah _ _ = some (u64 63) from rfl) (.a J J J (.nsr (.m J J J (.m J J J (.shl_u64 J J J J s oM oM (.m J J J (.m J J J (.sub_u64 J J (show Ah _ _ = some (u64 64) from rfl) J (.shr_u64 J J J J (64 - s) oM oM (.or_u64 J J J J (.a J J J (.na (.ret (An ?_))))))))))))))))))))
 refine ⟨_, [], Ag J J, sP, sP, ?_, rfl⟩
 rfl

theorem sha_schedule (p : List UInt8) (hp : p.length = 128) (A w : List UInt64) (hA : Hid (schA p 128 = A)) (hwp : Hid (schB A 64 = w)) : Meets Tryz.prog 236 [agg (Aa p)] [] (fun _ => True) (fun v out => v = agg (Af w) ∧ out = []) := by
 intro W hW
 have hA80 : A.length = 80 := by rw [← hA.out]; exact schA_length p 128
 have hw80 : w.length = 80 := by rw [← hwp.out, schB_length]; exact hA80
 refine Ab Tryz.func236 J 72 Tryz.ntmps236 J (.sr (.boxA J J ?_))
 intro n1 hn1 hf1
 refine .alloc (cs := (Af (List.replicate 80 0))) J Zr209 J ?_
 intro n2 hn2 hf2
 refine .nsr (.alloc (cs := (Af (List.replicate 80 0))) J Zr209 J ?_)
 intro n3 hn3 hf3
 refine .na (.seq (.sr (.lA J J J Tryz.underlying191 J Sz191 Z2 (by (simp [hp]; done)) ?_)))
 refine .m J J J (.na (.block (.loop (ι := Nat) (fun k => ⟨[(3, ptr n3 0), (2, ptr n2 0), (11, agg (Aa p)), (12, i64 (k : Int))], [⟨n3, Af (schA p k), 209, 80⟩, ⟨n2, Af (List.replicate 80 0), 209, 80⟩]⟩) (fun k => k ≤ 128) (fun k => 128 - k) (0) ?_ ?_ ?_)))
 · omega
 · exact Ac (wk1 rfl (wk1 rfl (wk1 rfl (wk1 rfl wk0)))) (wh1 Z0 (wh1 Z1 wh0)) nD
 ·
  rintro k hi
  have hlk := schA_length p k
  refine .sr (.lss J J J J J (.na (.seq (.condP J (fun hc0 => ?_) (fun hc0 => ?_)))))
  ·
   refine .skip (Ae (.seq (.block (.sr (.m J J J (.idxA1 J J J J Tryz.underlying191 Sz5 Y5 J _ J oM zG ?_))))))
   refine .a J J J (.a J J J (.na (.region (.m J J J (.quo_i64 J J J J oM (.m J J J (.quo_i64 J J J J oM (.i1 J J J J Y209 Ap (k / 8) oM oM (.load1 J J J Y22 J Z0 (by exact A3 oM) ?_)))))))))
   refine .shl_u64 J J J J 8 J dE (.m J J J (.conv J J J Y5 Y22 (Cu _) (.or_u64 J J J J (.i1 J J J J Y209 Ap (k / 8) oM oM (.s1 J J J J J Ap Z0 (by (simp [schA_length]; omega)) (by exact A9 _ _ _) zU ?_)))))
   refine .nil (Bj (Ae (.region (.aI J J J J oM (.m J J J (.na ?_))))))
   exact ⟨k + 1, by omega, by omega, Ac (wk1 rfl (wk1 rfl (wk1 rfl (wk1 rfl wk0)))) (wh1 Z0 (wh1 Z1 wh0)) nD⟩
  ·
   obtain rfl : k = 128 := by omega
   rw [hA.out]
   clear hlk
   refine .exit (A1 (A1 (B5 (Ae (.seq (.sr (.a J J J (.na (.block (.loop (ι := Nat) (fun j => ⟨[(3, ptr n3 0), (2, ptr n2 0), (6, i64 (16 + (j : Int)))], [⟨n3, Af (schB A j), 209, 80⟩, ⟨n2, Af (List.replicate 80 0), 209, 80⟩]⟩) (fun j => j ≤ 64) (fun j => 64 - j) (0) ?_ ?_ ?_))))))))))
   · omega
   · exact Ac (wk1 rfl (wk1 rfl (wk1 rfl wk0))) (wh1 Z0 (wh1 Z1 wh0)) nD
   ·
    rintro j hi
    have hlj := schB_length A j
    refine .seq (.sr (.m J J J (.lss J J J J J (.na (.condP J (fun hc1 => ?_) (fun hc1 => ?_))))))
    ·
     refine .skip (Ae (.seq (.block (.seq (.draw [(0, 0), (0, 1), (0, 2), (1, 3), (0, 4), (0, 5), (0, 6), (1, 7), (0, 8), (0, 9)] Ar zK (.m J J J (.sub_i64 J J J J oM (.i1 J J J J Y209 Ap (j + 1) oM oM (.load1 J J J Y22 J Z0 (by exact A3 oM) ?_)))))))))
     refine .m J J J (.sub_i64 J J J J oM (.i1 J J J J Y209 Ap (j + 14) oM oM (.load1 J J J Y22 J Z0 (by exact A3 oM) ?_)))
     refine .a J J J (.a J J J (.nsr (.m J J J (.cV J J J J Body238 (bits_rol _ (-1) 63 dE dE dE) tV (.m J J J (.cV J J J J Body238 (bits_rol _ (-8) 56 dE dE dE) tV (.xor_u64 J J J J (.m J J J (.shr_u64 J J J J 7 J dE (.xor_u64 J J J J (.a J J J (.nsr (.m J J J (.cV J J J J Body238 (bits_rol _ (-19) 45 dE dE dE) tV (.m J J J (.cV J J J J Body238 (bits_rol _ (-61) 3 dE dE dE) tV (.xor_u64 J J J J (.m J J J (.shr_u64 J J J J 6 J dE (.xor_u64 J J J J (.a J J J (.na (.draw [(0, 0), (0, 1), (0, 2), (0, 3), (1, 4), (0, 5), (0, 6), (0, 7), (0, 8), (0, 9), (1, 10), (0, 11), (0, 12), (0, 13), (0, 14), (4, 15)] Ar zK (.m J J J (.m J J J (.sub_i64 J J J J oM (.i1 J J J J Y209 Ap j oM oM (.load1 J J J Y22 J Z0 (by exact A3 oM) ?_))))))))))))))))))))))))))))
     refine .m J J J (.add_u64 J J J J (.m J J J (.sub_i64 J J J J oM (.i1 J J J J Y209 Ap (j + 9) oM oM (.load1 J J J Y22 J Z0 (by exact A3 oM) ?_)))))
     refine .add_u64 J J J J (.m J J J (.add_u64 J J J J (.i1 J J J J Y209 Ap (16 + j) oM oM (.s1 J J J J J Ap Z0 (by (simp [schB_length, hA80]; omega)) (by exact A9 _ _ _) zU ?_))))
     refine .nil (Bj (Ae (.region (.m J J J (.aI J J J J oM (.a J J J (.na ?_)))))))
     exact ⟨j + 1, by omega, by omega, Ac (wk1 rfl (wk1 rfl (wk1 (congrArg (fun z => some (i64 z)) oM) wk0))) (wh1 Z0 (wh1 Z1 wh0)) nD⟩
    ·
     obtain rfl : j = 64 := by omega
     rw [hwp.out]
     clear hlj
     refine .exit (A1 (A1 (B5 (Ae (.sr (.lA J J J Y209 J Sz209 Z0 (by (simp [hw80]; done)) ?_))))))
     refine .sA J J J J zB Sz209 (by (simp [hw80]; done)) Z1 sP zV ?_
     refine .na (.ret (An ?_))
     refine ⟨_, [], Ao J J Y209 J Sz209 Z1 (by simp [hw80]), sP, sP, ?_, rfl⟩
     rfl

theorem sha_Kk (k : List UInt64) (hk : Hid (kW = k)) : Meets Tryz.prog 237 [] [] (fun _ => True) (fun v out => v = agg (Af k) ∧ out = []) := by
  rw [← hk.out]; exact sha_K
theorem W8.l_length (R : W8) : R.l.length = 8 := rfl

theorem sha_Piece (st : List UInt64) (hst : st.length = 8) (p : List UInt8) (hp : p.length = 128) (A w k : List UInt64) (R : W8) (hA : Hid (schA p 128 = A)) (hwp : Hid (schB A 64 = w)) (hw : w.length = 80) (hk : Hid (kW = k)) (hk80 : k.length = 80) (hR : Hid (rnds k w (W8.of st) 80 = R)) : Meets Tryz.prog 203 [agg (Af st), agg (Aa p)] [] (fun _ => True) (fun v out => v = agg (Af (addUp st R.l 8)) ∧ out = []) := by
 intro W hW
 refine Ab Tryz.func203 J 127 Tryz.ntmps203 J (.sr (.boxA J J ?_))
 intro n2 hn2 hf2
 refine .boxA J J ?_
 intro n3 hn3 hf3
 refine .alloc (cs := (Af (List.replicate 8 0))) J Zr135 J ?_
 intro n4 hn4 hf4
 refine .nsr (.lA J J J Tryz.underlying191 J Sz191 Z1 (by (simp [hp]; done)) ?_)
 refine .cV J J J J Body236 (sha_schedule p hp A w hA hwp) tV (.cV J J J J Body237 (sha_Kk k hk) tV (.alloc (cs := (Af (List.replicate 80 0))) J Zr209 J ?_))
 intro n5 hn5 hf5
 refine .alloc (cs := (Af (List.replicate 80 0))) J Zr209 J ?_
 intro n6 hn6 hf6
 refine .sA J J J J zB Sz209 (by (simp [hw]; done)) Z1 sP zV ?_
 refine .sA J J J J zB Sz209 (by (simp [hk80]; done)) Z0 sP zU ?_
 refine .na (.seq (.draw [(0, 0), (1, 1), (0, 2), (1, 3), (0, 4), (1, 5), (0, 6), (1, 7), (0, 8), (0, 9), (0, 10), (0, 11)] Ar zK (.i1 J J J J Dc Ap 0 J dE (.load1 J J J Y22 J Z4 (by exact A3 oM) ?_))))
 refine .i1 J J J J Dc Ap 1 J dE (.load1 J J J Y22 J Z4 (by exact A3 oM) ?_)
 refine .i1 J J J J Dc Ap 2 J dE (.load1 J J J Y22 J Z4 (by exact A3 oM) ?_)
 refine .i1 J J J J Dc Ap 3 J dE (.load1 J J J Y22 J Z4 (by exact A3 oM) ?_)
 refine .a J J J (.a J J J (.a J J J (.a J J J (.na (.seq (.draw [(0, 0), (1, 1), (0, 2), (1, 3), (0, 4), (1, 5), (0, 6), (1, 7), (0, 8), (0, 9), (0, 10), (0, 11)] Ar zK (.i1 J J J J Dc Ap 4 J dE (.load1 J J J Y22 J Z4 (by exact A3 oM) ?_))))))))
 refine .i1 J J J J Dc Ap 5 J dE (.load1 J J J Y22 J Z4 (by exact A3 oM) ?_)
 refine .i1 J J J J Dc Ap 6 J dE (.load1 J J J Y22 J Z4 (by exact A3 oM) ?_)
 refine .i1 J J J J Dc Ap 7 J dE (.load1 J J J Y22 J Z4 (by exact A3 oM) ?_)
 refine .a J J J (.a J J J (.a J J J (.a J J J (.na (.seq (.sr (.m J J J (.na (.block (.loop (ι := Nat) (fun t => ⟨[(2, ptr n2 0), (4, ptr n4 0), (5, ptr n5 0), (6, ptr n6 0), (7, u64 (rnds k w (W8.of st) t).a), (8, u64 (rnds k w (W8.of st) t).b), (9, u64 (rnds k w (W8.of st) t).c), (10, u64 (rnds k w (W8.of st) t).d), (11, u64 (rnds k w (W8.of st) t).e), (12, u64 (rnds k w (W8.of st) t).f), (13, u64 (rnds k w (W8.of st) t).g), (14, u64 (rnds k w (W8.of st) t).h), (41, i64 (t : Int))], [⟨n6, Af k, 209, 80⟩, ⟨n5, Af w, 209, 80⟩, ⟨n4, Af (List.replicate 8 0), 135, 8⟩, ⟨n2, Af st, 135, (Af st).length⟩]⟩) (fun t => t ≤ 80) (fun t => 80 - t) (0) ?_ ?_ ?_))))))))))
 · omega
 · exact Ac (wk1 rfl (wk1 rfl (wk1 rfl (wk1 rfl (wk1 rfl (wk1 rfl (wk1 rfl (wk1 rfl (wk1 rfl (wk1 rfl (wk1 rfl (wk1 rfl (wk1 rfl wk0))))))))))))) (wh1 Z0 (wh1 Z1 (wh1 Z2 (wh1 Z4 wh0)))) nD
 ·
  rintro t hi
  refine .sr (.lss J J J J J (.na (.seq (.condP J (fun hc0 => ?_) (fun hc0 => ?_)))))
  ·
   refine .skip (Ae (.seq (.block (.sr (.m J J J (.a J J J (.nsr (.m J J J (.cV J J J J Body238 (bits_rol _ (-14) 50 dE dE dE) tV (.m J J J (.cV J J J J Body238 (bits_rol _ (-18) 46 dE dE dE) tV (.xor_u64 J J J J (.m J J J (.cV J J J J Body238 (bits_rol _ (-41) 23 dE dE dE) tV (.xor_u64 J J J J (.a J J J (.na (.seq (.draw [(0, 0), (0, 1), (0, 2), (0, 3), (0, 4), (0, 5), (0, 6), (0, 7), (0, 8), (0, 9), (0, 10), (0, 11), (0, 12), (0, 13), (1, 14), (0, 15), (0, 16), (0, 17), (1, 18), (0, 19), (0, 20)] Ar zK (.m J J J (.m J J J (.add_u64 J J J J (.m J J J (.m J J J (.and_u64 J J J J (.m J J J (.not_u64 J J J (.m J J J (.and_u64 J J J J (.xor_u64 J J J J (.add_u64 J J J J (.m J J J (.i1 J J J J Y209 Ap _ J oM (.load1 J J J Y22 J Z0 (by exact A3 oM) ?_))))))))))))))))))))))))))))))))))
   refine .add_u64 J J J J (.m J J J (.i1 J J J J Y209 Ap _ J oM (.load1 J J J Y22 J Z1 (by exact A3 oM) ?_)))
   refine .add_u64 J J J J (.a J J J (.nsr (.m J J J (.cV J J J J Body238 (bits_rol _ (-28) 36 dE dE dE) tV (.m J J J (.cV J J J J Body238 (bits_rol _ (-34) 30 dE dE dE) tV (.xor_u64 J J J J (.m J J J (.cV J J J J Body238 (bits_rol _ (-39) 25 dE dE dE) tV (.xor_u64 J J J J (.a J J J (.nsr (.m J J J (.m J J J (.m J J J (.and_u64 J J J J (.m J J J (.m J J J (.and_u64 J J J J (.xor_u64 J J J J (.m J J J (.m J J J (.and_u64 J J J J (.xor_u64 J J J J (.add_u64 J J J J (.a J J J (.na (.region (.m J J J (.m J J J (.add_u64 J J J J (.m J J J (.m J J J (.m J J J (.m J J J (.m J J J (.add_u64 J J J J (.m J J J (.m J J J (.m J J J (.a J J J (.a J J J (.a J J J (.a J J J (.a J J J (.a J J J (.a J J J (.a J J J (.nil (Bj (Ae (.region (.aI J J J J oM (.m J J J (.na ?_)))))))))))))))))))))))))))))))))))))))))))))))))))))))
   exact ⟨t + 1, by omega, by omega, Ac (wk1 rfl (wk1 rfl (wk1 rfl (wk1 rfl (wk1 rfl (wk1 rfl (wk1 rfl (wk1 rfl (wk1 rfl (wk1 rfl (wk1 rfl (wk1 rfl (wk1 rfl wk0))))))))))))) (wh1 Z0 (wh1 Z1 (wh1 Z2 (wh1 Z3 wh0)))) nD⟩
  ·
   obtain rfl : t = 80 := by omega
   rw [hR.out]
   refine .exit (A1 (A1 (B5 (Ae (.seq (.sr (.m J J J (.m J J J (.m J J J (.m J J J (.m J J J (.m J J J (.m J J J (.m J J J (.build (cs := Af R.l) J J J (fun w => by kernel_rfl) ?_)))))))))))))))
   refine .m J J J (.na (.block (.loop (ι := Nat) (fun i => ⟨[(2, ptr n2 0), (4, ptr n4 0), (114, agg (Af R.l)), (115, i64 (i : Int))], [⟨n4, Af (List.replicate 8 0), 135, 8⟩, ⟨n2, Af (addUp st R.l i), 135, (Af st).length⟩]⟩) (fun i => i ≤ 8) (fun i => 8 - i) (0) ?_ ?_ ?_)))
   · omega
   · exact Ac (wk1 rfl (wk1 rfl (wk1 rfl (wk1 rfl wk0)))) (wh1 Z2 (wh1 Z3 wh0)) nD
   ·
    rintro i hi
    have hli := Cg st R.l i
    have hRl := W8.l_length R
    refine .sr (.lss J J J J J (.na (.seq (.condP J (fun hc1 => ?_) (fun hc1 => ?_)))))
    ·
     refine .skip (Ae (.seq (.block (.sr (.m J J J (.idxA1 J J J J Dc Ap Y22 J _ J oM (by exact A3 oM) ?_))))))
     refine .a J J J (.a J J J (.na (.region (.m J J J (.i1 J J J J Dc Ap _ J oM (.load1 J J J Y22 J Z1 (by exact A3 oM) ?_))))))
     refine .m J J J (.add_u64 J J J J (.i1 J J J J Dc Ap _ J oM (.s1 J J J J J Ap Z1 (by (simp [hst, Cg]; omega)) (by exact A9 _ _ _) zV ?_)))
     refine .nil (Bj (Ae (.region (.aI J J J J oM (.m J J J (.na ?_))))))
     exact ⟨i + 1, by omega, by omega, Ac (wk1 rfl (wk1 rfl (wk1 rfl (wk1 rfl wk0)))) (wh1 Z0 (wh1 Z1 wh0)) nD⟩
    ·
     obtain rfl : i = 8 := by omega
     refine .exit (A1 (A1 (B5 (Ae (.sr (.lA J J J Dc J Sz135 Z1 (by (simp [hst, Cg]; done)) ?_))))))
     refine .sA J J J J zB Sz135 (by (simp [hst, Cg]; done)) Z0 sP zU ?_
     refine .na (.ret (An ?_))
     refine ⟨_, [], Ao J J Dc J Sz135 Z0 (by simp [hst, Cg]), sP, sP, ?_, rfl⟩
     rfl

theorem sha_sum (st : List UInt64) (hst : st.length = 8) (s : List UInt8) (hs : Hid (sumUp st 64 = s)) : Meets Tryz.prog 126 [agg (Af st)] [] (fun _ => True) (fun v out => v = agg (Aa s) ∧ out = []) := by
 intro W hW
 have hs64 : s.length = 64 := by rw [← hs.out]; exact Cz st 64
 refine Ab Tryz.func126 J 22 Tryz.ntmps126 J (.sr (.boxA J J ?_))
 intro n1 hn1 hf1
 refine .alloc (cs := (Aa (List.replicate 64 0))) J Zr26 J ?_
 intro n2 hn2 hf2
 refine .nsr (.alloc (cs := (Aa (List.replicate 64 0))) J Zr26 J ?_)
 intro n3 hn3 hf3
 refine .na (.seq (.sr (.m J J J (.na (.block (.loop (ι := Nat) (fun k => ⟨[(1, ptr n1 0), (2, ptr n2 0), (3, ptr n3 0), (5, i64 (k : Int))], [⟨n3, Aa (sumUp st k), 26, 64⟩, ⟨n2, Aa (List.replicate 64 0), 26, 64⟩, ⟨n1, Af st, 135, (Af st).length⟩]⟩) (fun k => k ≤ 64) (fun k => 64 - k) (0) ?_ ?_ ?_))))))
 · omega
 · exact Ac (wk1 rfl (wk1 rfl (wk1 rfl (wk1 rfl wk0)))) (wh1 Z0 (wh1 Z1 (wh1 Z2 wh0))) nD
 ·
  rintro k hi
  have hlk := Cz st k
  refine .sr (.lss J J J J J (.na (.seq (.condP J (fun hc0 => ?_) (fun hc0 => ?_)))))
  ·
   refine .skip (Ae (.seq (.block (.sr (.m J J J (.a J J J (.na (.region (.m J J J (.m J J J (.quo_i64 J J J J oM (.i1 J J J J Dc Ap (k / 8) oM oM (.load1 J J J Y22 J Z2 (by exact A3 oM) ?_)))))))))))))
   refine .m J J J (.rem_i64 J J J J oM (.mul_i64 J J J J oM (.sub_i64 J J J J oM (.shr_u64 J J J J (56 - 8 * (k % 8)) oM oM (.conv J J J Y22 Y5 (Cm _) (.i1 J J J J Y26 Sz5 _ J oM (.s1 J J J J J Sz5 Z0 (by (simp [Cz]; omega)) (by exact Bb _ _ _) zU ?_)))))))
   refine .nil (Bj (Ae (.region (.aI J J J J oM (.m J J J (.na ?_))))))
   exact ⟨k + 1, by omega, by omega, Ac (wk1 rfl (wk1 rfl (wk1 rfl (wk1 rfl wk0)))) (wh1 Z0 (wh1 Z1 (wh1 Z2 wh0))) nD⟩
  ·
   obtain rfl : k = 64 := by omega
   rw [hs.out]
   clear hlk
   refine .exit (A1 (A1 (B5 (Ae (.sr (.lA J J J Y26 J Sz26 Z0 (by (simp [hs64]; done)) ?_))))))
   refine .sA J J J J zE Sz26 (by (simp [hs64]; done)) Z1 sP zV ?_
   refine .na (.ret (An ?_))
   refine ⟨_, [], Ao J J Y26 J Sz26 Z1 (by simp [hs64]), sP, sP, ?_, rfl⟩
   rfl

end Go.Proofs.YtpacobmjjjillaaGreat
end

section
namespace Go.Proofs.YtpacobmjjjillaaGreat
open Go Hw

theorem and_low {x : UInt64} (h : x.toNat < 4294967296) : x &&& 4294967295 = x := by
  apply UInt64.toNat_inj.1
  rw [UInt64.toNat_and]
  show x.toNat &&& (2 ^ 32 - 1) = x.toNat
  rw [Nat.and_two_pow_sub_one_eq_mod, Nat.mod_eq_of_lt oM]
theorem shr_small {x : UInt64} {n : Nat} (h : x.toNat < 2 ^ n) : As x n = 0 := by
  apply UInt64.toNat_inj.1
  rw [shr64_nat, Nat.div_eq_of_lt h]; rfl
theorem mul8_nat {x : UInt64} (h : x.toNat < 536870912) : (x * 8).toNat = x.toNat * 8 := by
  rw [UInt64.toNat_mul]; show x.toNat * 8 % 18446744073709551616 = _; omega

theorem bits_mul8 (x : UInt64) (hx : x.toNat < 536870912) : Meets Tryz.prog 163 [u64 x, u64 8] [] (fun _ => True) (fun v out => v = .tuple #[u64 0, u64 (x * 8)] ∧ out = []) := by
 intro W hW
 have h1 := and_low (x := x) oM
 have h2 := shr_small (x := x) (n := 32) oM
 have h3 := mul8_nat hx
 have h4 := shr_small (x := x * 8) (n := 32) oM
 refine Ab Tryz.func163 J 51 Tryz.ntmps163 J (.sr (.a J J (show Ah _ _ = some (u64 0) from rfl) (.a J J (show Ah _ _ = some (u64 0) from rfl) (.nsr (.m J J J (.and_u64 J J J (show Ah _ _ = some (u64 4294967295) from rfl) (.a J J J (.nsr (.m J J J (.shr_u64 J J J J 32 oM oM (.a J J J (.nsr (.m J J J (.and_u64 J J J (show Ah _ _ = some (u64 4294967295) from rfl) (.a J J J (.nsr (.m J J J (.shr_u64 J J (show Ah _ _ = some (u64 8) from rfl) J 32 oM oM (.a J J J (.nsr (.m J J J (.m J J J (.mul_u64 J J J J (.a J J J (.nsr (.m J J J (.m J J J (.mul_u64 J J J J (.m J J J (.shr_u64 J J J J 32 J dE (.add_u64 J J J J (.a J J J (.nsr (.m J J J (.and_u64 J J J (show Ah _ _ = some (u64 4294967295) from rfl) (.a J J J (.nsr (.m J J J (.shr_u64 J J J J 32 J dE (.a J J J (.nsr (.m J J J (.m J J J (.m J J J (.mul_u64 J J J J (.add_u64 J J J J (.a J J J (.nsr (.m J J J (.m J J J (.mul_u64 J J J J (.m J J J (.add_u64 J J J J (.m J J J (.shr_u64 J J J J 32 J dE (.add_u64 J J J J (.a J J J (.nsr (.m J J J (.m J J J (.mul_u64 J J J J (.a J J J (.na (.ret (An ?_)))))))))))))))))))))))))))))))))))))))))))))))))))))))))))))))))
 refine ⟨_, [], res_tmp2 J J J, sP, sP, ?_, rfl⟩
 simp only [h1, h2, show As 8 32 = 0 from rfl, show (8 : UInt64) &&& 4294967295 = 8 from rfl]
 rw [h4, UInt64.mul_zero (a := x)]
 rfl

theorem bytesV_app (a b : List UInt8) : Aa (a ++ b) = Aa a ++ Aa b := List.map_append
theorem sl_get {ss : List Sl} {j : Nat} (h : j < ss.length) : (ss.map Sl.v)[j]? = some (ss.getD j Sl.nil).v := by simp [List.getElem?_eq_getElem h, List.getD]
theorem take_flat {ls : List (List UInt8)} {j : Nat} (h : j < ls.length) : (ls.take (j + 1)).flatten = (ls.take j).flatten ++ ls.getD j [] := by
  rw [List.take_succ_eq_append_getElem h, List.flatten_append]
  simp [List.getD, h]
theorem take_flat_le (ls : List (List UInt8)) (j : Nat) : (ls.take j).flatten.length ≤ ls.flatten.length := by
  have : ls.flatten = (ls.take j).flatten ++ (ls.drop j).flatten := by rw [← List.flatten_append, List.take_append_drop]
  rw [this, List.length_append]; omega

theorem sha_padded (p : Option Addr) (n c : Nat) (ss : List Sl) (ls : List (List UInt8)) (hss : ss.length = n) (hls : ls.length = n) (hsl : ∀ j, j < n → (ss.getD j Sl.nil).n = (ls.getD j []).length ∧ ((ss.getD j Sl.nil).p = none → (ss.getD j Sl.nil).n = 0)) (F : List UInt8) (hF : ls.flatten = F) (htot : F.length ≤ 90000) (hn : n ≤ 1000000) : Meets Tryz.prog 202 [.slice p n c] [] (fun W => SeesP W p (ss.map Sl.v) ∧ ∀ j, j < n → SeesP W (ss.getD j Sl.nil).p (Aa (ls.getD j []))) (fun v out => ∃ s, v = s.v ∧ Acc s out (Aa (padB F)) 5 (padB F).length 1) := by
 intro W hW
 have hz := padZ_lt F.length
 have hle := take_flat_le ls
 rw [hF] at hle
 refine Ab Tryz.func202 J 76 Tryz.ntmps202 J (.sr (.a J J J (.nsr (.a J J J (.na (.seq (.sr (.m J J J (.lenSl J J J Y133 (.m J J J (.na (.block (.loop (ι := Nat) (fun k => ⟨[(0, .slice p n c), (3, i64 ((ls.take k).flatten.length : Int)), (14, .slice p n c), (15, i64 (n : Int)), (16, i64 (k : Int))], []⟩) (fun k => k ≤ n) (fun k => n - k) (0) ?_ ?_ ?_)))))))))))))
 · omega
 · exact Bh (wk1 rfl (wk1 rfl (wk1 rfl (wk1 rfl (wk1 rfl wk0))))) Au
 ·
  rintro k hi
  refine .sr (.lss J J J J J (.na (.seq (.condP J (fun hc0 => ?_) (fun hc0 => ?_)))))
  ·
   have hk3 : k < n := by omega
   obtain ⟨b, o, hbp, hbs⟩ := hW.1.at (by rw [List.length_map]; omega)
   have hv : W.cell? ⟨b, o + k * 1, none⟩ = some (ss.getD k Sl.nil).v := by rw [Nat.mul_one]; exact hbs k _ (sl_get oM)
   have hstep := hle (k + 1)
   rw [take_flat oM, List.length_append, ← (hsl k oM).1] at hstep
   refine .skip (Ae (.seq (.block (.sr (.idxSlP 1 J J J hbp J Y133 Co k J oM (.loadE J J J Y39 J sP (hv) (.a J J J (.na (.region (.m J J J (.m J J J (.lenSl J J J Y39 (.aI J J J J oM (.a J J J (.nil (Bj (Ae (.region (.aI J J J J oM (.m J J J (.na ?_)))))))))))))))))))))
   exact ⟨k + 1, by omega, by omega, Bh (wk1 rfl (wk1 (congrArg (fun z => some (i64 z)) (by rw [take_flat oM, List.length_append, (hsl k oM).1]; simp)) (wk1 rfl (wk1 rfl (wk1 rfl wk0))))) Au⟩
  ·
   have hk3 : k = n := by omega
   rw [hk3, List.take_of_length_le oM, hF]
   refine .exit (A1 (A1 (B5 (Ae (.sr (.m J J J (.aI J J J J oM (.quo_i64 J J J J oM (.mul_i64 J J J J oM (.aI J J J J oM (.mkRoom (z := u8 0) (by' := 1) ((F.length + 16) / 128 * 128 + 128) J J J J oM Y39 Sz5 Zr5 (by unfold By; kernel_rfl) J oM oM ?_)))))))))))
   intro q30
   refine .a J J J (.na (.seq (.sr (.m J J J (.lenSl J J J Y133 (.m J J J (.na (.block (.loop (ι := Nat × Sl × List Blk) (fun x => ⟨[(3, i64 (F.length : Int)), (6, x.2.1.v), (31, .slice p n c), (32, i64 (n : Int)), (33, i64 (x.1 : Int))], (x.2.2 ++ [])⟩) (fun x => x.1 ≤ n ∧ Acc x.2.1 x.2.2 (Aa (ls.take x.1).flatten) 5 (ls.take x.1).flatten.length 1) (fun x => n - x.1) ((0, ⟨some ⟨q30, 0, none⟩, 0, (F.length + 16) / 128 * 128 + 128⟩, [⟨q30, [], 5, ((F.length + 16) / 128 * 128 + 128) * 1⟩])) ?_ ?_ ?_)))))))))
   · exact ⟨Nat.zero_le _, Acc.some (Nat.zero_le _) rfl⟩
   · exact Bh (wk1 rfl (wk1 rfl (wk1 rfl (wk1 rfl (wk1 rfl wk0))))) (pm_consE rM rfl (Nat.mul_one _).symm Au)
   ·
    rintro x ⟨hx, hax⟩
    refine .sr (.lss J J J J J (.na (.seq (.condP J (fun hc1 => ?_) (fun hc1 => ?_)))))
    ·
     have hx3 : x.1 < n := by omega
     obtain ⟨b, o, hbp, hbs⟩ := hW.1.at (by rw [List.length_map]; omega)
     have hv : W.cell? ⟨b, o + x.1 * 1, none⟩ = some (ss.getD x.1 Sl.nil).v := by rw [Nat.mul_one]; exact hbs x.1 _ (sl_get oM)
     have hstep := hle (x.1 + 1)
     rw [take_flat oM, List.length_append, ← (hsl x.1 oM).1] at hstep
     refine .skip (Ae (.seq (.block (.sr (.idxSlP 1 J J J hbp J Y133 Co x.1 J oM (.loadE J J J Y39 J sP (hv) (.a J J J (.na (.region (.m J J J (.m J J J (.appendAcc (z := u8 0) (by' := 1) (Aa (ls.getD x.1 [])) J J J J J Y39 Y39 Sz5 Zr5 (by unfold By; kernel_rfl) J hax sG (fun w h => Ax h J (hW.2 x.1 oM)) (hsl x.1 oM).2 (Aw _) oM oM (by rw [Aa, List.length_map, Nat.mul_one]; exact (hsl x.1 oM).1.symm) ?_))))))))))))
     intro s39 bl39 hac39
     refine .a J J J (.nil (Bj (Ae (.region (.aI J J J J oM (.m J J J (.na ?_)))))))
     refine ⟨(x.1 + 1, s39, bl39), ⟨by simp only []; omega, ?_⟩, by simp only []; omega, Bh (wk1 J (wk1 J (wk1 J (wk1 J (wk1 J wk0))))) (B6 sG Au)⟩
     rw [take_flat oM, List.length_append, ← (hsl x.1 oM).1]
     simpa [Aa] using hac39
    ·
     have hx3 : x.1 = n := by omega
     rw [hx3, List.take_of_length_le oM, hF] at hax
     refine .exit (A1 (A1 (B5 (Ae (.sr (.m J J J (.mkRow (z := u8 0) [u8 (128)] (Aa [128]) J J J Y39 Sz5 Zr5 J J (by intro v hv; rw [List.mem_singleton.1 hv]; rfl) dE J ?_)))))))
     intro q42
     refine .appendAcc (z := u8 0) (by' := 1) (Aa [128]) J J J J J Y39 Y39 Sz5 Zr5 (by unfold By; kernel_rfl) J hax sG (fun w h => SeesP.of (Ak h Z0)) (fun e => by cases e) (Aw _) oM oM (by rfl) ?_
     intro s43 bl43 hac43
     refine .a J J J (.na (.seq (.block (.loop (ι := Nat × Sl × List Blk) (fun z => ⟨[(3, i64 (F.length : Int)), (6, z.2.1.v)], (z.2.2 ++ [])⟩) (fun z => z.1 ≤ padZ F.length ∧ Acc z.2.1 z.2.2 (Aa (F ++ [128] ++ List.replicate z.1 0)) 5 (F.length + 1 + z.1) 1) (fun z => padZ F.length - z.1) ((0, s43, bl43)) ?_ ?_ ?_))))
     · exact ⟨Nat.zero_le _, by simpa [Aa] using hac43⟩
     · exact Bh (wk1 rfl (wk1 rfl wk0)) (B6 sG Au)
     ·
      rintro z ⟨hz1, haz⟩
      have hzn := haz.num
      have hpz := padZ_at F.length z.1 hz1
      refine .seq (.sr (.m J J J (.lenSl J J J Y39 (.rem_i64 J J J J oM (.nei J J J J J (.na (.condNP J (fun hc2 => ?_) (fun hc2 => ?_))))))))
      ·
       have hz3 : z.1 < padZ F.length := by omega
       refine .skip (Ae (.block (.region (.m J J J (.mkRow (z := u8 0) [u8 (0)] (Aa [0]) J J J Y39 Sz5 Zr5 J J (by intro v hv; rw [List.mem_singleton.1 hv]; rfl) dE J ?_)))))
       intro q49
       refine .appendAcc (z := u8 0) (by' := 1) (Aa [0]) J J J J J Y39 Y39 Sz5 Zr5 (by unfold By; kernel_rfl) J haz sG (fun w h => SeesP.of (Ak h Z0)) (fun e => by cases e) (Aw _) oM oM (by rfl) ?_
       intro s50 bl50 hac50
       refine .a J J J (.nil (Bj (Ae ?_)))
       refine ⟨(z.1 + 1, s50, bl50), ⟨by simp only []; omega, ?_⟩, by simp only []; omega, Bh (wk1 J (wk1 J wk0)) (B6 sG Au)⟩
       rw [List.replicate_succ', ← List.append_assoc]
       simpa [Aa, Nat.add_assoc] using hac50
      ·
       have hz3 : z.1 = padZ F.length := by omega
       rw [hz3] at haz
       refine .exit (A1 (A1 (B5 (Ae (.sr (.m J J J (.conv J J J Y3 Y22 (A4 _) ?_)))))))
       rw [word_nat (n := F.length) oM]
       refine .cV J J J J Body163 (bits_mul8 (UInt64.ofNat F.length) (by rw [ofNat_nat oM]; omega)) tV ?_
       refine .m J J J (.eX J J J J (.eX J J J J (.a J J J (.a J J J (.na (.seq (.sr (.m J J J (.m J J J (.build (cs := [u64 0, u64 (UInt64.ofNat F.length * 8)]) J J J (fun w => by kernel_rfl) ?_))))))))))
       refine .m J J J (.na (.block (.rounds 3 (SRounds.more (.sr (.lss J J J J J (.na (.seq (.cond_t J (rfl) (.skip (Ae (.seq (.block (.sr (.idxA1 J J J J Tryz.underlying208 Ap Y22 J 0 J oM J (.a J J J (.nsr (.a J J J (.na (.block (.loop (ι := Nat × Sl × List Blk) (fun y => ⟨[(3, i64 (F.length : Int)), (6, y.2.1.v), (12, u64 (0)), (13, i64 (56 - 8 * (y.1 : Int))), (59, agg [u64 0, u64 (UInt64.ofNat F.length * 8)]), (60, i64 0)], (y.2.2 ++ [])⟩) (fun y => y.1 ≤ 8 ∧ Acc y.2.1 y.2.2 (Aa (F ++ [128] ++ List.replicate (padZ F.length) 0 ++ beUp (0) y.1)) 5 ((F.length + 1 + padZ F.length) + y.1) 1) (fun y => 8 - y.1) ((0, z.2.1, z.2.2)) ?_ ?_ ?_)))))))))))))))))))))
       · exact ⟨Nat.zero_le _, by simpa [beUp] using haz⟩
       · exact Bh (wk1 rfl (wk1 rfl (wk1 rfl (wk1 rfl (wk1 rfl (wk1 rfl wk0)))))) (B6 sG Au)
       ·
        rintro y ⟨hy, hay⟩
        refine .seq (.sr (.m J J J (.geq J J J J J (.na (.condP J (fun hc4 => ?_) (fun hc4 => ?_))))))
        ·
         have hy3 : y.1 ≤ 7 := by omega
         refine .skip (Ae (.seq (.block (.region (.m J J J (.m J J J (.m J J J (.shr_u64 J J J J (56 - 8 * y.1) oM oM (.conv J J J Y22 Y5 (Cm _) (.mkRow (z := u8 0) [u8 ((As 0 (56 - 8 * y.1)).toUInt8)] (Aa [(As 0 (56 - 8 * y.1)).toUInt8]) J J J Y39 Sz5 Zr5 J J (by intro v hv; rw [List.mem_singleton.1 hv]; rfl) dE J ?_))))))))))
         intro q72
         refine .appendAcc (z := u8 0) (by' := 1) (Aa [(As 0 (56 - 8 * y.1)).toUInt8]) J J J J J Y39 Y39 Sz5 Zr5 (by unfold By; kernel_rfl) J hay sG (fun w h => SeesP.of (Ak h Z0)) (fun e => by cases e) (Aw _) oM oM (by rfl) ?_
         intro s73 bl73 hac73
         refine .a J J J (.nil (Bj (Ae (.region (.m J J J (.sub_i64 J J J J oM (.a J J J (.na ?_))))))))
         refine ⟨(y.1 + 1, s73, bl73), ⟨by simp only []; omega, ?_⟩, by simp only []; omega, Bh (wk1 J (wk1 J (wk1 J (wk1 (congrArg (fun z => some (i64 z)) oM) (wk1 J (wk1 J wk0)))))) (B6 sG Au)⟩
         rw [show beUp (0) (y.1 + 1) = beUp (0) y.1 ++ [(As (0) (56 - 8 * y.1)).toUInt8] from rfl, ← List.append_assoc, bytesV_app]
         exact hac73
        ·
         have hy3 : y.1 = 8 := by omega
         rw [hy3] at hay
         refine .exit (A1 (A1 (B5 (Bj (Ae (.region (.aI J J J J oM (.m J J J (.na (SRounds.more (.sr (.lss J J J J J (.na (.seq (.cond_t J (rfl) (.skip (Ae (.seq (.block (.sr (.idxA1 J J J J Tryz.underlying208 Ap Y22 J 1 J oM J (.a J J J (.nsr (.a J J J (.na (.block (.loop (ι := Nat × Sl × List Blk) (fun y => ⟨[(3, i64 (F.length : Int)), (6, y.2.1.v), (12, u64 (UInt64.ofNat F.length * 8)), (13, i64 (56 - 8 * (y.1 : Int))), (59, agg [u64 0, u64 (UInt64.ofNat F.length * 8)]), (60, i64 (0 + 1))], (y.2.2 ++ [])⟩) (fun y => y.1 ≤ 8 ∧ Acc y.2.1 y.2.2 (Aa (F ++ [128] ++ List.replicate (padZ F.length) 0 ++ beUp 0 8 ++ beUp (UInt64.ofNat F.length * 8) y.1)) 5 ((F.length + 1 + padZ F.length + 8) + y.1) 1) (fun y => 8 - y.1) ((0, y.2.1, y.2.2)) ?_ ?_ ?_)))))))))))))))))))))))))))
         · exact ⟨Nat.zero_le _, by simpa [beUp] using hay⟩
         · exact Bh (wk1 rfl (wk1 rfl (wk1 rfl (wk1 rfl (wk1 rfl (wk1 rfl wk0)))))) (B6 sG Au)
         ·
          rintro y ⟨hy, hay⟩
          refine .seq (.sr (.m J J J (.geq J J J J J (.na (.condP J (fun hc4 => ?_) (fun hc4 => ?_))))))
          ·
           have hy3 : y.1 ≤ 7 := by omega
           refine .skip (Ae (.seq (.block (.region (.m J J J (.m J J J (.m J J J (.shr_u64 J J J J (56 - 8 * y.1) oM oM (.conv J J J Y22 Y5 (Cm _) (.mkRow (z := u8 0) [u8 ((As (UInt64.ofNat F.length * 8) (56 - 8 * y.1)).toUInt8)] (Aa [(As (UInt64.ofNat F.length * 8) (56 - 8 * y.1)).toUInt8]) J J J Y39 Sz5 Zr5 J J (by intro v hv; rw [List.mem_singleton.1 hv]; rfl) dE J ?_))))))))))
           intro q72
           refine .appendAcc (z := u8 0) (by' := 1) (Aa [(As (UInt64.ofNat F.length * 8) (56 - 8 * y.1)).toUInt8]) J J J J J Y39 Y39 Sz5 Zr5 (by unfold By; kernel_rfl) J hay sG (fun w h => SeesP.of (Ak h Z0)) (fun e => by cases e) (Aw _) oM oM (by rfl) ?_
           intro s73 bl73 hac73
           refine .a J J J (.nil (Bj (Ae (.region (.m J J J (.sub_i64 J J J J oM (.a J J J (.na ?_))))))))
           refine ⟨(y.1 + 1, s73, bl73), ⟨by simp only []; omega, ?_⟩, by simp only []; omega, Bh (wk1 J (wk1 J (wk1 J (wk1 (congrArg (fun z => some (i64 z)) oM) (wk1 J (wk1 J wk0)))))) (B6 sG Au)⟩
           rw [show beUp (UInt64.ofNat F.length * 8) (y.1 + 1) = beUp (UInt64.ofNat F.length * 8) y.1 ++ [(As (UInt64.ofNat F.length * 8) (56 - 8 * y.1)).toUInt8] from rfl, ← List.append_assoc, bytesV_app]
           exact hac73
          ·
           have hy3 : y.1 = 8 := by omega
           rw [hy3] at hay
           refine .exit (A1 (A1 (B5 (Bj (Ae (.region (.aI J J J J oM (.m J J J (.na (SRounds.more (.sr (.lss J J J J J (.na (.seq (.cond_f J (rfl) (.exit (A1 (A1 (B5 (Ae (.sr (.m J J J (.a J J J (.na (.ret (An (Be (out := (y.2.2 ++ [])) (Ag J J) (B6 sG Au) ?_)))))))))))))))))))))))))))
           refine ⟨y.2.1, rfl, ?_⟩
           have e8 : UInt64.ofNat F.length * 8 = UInt64.ofNat (8 * F.length) := by
            apply UInt64.toNat_inj.1
            rw [mul8_nat (by rw [ofNat_nat oM]; omega), ofNat_nat oM, ofNat_nat oM]; omega
           rw [e8] at hay
           rw [padB_length, padB]
           simpa [Nat.add_assoc, Nat.add_comm, Nat.add_left_comm] using hay

end Go.Proofs.YtpacobmjjjillaaGreat
end
