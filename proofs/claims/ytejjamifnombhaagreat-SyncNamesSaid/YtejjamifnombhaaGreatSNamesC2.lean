/- Contracts of functions of the loaded program, and the lemmas that they need (part 2). It proves no statement by itself; it has no conditions. -/
import Derived.WalkKit
import Derived.Orders
import Derived.Deep.LoopGhost
import Derived.IntWalk
import Derived.Laws.StructEq
import Derived.ArgAppend
import Derived.Deep.AppendSrc
import Derived.Lib.Bytealg
import Derived.Lib.BytesEntry
import Derived.Laws.IdiomStrings
import Derived.WideKeyArr2
import Derived.ProofKit
import Derived.OpenShut
import Derived.Deep.Slices
import Derived.Laws.Pointers
import Derived.Laws.Cover3
import Derived.LaidEqlPtr
import Derived.LoopN
import Derived.RangeFuncLeaves
import Derived.RangeFuncSeq
import Derived.OrdersIn
import Derived.Test.YtejjamifnombhaaGreatRows
import Derived.KernelRfl
import Derived.Laws.Externs
import Derived.ChangeOld
import Derived.Below
import Derived.Test.YtejjamifnombhaaGreatSNamesC1
section
namespace Go.Proofs.YtejjamifnombhaaGreat
open Go Hw
set_option linter.unusedVariables false
set_option linter.unusedSimpArgs false


def badAt (prev : List UInt8) (ls : List (List UInt8)) (i : Nat) : Bool := decide (ls.getD i [] = List.replicate 32 0) || (decide (ls.getD i [] = prev) || (decide ((0 : Int) < (i : Int)) && decide ((0 : Int) ≤ cmpB (ls.getD (i - 1) []) (ls.getD i []))))
def linksBad (prev : List UInt8) (ls : List (List UInt8)) : Bool := (List.range ls.length).any (badAt prev ls)
def bheadB (B : Block) : Bool := decide ((4294967295 : Int) < (B.fSeq.toNat : Int)) || (!decide (decide (B.fPrev = List.replicate 32 0) = decide ((B.fSeq.toNat : Int) = 0)) || (decide ((16 : Int) < (B.fLinks.n : Int)) || decide ((512 : Int) < (B.fData.n : Int))))
def bhead (B : Block) : Prop := bheadB B = true
theorem linksBad_at {prev : List UInt8} {ls : List (List UInt8)} {k : Nat} (hk : k < ls.length) (h : badAt prev ls k = true) : linksBad prev ls = true := by
  rw [linksBad, List.any_eq_true]; exact ⟨k, List.mem_range.2 hk, h⟩
theorem linksBad_not {prev : List UInt8} {ls : List (List UInt8)} (h : ∀ j, j < ls.length → badAt prev ls j = false) : linksBad prev ls = false := by
  rw [linksBad, List.any_eq_false]; intro x hx; rw [h x (List.mem_range.1 hx)]; simp
def bcheck (B : Block) (ls : List (List UInt8)) : Int := if bheadB B = true then 2 else (if linksBad B.fPrev ls = true then 2 else 0)
theorem bcheck_head {B : Block} {ls : List (List UInt8)} (h : bhead B) : bcheck B ls = 2 := by unfold bcheck; unfold bhead at h; rw [if_pos h]
theorem bcheck_bad {B : Block} {ls : List (List UInt8)} (h : ¬ bhead B) (hb : linksBad B.fPrev ls = true) : bcheck B ls = 2 := by unfold bcheck; unfold bhead at h; rw [if_neg h, if_pos hb]
theorem bcheck_ok {B : Block} {ls : List (List UInt8)} (h : ¬ bhead B) (hb : linksBad B.fPrev ls = false) : bcheck B ls = 0 := by unfold bcheck; unfold bhead at h; rw [if_neg h, if_neg (by rw [hb]; simp)]


set_option maxRecDepth 100000 in
set_option maxHeartbeats 1000000 in
theorem block_cmp (a b : List UInt8) (ha : a.length = 32) (hb : b.length = 32) : Meets Tryz.prog 186 [agg (bytesV a), agg (bytesV b)] [] (fun _ => True) (fun v out => v = i64 (cmpB a b) ∧ out = []) := by
  intro W hW
  refine calls_of (hp0 := []) Tryz.func186 rfl 8 Tryz.ntmps186 rfl (HRep.nil _) ?_
  refine Sat.seq ?_
  -- region 0
  refine Sat.region ?_
  refine Tr.boxA rfl rfl ?_
  intro n2 hn2 hf2
  refine Tr.boxA rfl rfl ?_
  intro n3 hn3 hf3
  refine Tr.assign rfl rfl rfl ?_
  refine Tr.nil ?_
  refine at_n ?_
  refine Sat.seq ?_
  -- region 1
  refine Sat.draw [(0, 0), (0, 1), (3, 2), (0, 3)] Mixed (by kernel_rfl) ?_
  refine Tr.sliceArr rfl rfl rfl Tryz.underlying50 Sz5 ?_
  refine Tr.sliceArr rfl rfl rfl Tryz.underlying50 Sz5 ?_
  refine Tr.callV rfl rfl rfl rfl Body128 (bytes_cmp _ _ _ _ _ _ a b ha hb) (fun W2 h => ⟨SeesP.of (sees_own h (by first | exact mem0 | exact mem1 | exact mem2 | exact mem3 | exact mem4 | exact mem5 | exact mem6 | exact mem7 | (repeat (first | exact List.mem_cons_self | refine List.mem_cons_of_mem _ ?_ | refine mem_seg ?_)))), SeesP.of (sees_own h (by first | exact mem0 | exact mem1 | exact mem2 | exact mem3 | exact mem4 | exact mem5 | exact mem6 | exact mem7 | (repeat (first | exact List.mem_cons_self | refine List.mem_cons_of_mem _ ?_ | refine mem_seg ?_))))⟩) ?_
  refine Tr.assign rfl rfl rfl ?_
  refine Tr.nil ?_
  refine at_n ?_
  refine Sat.ret ?_
  refine en_r ?_
  refine ⟨_, [], res_tmp rfl rfl, (by simp), (by simp), ?_, rfl⟩
  rfl

set_option maxRecDepth 100000 in
set_option maxHeartbeats 4000000 in
theorem block_check (B : Block) (hB : B.ok) (ls : List (List UInt8)) : Meets Tryz.prog 87 [agg B.cells] [] (fun W => RowsAt W B.fLinks 32 ls) (fun v out => v = i64 (bcheck B ls) ∧ out = []) := by
  intro W hW
  have hcx : B.fLinks.n ≤ maxLen := hW.max
  simp only [maxLen] at hcx
  have hcn := hW.cap
  refine calls_of (hp0 := []) Tryz.func87 rfl 65 Tryz.ntmps87 rfl (HRep.nil _) ?_
  refine Sat.seq ?_
  -- region 0
  refine Sat.region ?_
  refine Tr.boxA rfl rfl ?_
  intro n1 hn1 hf1
  refine Tr.assign rfl rfl rfl ?_
  refine Tr.nil ?_
  refine at_n ?_
  refine Sat.seq ?_
  -- region 1
  refine Sat.region ?_
  refine Tr.build (cs := bytesV (List.replicate 32 0)) rfl rfl rfl (fun w => by kernel_rfl) ?_
  refine Tr.alloc (cs := (bytesV (List.replicate 32 0))) rfl Zr50 rfl ?_
  intro n3 hn3 hf3
  first
    | refine Tr.storeAll rfl rfl rfl rfl (by first | exact bytesV_cell _ | simp [isCell]) Sz50 (by first | assumption | (simp [hB.l_fPrev]; done) | (rw [bytesV, List.length_map]; assumption)) (by first | exact mem0 | exact mem1 | exact mem2 | exact mem3 | exact mem4 | exact mem5 | exact mem6 | exact mem7 | (repeat (first | exact List.mem_cons_self | refine List.mem_cons_of_mem _ ?_ | refine mem_seg ?_))) (by first | assumption | (simp [hB.l_fPrev]; done) | (rw [bytesV, List.length_map]; assumption)) (by first | exact upd0 | exact upd1 | exact upd2 | exact upd3 | exact upd4 | exact upd5 | exact upd6 | exact upd7 | (repeat (first | exact upd0 | apply Upd.tail | apply Upd.seg))) ?_
    | refine Tr.storeN _ rfl rfl rfl rfl rfl (by first | exact bytesV_cell _ | simp [isCell]) Sz50 (by first | assumption | (simp [hB.l_fPrev]; done) | (rw [bytesV, List.length_map]; assumption)) (by first | exact mem0 | exact mem1 | exact mem2 | exact mem3 | exact mem4 | exact mem5 | exact mem6 | exact mem7 | (repeat (first | exact List.mem_cons_self | refine List.mem_cons_of_mem _ ?_ | refine mem_seg ?_))) (by first | assumption | (simp [hB.l_fPrev]; done) | (rw [bytesV, List.length_map]; assumption)) (by exact rfl) (by first | exact upd0 | exact upd1 | exact upd2 | exact upd3 | exact upd4 | exact upd5 | exact upd6 | exact upd7 | (repeat (first | exact upd0 | apply Upd.tail | apply Upd.seg))) ?_
  refine Tr.nil ?_
  refine at_n ?_
  refine Sat.seq ?_
  refine Sat.seq ?_
  -- region 2
  refine Sat.draw [(0, 0), (1, 1), (0, 2), (0, 3), (0, 4), (1, 5), (1, 6), (0, 7), (0, 8), (1, 9), (0, 10), (0, 11), (0, 12), (0, 13), (0, 14), (1, 15), (0, 16), (0, 17), (0, 18), (0, 19), (0, 20), (1, 21), (0, 22), (0, 23), (0, 24)] Mixed (by kernel_rfl) ?_
  refine Tr.fld rfl rfl rfl Tryz.underlying79 rfl Sz48 (by decide) _ rfl ?_
  refine Tr.load1 rfl rfl rfl Tryz.underlying48 rfl (by first | exact mem0 | exact mem1 | exact mem2 | exact mem3 | exact mem4 | exact mem5 | exact mem6 | exact mem7 | (repeat (first | exact List.mem_cons_self | refine List.mem_cons_of_mem _ ?_ | refine mem_seg ?_))) (by first | exact Block.get_fSeq (by first | assumption | (simp [hB.l_fPrev]; done) | exact Block.zero_ok | exact Vote.zero_ok ) | exact (by first | rfl | exact get_words (by first | omega | (simp [hB.l_fPrev]; done) | (simp [hB.l_fPrev]; omega)) | exact get_bytes (by first | omega | (simp [hB.l_fPrev]; done) | (simp [hB.l_fPrev]; omega)) | exact get_ints (by first | omega | (simp [hB.l_fPrev]; done) | (simp [hB.l_fPrev]; omega)))) ?_
  refine two (fun r hr k => Tr.gtr rfl rfl rfl rfl hr k) (fun hs2_20 => ?_) (fun hs2_20 => ?_)
  ·
    first | have hs2_2 := of_decide_eq_true hs2_20 | have hs2_2 := of_decide_eq_false hs2_20 | have hs2_2 := nd_t hs2_20 | have hs2_2 := nd_f hs2_20 | have hs2_2 := hs2_20
    refine Tr.move rfl rfl rfl ?_
    refine Tr.skp rfl rfl ?_
    refine Tr.skp rfl rfl ?_
    refine Tr.skp rfl rfl ?_
    refine Tr.skp rfl rfl ?_
    refine Tr.skp rfl rfl ?_
    refine Tr.skp rfl rfl ?_
    refine Tr.skp rfl rfl ?_
    refine Tr.skp rfl rfl ?_
    refine Tr.pick rfl rfl rfl rfl rfl rfl ?_
    refine Tr.move rfl rfl rfl ?_
    refine Tr.skp rfl rfl ?_
    refine Tr.skp rfl rfl ?_
    refine Tr.skp rfl rfl ?_
    refine Tr.skp rfl rfl ?_
    refine Tr.pick rfl rfl rfl rfl rfl rfl ?_
    refine Tr.move rfl rfl rfl ?_
    refine Tr.skp rfl rfl ?_
    refine Tr.skp rfl rfl ?_
    refine Tr.skp rfl rfl ?_
    refine Tr.skp rfl rfl ?_
    refine Tr.pick rfl rfl rfl rfl rfl rfl ?_
    refine Tr.nil ?_
    refine at_n ?_
    refine Sat.cond_t rfl rfl ?_
    refine Sat.seq ?_
    -- region 3
    refine Sat.region ?_
    refine Tr.assign rfl rfl rfl ?_
    refine Tr.nil ?_
    refine at_n ?_
    refine Sat.ret ?_
    refine at_r ?_
    refine en_r ?_
    refine ⟨_, [], res_tmp rfl rfl, (by simp), (by simp), ?_, rfl⟩
    first
      | exact congrArg i64 (bcheck_ok hnb (linksBad_not (by rw [hW.len]; exact hg))).symm
      | exact congrArg i64 (bcheck_bad hnb (linksBad_at (k := k) (by omega) (by unfold badAt; simp_all))).symm
      | exact congrArg i64 (bcheck_head (by unfold bhead bheadB; simp_all)).symm
  ·
    first | have hs2_2 := of_decide_eq_true hs2_20 | have hs2_2 := of_decide_eq_false hs2_20 | have hs2_2 := nd_t hs2_20 | have hs2_2 := nd_f hs2_20 | have hs2_2 := hs2_20
    refine Tr.move rfl rfl rfl ?_
    refine Tr.fld rfl rfl rfl Tryz.underlying79 rfl Sz50 (by decide) _ rfl ?_
    first
      | refine Tr.loadN (bytesV _) rfl rfl rfl Tryz.underlying50 rfl Sz50 (by first | exact mem0 | exact mem1 | exact mem2 | exact mem3 | exact mem4 | exact mem5 | exact mem6 | exact mem7 | (repeat (first | exact List.mem_cons_self | refine List.mem_cons_of_mem _ ?_ | refine mem_seg ?_))) (Block.row_fPrev (by first | assumption | (simp [hB.l_fPrev]; done) | exact Block.zero_ok | exact Vote.zero_ok )) (Block.rl_fPrev (by first | assumption | (simp [hB.l_fPrev]; done) | exact Block.zero_ok | exact Vote.zero_ok )) ?_
    first
      | refine Tr.loadAll rfl rfl rfl Tryz.underlying50 rfl Sz50 (by first | exact mem0 | exact mem1 | exact mem2 | exact mem3 | exact mem4 | exact mem5 | exact mem6 | exact mem7 | (repeat (first | exact List.mem_cons_self | refine List.mem_cons_of_mem _ ?_ | refine mem_seg ?_))) (by first | assumption | (simp [hB.l_fPrev]; done) | (rw [bytesV, List.length_map]; assumption)) ?_
      | refine Tr.loadN _ rfl rfl rfl Tryz.underlying50 rfl Sz50 (by first | exact mem0 | exact mem1 | exact mem2 | exact mem3 | exact mem4 | exact mem5 | exact mem6 | exact mem7 | (repeat (first | exact List.mem_cons_self | refine List.mem_cons_of_mem _ ?_ | refine mem_seg ?_))) (by exact rfl) (by first | assumption | (simp [hB.l_fPrev]; done) | (rw [bytesV, List.length_map]; assumption)) ?_
    refine Tr.eql_bytes rfl rfl rfl rfl Tryz.eqGuardType50 Tryz.underlying50 Tryz.underlying5 Sz5 (by first | assumption | (simp [hB.l_fPrev]; done) | (rw [bytesV, List.length_map]; assumption)) (by first | assumption | (simp [hB.l_fPrev]; done) | (rw [bytesV, List.length_map]; assumption)) rfl ?_
    refine Tr.fld rfl rfl rfl Tryz.underlying79 rfl Sz48 (by decide) _ rfl ?_
    refine Tr.load1 rfl rfl rfl Tryz.underlying48 rfl (by first | exact mem0 | exact mem1 | exact mem2 | exact mem3 | exact mem4 | exact mem5 | exact mem6 | exact mem7 | (repeat (first | exact List.mem_cons_self | refine List.mem_cons_of_mem _ ?_ | refine mem_seg ?_))) (by first | exact Block.get_fSeq (by first | assumption | (simp [hB.l_fPrev]; done) | exact Block.zero_ok | exact Vote.zero_ok ) | exact (by first | rfl | exact get_words (by first | omega | (simp [hB.l_fPrev]; done) | (simp [hB.l_fPrev]; omega)) | exact get_bytes (by first | omega | (simp [hB.l_fPrev]; done) | (simp [hB.l_fPrev]; omega)) | exact get_ints (by first | omega | (simp [hB.l_fPrev]; done) | (simp [hB.l_fPrev]; omega)))) ?_
    refine Tr.eqi rfl rfl rfl rfl rfl ?_
    refine two (fun r hr k => Tr.neb rfl rfl rfl rfl Tryz.underlying4 hr k) (fun hs2_110 => ?_) (fun hs2_110 => ?_)
    ·
      first | have hs2_11 := of_decide_eq_true hs2_110 | have hs2_11 := of_decide_eq_false hs2_110 | have hs2_11 := nd_t hs2_110 | have hs2_11 := nd_f hs2_110 | have hs2_11 := hs2_110
      refine Tr.pick rfl rfl rfl rfl rfl rfl ?_
      refine Tr.move rfl rfl rfl ?_
      refine Tr.skp rfl rfl ?_
      refine Tr.skp rfl rfl ?_
      refine Tr.skp rfl rfl ?_
      refine Tr.skp rfl rfl ?_
      refine Tr.pick rfl rfl rfl rfl rfl rfl ?_
      refine Tr.move rfl rfl rfl ?_
      refine Tr.skp rfl rfl ?_
      refine Tr.skp rfl rfl ?_
      refine Tr.skp rfl rfl ?_
      refine Tr.skp rfl rfl ?_
      refine Tr.pick rfl rfl rfl rfl rfl rfl ?_
      refine Tr.nil ?_
      refine at_n ?_
      refine Sat.cond_t rfl rfl ?_
      refine Sat.seq ?_
      -- region 3
      refine Sat.region ?_
      refine Tr.assign rfl rfl rfl ?_
      refine Tr.nil ?_
      refine at_n ?_
      refine Sat.ret ?_
      refine at_r ?_
      refine en_r ?_
      refine ⟨_, [], res_tmp rfl rfl, (by simp), (by simp), ?_, rfl⟩
      first
        | exact congrArg i64 (bcheck_ok hnb (linksBad_not (by rw [hW.len]; exact hg))).symm
        | exact congrArg i64 (bcheck_bad hnb (linksBad_at (k := k) (by omega) (by unfold badAt; simp_all))).symm
        | exact congrArg i64 (bcheck_head (by unfold bhead bheadB; simp_all)).symm
    ·
      first | have hs2_11 := of_decide_eq_true hs2_110 | have hs2_11 := of_decide_eq_false hs2_110 | have hs2_11 := nd_t hs2_110 | have hs2_11 := nd_f hs2_110 | have hs2_11 := hs2_110
      refine Tr.pick rfl rfl rfl rfl rfl rfl ?_
      refine Tr.move rfl rfl rfl ?_
      refine Tr.fld rfl rfl rfl Tryz.underlying79 rfl Sz51 (by decide) _ rfl ?_
      refine Tr.load1 rfl rfl rfl Tryz.underlying51 rfl (by first | exact mem0 | exact mem1 | exact mem2 | exact mem3 | exact mem4 | exact mem5 | exact mem6 | exact mem7 | (repeat (first | exact List.mem_cons_self | refine List.mem_cons_of_mem _ ?_ | refine mem_seg ?_))) (by first | exact Block.get_fLinks (by first | assumption | (simp [hB.l_fPrev]; done) | exact Block.zero_ok | exact Vote.zero_ok ) | exact (by first | rfl | exact get_words (by first | omega | (simp [hB.l_fPrev]; done) | (simp [hB.l_fPrev]; omega)) | exact get_bytes (by first | omega | (simp [hB.l_fPrev]; done) | (simp [hB.l_fPrev]; omega)) | exact get_ints (by first | omega | (simp [hB.l_fPrev]; done) | (simp [hB.l_fPrev]; omega)))) ?_
      refine Tr.lenSl rfl rfl rfl Tryz.underlying51 ?_
      refine two (fun r hr k => Tr.gtr rfl rfl rfl rfl hr k) (fun hs2_170 => ?_) (fun hs2_170 => ?_)
      ·
        first | have hs2_17 := of_decide_eq_true hs2_170 | have hs2_17 := of_decide_eq_false hs2_170 | have hs2_17 := nd_t hs2_170 | have hs2_17 := nd_f hs2_170 | have hs2_17 := hs2_170
        refine Tr.pick rfl rfl rfl rfl rfl rfl ?_
        refine Tr.move rfl rfl rfl ?_
        refine Tr.skp rfl rfl ?_
        refine Tr.skp rfl rfl ?_
        refine Tr.skp rfl rfl ?_
        refine Tr.skp rfl rfl ?_
        refine Tr.pick rfl rfl rfl rfl rfl rfl ?_
        refine Tr.nil ?_
        refine at_n ?_
        refine Sat.cond_t rfl rfl ?_
        refine Sat.seq ?_
        -- region 3
        refine Sat.region ?_
        refine Tr.assign rfl rfl rfl ?_
        refine Tr.nil ?_
        refine at_n ?_
        refine Sat.ret ?_
        refine at_r ?_
        refine en_r ?_
        refine ⟨_, [], res_tmp rfl rfl, (by simp), (by simp), ?_, rfl⟩
        first
          | exact congrArg i64 (bcheck_ok hnb (linksBad_not (by rw [hW.len]; exact hg))).symm
          | exact congrArg i64 (bcheck_bad hnb (linksBad_at (k := k) (by omega) (by unfold badAt; simp_all))).symm
          | exact congrArg i64 (bcheck_head (by unfold bhead bheadB; simp_all)).symm
      ·
        first | have hs2_17 := of_decide_eq_true hs2_170 | have hs2_17 := of_decide_eq_false hs2_170 | have hs2_17 := nd_t hs2_170 | have hs2_17 := nd_f hs2_170 | have hs2_17 := hs2_170
        refine Tr.pick rfl rfl rfl rfl rfl rfl ?_
        refine Tr.move rfl rfl rfl ?_
        refine Tr.fld rfl rfl rfl Tryz.underlying79 rfl Sz58 (by decide) _ rfl ?_
        refine Tr.load1 rfl rfl rfl Tryz.underlying58 rfl (by first | exact mem0 | exact mem1 | exact mem2 | exact mem3 | exact mem4 | exact mem5 | exact mem6 | exact mem7 | (repeat (first | exact List.mem_cons_self | refine List.mem_cons_of_mem _ ?_ | refine mem_seg ?_))) (by first | exact Block.get_fData (by first | assumption | (simp [hB.l_fPrev]; done) | exact Block.zero_ok | exact Vote.zero_ok ) | exact (by first | rfl | exact get_words (by first | omega | (simp [hB.l_fPrev]; done) | (simp [hB.l_fPrev]; omega)) | exact get_bytes (by first | omega | (simp [hB.l_fPrev]; done) | (simp [hB.l_fPrev]; omega)) | exact get_ints (by first | omega | (simp [hB.l_fPrev]; done) | (simp [hB.l_fPrev]; omega)))) ?_
        refine Tr.lenSl rfl rfl rfl Tryz.underlying58 ?_
        refine Tr.gtr rfl rfl rfl rfl rfl ?_
        refine Tr.pick rfl rfl rfl rfl rfl rfl ?_
        refine Tr.nil ?_
        refine at_n ?_
        first
          | refine Sat.condP rfl (fun hc0 => ?_) (fun hc0 => ?_)
          | refine Sat.condNP rfl (fun hc0 => ?_) (fun hc0 => ?_)
          | refine Sat.cond rfl (fun hc0 => ?_) (fun hc0 => ?_)
        ·
          refine Sat.seq ?_
          -- region 3
          refine Sat.region ?_
          refine Tr.assign rfl rfl rfl ?_
          refine Tr.nil ?_
          refine at_n ?_
          refine Sat.ret ?_
          refine at_r ?_
          refine en_r ?_
          refine ⟨_, [], res_tmp rfl rfl, (by simp), (by simp), ?_, rfl⟩
          first
            | exact congrArg i64 (bcheck_ok hnb (linksBad_not (by rw [hW.len]; exact hg))).symm
            | exact congrArg i64 (bcheck_bad hnb (linksBad_at (k := k) (by omega) (by unfold badAt; simp_all))).symm
            | exact congrArg i64 (bcheck_head (by unfold bhead bheadB; simp_all)).symm
        ·
          have hnb : ¬ bhead B := by unfold bhead bheadB; simp_all
          refine Sat.skip ?_
          refine at_n ?_
          refine Sat.seq ?_
          refine Sat.seq ?_
          -- region 4
          refine Sat.region ?_
          refine Tr.fld rfl rfl rfl Tryz.underlying79 rfl Sz51 (by decide) _ rfl ?_
          refine Tr.load1 rfl rfl rfl Tryz.underlying51 rfl (by first | exact mem0 | exact mem1 | exact mem2 | exact mem3 | exact mem4 | exact mem5 | exact mem6 | exact mem7 | (repeat (first | exact List.mem_cons_self | refine List.mem_cons_of_mem _ ?_ | refine mem_seg ?_))) (by first | exact Block.get_fLinks (by first | assumption | (simp [hB.l_fPrev]; done) | exact Block.zero_ok | exact Vote.zero_ok ) | exact (by first | rfl | exact get_words (by first | omega | (simp [hB.l_fPrev]; done) | (simp [hB.l_fPrev]; omega)) | exact get_bytes (by first | omega | (simp [hB.l_fPrev]; done) | (simp [hB.l_fPrev]; omega)) | exact get_ints (by first | omega | (simp [hB.l_fPrev]; done) | (simp [hB.l_fPrev]; omega)))) ?_
          refine Tr.lenSl rfl rfl rfl Tryz.underlying51 ?_
          refine Tr.move rfl rfl rfl ?_
          refine Tr.nil ?_
          refine at_n ?_
          refine Sat.block ?_
          refine Sat.loop (ι := Nat) (fun k => ⟨[(1, ptr n1 0), (3, ptr n3 0), (33, B.fLinks.v), (34, i64 (B.fLinks.n : Int)), (35, i64 (k : Int))], [⟨n3, bytesV (List.replicate 32 0), 50, 32⟩, ⟨n1, B.cells, 79, B.cells.length⟩]⟩) (fun k => k ≤ B.fLinks.n ∧ ∀ j, j < k → badAt B.fPrev ls j = false) (fun k => B.fLinks.n - k) (0) ?_ ?_ ?_
          · exact ⟨by omega, fun j hj => by omega⟩
          · exact weak_of (wk1 rfl (wk1 rfl (wk1 rfl (wk1 rfl (wk1 rfl wk0))))) (wh1 (by first | exact mem0 | exact mem1 | exact mem2 | exact mem3 | exact mem4 | exact mem5 | exact mem6 | exact mem7 | (repeat (first | exact List.mem_cons_self | refine List.mem_cons_of_mem _ ?_ | refine mem_seg ?_))) (wh1 (by first | exact mem0 | exact mem1 | exact mem2 | exact mem3 | exact mem4 | exact mem5 | exact mem6 | exact mem7 | (repeat (first | exact List.mem_cons_self | refine List.mem_cons_of_mem _ ?_ | refine mem_seg ?_))) wh0)) (by repeat (first | exact ns_nil | refine ns_keep rfl ?_ | refine ns_skip ?_))
          ·
            rintro k ⟨hk, hg⟩
            refine Sat.seq ?_
            -- region 5
            refine Sat.region ?_
            refine Tr.lss rfl rfl rfl rfl rfl ?_
            refine Tr.nil ?_
            refine at_n ?_
            refine Sat.seq ?_
            first
              | refine Sat.condP rfl (fun hc1 => ?_) (fun hc1 => ?_)
              | refine Sat.condNP rfl (fun hc1 => ?_) (fun hc1 => ?_)
              | refine Sat.cond rfl (fun hc1 => ?_) (fun hc1 => ?_)
            ·
              have hk2 : k < B.fLinks.n := by omega
              have hll := hW.len
              obtain ⟨b, o, hbp, hbs⟩ := hW.see.at (by rw [flatB_length hW.row]; omega)
              have hr0 : (ls.getD k []).length = 32 := getD_len hW.row (by omega)
              have hr1 : (ls.getD (k - 1) []).length = 32 := getD_len hW.row (by omega)
              refine Sat.skip ?_
              refine at_n ?_
              refine Sat.join (ι := Unit) (fun _u => ⟨[(1, ptr n1 0), (3, ptr n3 0), (33, B.fLinks.v), (34, i64 (B.fLinks.n : Int)), (35, i64 (k : Int))], [⟨n3, bytesV (List.replicate 32 0), 50, 32⟩, ⟨n1, B.cells, 79, B.cells.length⟩]⟩) (fun _u => badAt B.fPrev ls k = false) ?_ ?_
              ·
                refine Sat.block ?_
                refine Sat.seq ?_
                -- region 6
                refine Sat.region ?_
                refine Tr.move rfl rfl rfl ?_
                refine Tr.idxSlP 32 rfl rfl rfl hbp rfl Tryz.underlying51 Sz50 k rfl (by omega) ?_
                refine Tr.loadEN (bytesV (ls.getD (k) [])) rfl rfl rfl Tryz.underlying50 rfl Sz50 (by simp) (by rw [bytesV, List.length_map]; exact getD_len hW.row (by rw [hW.len]; omega)) (sees_row hW.row hbs (by rw [hW.len]; omega)) ?_
                refine Tr.alloc (cs := (bytesV (List.replicate 32 0))) rfl Zr50 rfl ?_
                intro n5 hn5 hf5
                refine Tr.assign rfl rfl rfl ?_
                first
                  | refine Tr.storeAll rfl rfl rfl rfl (by first | exact bytesV_cell _ | simp [isCell]) Sz50 (by first | assumption | (simp [hB.l_fPrev]; done) | (rw [bytesV, List.length_map]; assumption)) (by first | exact mem0 | exact mem1 | exact mem2 | exact mem3 | exact mem4 | exact mem5 | exact mem6 | exact mem7 | (repeat (first | exact List.mem_cons_self | refine List.mem_cons_of_mem _ ?_ | refine mem_seg ?_))) (by first | assumption | (simp [hB.l_fPrev]; done) | (rw [bytesV, List.length_map]; assumption)) (by first | exact upd0 | exact upd1 | exact upd2 | exact upd3 | exact upd4 | exact upd5 | exact upd6 | exact upd7 | (repeat (first | exact upd0 | apply Upd.tail | apply Upd.seg))) ?_
                  | refine Tr.storeN _ rfl rfl rfl rfl rfl (by first | exact bytesV_cell _ | simp [isCell]) Sz50 (by first | assumption | (simp [hB.l_fPrev]; done) | (rw [bytesV, List.length_map]; assumption)) (by first | exact mem0 | exact mem1 | exact mem2 | exact mem3 | exact mem4 | exact mem5 | exact mem6 | exact mem7 | (repeat (first | exact List.mem_cons_self | refine List.mem_cons_of_mem _ ?_ | refine mem_seg ?_))) (by first | assumption | (simp [hB.l_fPrev]; done) | (rw [bytesV, List.length_map]; assumption)) (by exact rfl) (by first | exact upd0 | exact upd1 | exact upd2 | exact upd3 | exact upd4 | exact upd5 | exact upd6 | exact upd7 | (repeat (first | exact upd0 | apply Upd.tail | apply Upd.seg))) ?_
                refine Tr.nil ?_
                refine at_n ?_
                refine Sat.seq ?_
                -- region 7
                refine Sat.draw [(1, 0), (1, 1), (0, 2), (0, 3), (1, 4), (0, 5), (1, 6), (0, 7), (0, 8), (0, 9), (0, 10), (0, 11), (0, 12), (0, 13), (1, 14), (0, 15), (0, 16), (0, 17), (1, 18), (1, 19), (3, 20), (0, 21), (0, 22), (0, 23)] Mixed (by kernel_rfl) ?_
                first
                  | refine Tr.loadAll rfl rfl rfl Tryz.underlying50 rfl Sz50 (by first | exact mem0 | exact mem1 | exact mem2 | exact mem3 | exact mem4 | exact mem5 | exact mem6 | exact mem7 | (repeat (first | exact List.mem_cons_self | refine List.mem_cons_of_mem _ ?_ | refine mem_seg ?_))) (by first | assumption | (simp [hB.l_fPrev]; done) | (rw [bytesV, List.length_map]; assumption)) ?_
                  | refine Tr.loadN _ rfl rfl rfl Tryz.underlying50 rfl Sz50 (by first | exact mem0 | exact mem1 | exact mem2 | exact mem3 | exact mem4 | exact mem5 | exact mem6 | exact mem7 | (repeat (first | exact List.mem_cons_self | refine List.mem_cons_of_mem _ ?_ | refine mem_seg ?_))) (by exact rfl) (by first | assumption | (simp [hB.l_fPrev]; done) | (rw [bytesV, List.length_map]; assumption)) ?_
                first
                  | refine Tr.loadAll rfl rfl rfl Tryz.underlying50 rfl Sz50 (by first | exact mem0 | exact mem1 | exact mem2 | exact mem3 | exact mem4 | exact mem5 | exact mem6 | exact mem7 | (repeat (first | exact List.mem_cons_self | refine List.mem_cons_of_mem _ ?_ | refine mem_seg ?_))) (by first | assumption | (simp [hB.l_fPrev]; done) | (rw [bytesV, List.length_map]; assumption)) ?_
                  | refine Tr.loadN _ rfl rfl rfl Tryz.underlying50 rfl Sz50 (by first | exact mem0 | exact mem1 | exact mem2 | exact mem3 | exact mem4 | exact mem5 | exact mem6 | exact mem7 | (repeat (first | exact List.mem_cons_self | refine List.mem_cons_of_mem _ ?_ | refine mem_seg ?_))) (by exact rfl) (by first | assumption | (simp [hB.l_fPrev]; done) | (rw [bytesV, List.length_map]; assumption)) ?_
                refine two (fun r hr k => Tr.eql_bytes rfl rfl rfl rfl Tryz.eqGuardType50 Tryz.underlying50 Tryz.underlying5 Sz5 (by first | assumption | (simp [hB.l_fPrev]; done) | (rw [bytesV, List.length_map]; assumption)) (by first | assumption | (simp [hB.l_fPrev]; done) | (rw [bytesV, List.length_map]; assumption)) hr k) (fun hs7_20 => ?_) (fun hs7_20 => ?_)
                ·
                  first | have hs7_2 := of_decide_eq_true hs7_20 | have hs7_2 := of_decide_eq_false hs7_20 | have hs7_2 := nd_t hs7_20 | have hs7_2 := nd_f hs7_20 | have hs7_2 := hs7_20
                  refine Tr.move rfl rfl rfl ?_
                  refine Tr.skp rfl rfl ?_
                  refine Tr.skp rfl rfl ?_
                  refine Tr.skp rfl rfl ?_
                  refine Tr.skp rfl rfl ?_
                  refine Tr.pick rfl rfl rfl rfl rfl rfl ?_
                  refine Tr.move rfl rfl rfl ?_
                  refine Tr.skp rfl rfl ?_
                  refine Tr.skp rfl rfl ?_
                  refine Tr.skp rfl rfl ?_
                  refine Tr.skp rfl rfl ?_
                  refine Tr.skp rfl rfl ?_
                  refine Tr.skp rfl rfl ?_
                  refine Tr.skp rfl rfl ?_
                  refine Tr.skp rfl rfl ?_
                  refine Tr.skp rfl rfl ?_
                  refine Tr.skp rfl rfl ?_
                  refine Tr.skp rfl rfl ?_
                  refine Tr.skp rfl rfl ?_
                  refine Tr.skp rfl rfl ?_
                  refine Tr.pick rfl rfl rfl rfl rfl rfl ?_
                  refine Tr.nil ?_
                  refine at_n ?_
                  refine Sat.cond_t rfl rfl ?_
                  refine Sat.seq ?_
                  -- region 8
                  refine Sat.region ?_
                  refine Tr.assign rfl rfl rfl ?_
                  refine Tr.nil ?_
                  refine at_n ?_
                  refine Sat.ret ?_
                  refine bl_r ?_
                  refine at_r ?_
                  refine at_r ?_
                  refine bl_r ?_
                  refine at_r ?_
                  refine en_r ?_
                  refine ⟨_, [], res_tmp rfl rfl, (by simp), (by simp), ?_, rfl⟩
                  first
                    | exact congrArg i64 (bcheck_ok hnb (linksBad_not (by rw [hW.len]; exact hg))).symm
                    | exact congrArg i64 (bcheck_bad hnb (linksBad_at (k := k) (by omega) (by unfold badAt; simp_all))).symm
                    | exact congrArg i64 (bcheck_head (by unfold bhead bheadB; simp_all)).symm
                ·
                  first | have hs7_2 := of_decide_eq_true hs7_20 | have hs7_2 := of_decide_eq_false hs7_20 | have hs7_2 := nd_t hs7_20 | have hs7_2 := nd_f hs7_20 | have hs7_2 := hs7_20
                  refine Tr.move rfl rfl rfl ?_
                  first
                    | refine Tr.loadAll rfl rfl rfl Tryz.underlying50 rfl Sz50 (by first | exact mem0 | exact mem1 | exact mem2 | exact mem3 | exact mem4 | exact mem5 | exact mem6 | exact mem7 | (repeat (first | exact List.mem_cons_self | refine List.mem_cons_of_mem _ ?_ | refine mem_seg ?_))) (by first | assumption | (simp [hB.l_fPrev]; done) | (rw [bytesV, List.length_map]; assumption)) ?_
                    | refine Tr.loadN _ rfl rfl rfl Tryz.underlying50 rfl Sz50 (by first | exact mem0 | exact mem1 | exact mem2 | exact mem3 | exact mem4 | exact mem5 | exact mem6 | exact mem7 | (repeat (first | exact List.mem_cons_self | refine List.mem_cons_of_mem _ ?_ | refine mem_seg ?_))) (by exact rfl) (by first | assumption | (simp [hB.l_fPrev]; done) | (rw [bytesV, List.length_map]; assumption)) ?_
                  refine Tr.fld rfl rfl rfl Tryz.underlying79 rfl Sz50 (by decide) _ rfl ?_
                  first
                    | refine Tr.loadN (bytesV _) rfl rfl rfl Tryz.underlying50 rfl Sz50 (by first | exact mem0 | exact mem1 | exact mem2 | exact mem3 | exact mem4 | exact mem5 | exact mem6 | exact mem7 | (repeat (first | exact List.mem_cons_self | refine List.mem_cons_of_mem _ ?_ | refine mem_seg ?_))) (Block.row_fPrev (by first | assumption | (simp [hB.l_fPrev]; done) | exact Block.zero_ok | exact Vote.zero_ok )) (Block.rl_fPrev (by first | assumption | (simp [hB.l_fPrev]; done) | exact Block.zero_ok | exact Vote.zero_ok )) ?_
                  refine two (fun r hr k => Tr.eql_bytes rfl rfl rfl rfl Tryz.eqGuardType50 Tryz.underlying50 Tryz.underlying5 Sz5 (by first | assumption | (simp [hB.l_fPrev]; done) | (rw [bytesV, List.length_map]; assumption)) (by first | assumption | (simp [hB.l_fPrev]; done) | (rw [bytesV, List.length_map]; assumption)) hr k) (fun hs7_70 => ?_) (fun hs7_70 => ?_)
                  ·
                    first | have hs7_7 := of_decide_eq_true hs7_70 | have hs7_7 := of_decide_eq_false hs7_70 | have hs7_7 := nd_t hs7_70 | have hs7_7 := nd_f hs7_70 | have hs7_7 := hs7_70
                    refine Tr.pick rfl rfl rfl rfl rfl rfl ?_
                    refine Tr.move rfl rfl rfl ?_
                    refine Tr.skp rfl rfl ?_
                    refine Tr.skp rfl rfl ?_
                    refine Tr.skp rfl rfl ?_
                    refine Tr.skp rfl rfl ?_
                    refine Tr.skp rfl rfl ?_
                    refine Tr.skp rfl rfl ?_
                    refine Tr.skp rfl rfl ?_
                    refine Tr.skp rfl rfl ?_
                    refine Tr.skp rfl rfl ?_
                    refine Tr.skp rfl rfl ?_
                    refine Tr.skp rfl rfl ?_
                    refine Tr.skp rfl rfl ?_
                    refine Tr.skp rfl rfl ?_
                    refine Tr.pick rfl rfl rfl rfl rfl rfl ?_
                    refine Tr.nil ?_
                    refine at_n ?_
                    refine Sat.cond_t rfl rfl ?_
                    refine Sat.seq ?_
                    -- region 8
                    refine Sat.region ?_
                    refine Tr.assign rfl rfl rfl ?_
                    refine Tr.nil ?_
                    refine at_n ?_
                    refine Sat.ret ?_
                    refine bl_r ?_
                    refine at_r ?_
                    refine at_r ?_
                    refine bl_r ?_
                    refine at_r ?_
                    refine en_r ?_
                    refine ⟨_, [], res_tmp rfl rfl, (by simp), (by simp), ?_, rfl⟩
                    first
                      | exact congrArg i64 (bcheck_ok hnb (linksBad_not (by rw [hW.len]; exact hg))).symm
                      | exact congrArg i64 (bcheck_bad hnb (linksBad_at (k := k) (by omega) (by unfold badAt; simp_all))).symm
                      | exact congrArg i64 (bcheck_head (by unfold bhead bheadB; simp_all)).symm
                  ·
                    first | have hs7_7 := of_decide_eq_true hs7_70 | have hs7_7 := of_decide_eq_false hs7_70 | have hs7_7 := nd_t hs7_70 | have hs7_7 := nd_f hs7_70 | have hs7_7 := hs7_70
                    refine Tr.pick rfl rfl rfl rfl rfl rfl ?_
                    refine Tr.move rfl rfl rfl ?_
                    refine Tr.move rfl rfl rfl ?_
                    refine two (fun r hr k => Tr.gtr rfl rfl rfl rfl hr k) (fun hs7_110 => ?_) (fun hs7_110 => ?_)
                    ·
                      first | have hs7_11 := of_decide_eq_true hs7_110 | have hs7_11 := of_decide_eq_false hs7_110 | have hs7_11 := nd_t hs7_110 | have hs7_11 := nd_f hs7_110 | have hs7_11 := hs7_110
                      refine Tr.move rfl rfl rfl ?_
                      refine Tr.fld rfl rfl rfl Tryz.underlying79 rfl Sz51 (by decide) _ rfl ?_
                      refine Tr.load1 rfl rfl rfl Tryz.underlying51 rfl (by first | exact mem0 | exact mem1 | exact mem2 | exact mem3 | exact mem4 | exact mem5 | exact mem6 | exact mem7 | (repeat (first | exact List.mem_cons_self | refine List.mem_cons_of_mem _ ?_ | refine mem_seg ?_))) (by first | exact Block.get_fLinks (by first | assumption | (simp [hB.l_fPrev]; done) | exact Block.zero_ok | exact Vote.zero_ok ) | exact (by first | rfl | exact get_words (by first | omega | (simp [hB.l_fPrev]; done) | (simp [hB.l_fPrev]; omega)) | exact get_bytes (by first | omega | (simp [hB.l_fPrev]; done) | (simp [hB.l_fPrev]; omega)) | exact get_ints (by first | omega | (simp [hB.l_fPrev]; done) | (simp [hB.l_fPrev]; omega)))) ?_
                      refine Tr.move rfl rfl rfl ?_
                      refine Tr.sub_i64 rfl rfl rfl rfl (by omega) ?_
                      refine Tr.idxSlP 32 rfl rfl rfl hbp rfl Tryz.underlying51 Sz50 (k - 1) (by omega) (by omega) ?_
                      refine Tr.loadEN (bytesV (ls.getD (k - 1) [])) rfl rfl rfl Tryz.underlying50 rfl Sz50 (by simp) (by rw [bytesV, List.length_map]; exact getD_len hW.row (by rw [hW.len]; omega)) (sees_row hW.row hbs (by rw [hW.len]; omega)) ?_
                      first
                        | refine Tr.loadAll rfl rfl rfl Tryz.underlying50 rfl Sz50 (by first | exact mem0 | exact mem1 | exact mem2 | exact mem3 | exact mem4 | exact mem5 | exact mem6 | exact mem7 | (repeat (first | exact List.mem_cons_self | refine List.mem_cons_of_mem _ ?_ | refine mem_seg ?_))) (by first | assumption | (simp [hB.l_fPrev]; done) | (rw [bytesV, List.length_map]; assumption)) ?_
                        | refine Tr.loadN _ rfl rfl rfl Tryz.underlying50 rfl Sz50 (by first | exact mem0 | exact mem1 | exact mem2 | exact mem3 | exact mem4 | exact mem5 | exact mem6 | exact mem7 | (repeat (first | exact List.mem_cons_self | refine List.mem_cons_of_mem _ ?_ | refine mem_seg ?_))) (by exact rfl) (by first | assumption | (simp [hB.l_fPrev]; done) | (rw [bytesV, List.length_map]; assumption)) ?_
                      refine Tr.callV rfl rfl rfl rfl Body186 (block_cmp _ _ hr1 hr0) (fun _ _ => trivial) ?_
                      refine Tr.geq rfl rfl rfl rfl rfl ?_
                      refine Tr.pick rfl rfl rfl rfl rfl rfl ?_
                      refine Tr.pick rfl rfl rfl rfl rfl rfl ?_
                      refine Tr.nil ?_
                      refine at_n ?_
                      first
                        | refine Sat.condP rfl (fun hc2 => ?_) (fun hc2 => ?_)
                        | refine Sat.condNP rfl (fun hc2 => ?_) (fun hc2 => ?_)
                        | refine Sat.cond rfl (fun hc2 => ?_) (fun hc2 => ?_)
                      ·
                        refine Sat.seq ?_
                        -- region 8
                        refine Sat.region ?_
                        refine Tr.assign rfl rfl rfl ?_
                        refine Tr.nil ?_
                        refine at_n ?_
                        refine Sat.ret ?_
                        refine bl_r ?_
                        refine at_r ?_
                        refine at_r ?_
                        refine bl_r ?_
                        refine at_r ?_
                        refine en_r ?_
                        refine ⟨_, [], res_tmp rfl rfl, (by simp), (by simp), ?_, rfl⟩
                        first
                          | exact congrArg i64 (bcheck_ok hnb (linksBad_not (by rw [hW.len]; exact hg))).symm
                          | exact congrArg i64 (bcheck_bad hnb (linksBad_at (k := k) (by omega) (by unfold badAt; simp_all))).symm
                          | exact congrArg i64 (bcheck_head (by unfold bhead bheadB; simp_all)).symm
                      ·
                        refine Sat.skip ?_
                        refine bl_n ?_
                        refine at_n ?_
                        refine ⟨(), by unfold badAt; simp_all, weak_of (wk1 rfl (wk1 rfl (wk1 rfl (wk1 rfl (wk1 rfl wk0))))) (wh1 (by first | exact mem0 | exact mem1 | exact mem2 | exact mem3 | exact mem4 | exact mem5 | exact mem6 | exact mem7 | (repeat (first | exact List.mem_cons_self | refine List.mem_cons_of_mem _ ?_ | refine mem_seg ?_))) (wh1 (by first | exact mem0 | exact mem1 | exact mem2 | exact mem3 | exact mem4 | exact mem5 | exact mem6 | exact mem7 | (repeat (first | exact List.mem_cons_self | refine List.mem_cons_of_mem _ ?_ | refine mem_seg ?_))) wh0)) (by repeat (first | exact ns_nil | refine ns_keep rfl ?_ | refine ns_skip ?_))⟩
                    ·
                      first | have hs7_11 := of_decide_eq_true hs7_110 | have hs7_11 := of_decide_eq_false hs7_110 | have hs7_11 := nd_t hs7_110 | have hs7_11 := nd_f hs7_110 | have hs7_11 := hs7_110
                      refine Tr.move rfl rfl rfl ?_
                      refine Tr.skp rfl rfl ?_
                      refine Tr.skp rfl rfl ?_
                      refine Tr.skp rfl rfl ?_
                      refine Tr.skp rfl rfl ?_
                      refine Tr.skp rfl rfl ?_
                      refine Tr.skp rfl rfl ?_
                      refine Tr.skp rfl rfl ?_
                      refine Tr.skp rfl rfl ?_
                      refine Tr.skp rfl rfl ?_
                      refine Tr.pick rfl rfl rfl rfl rfl rfl ?_
                      refine Tr.pick rfl rfl rfl rfl rfl rfl ?_
                      refine Tr.nil ?_
                      refine at_n ?_
                      refine Sat.cond_f rfl rfl ?_
                      refine Sat.skip ?_
                      refine bl_n ?_
                      refine at_n ?_
                      refine ⟨(), by unfold badAt; simp_all, weak_of (wk1 rfl (wk1 rfl (wk1 rfl (wk1 rfl (wk1 rfl wk0))))) (wh1 (by first | exact mem0 | exact mem1 | exact mem2 | exact mem3 | exact mem4 | exact mem5 | exact mem6 | exact mem7 | (repeat (first | exact List.mem_cons_self | refine List.mem_cons_of_mem _ ?_ | refine mem_seg ?_))) (wh1 (by first | exact mem0 | exact mem1 | exact mem2 | exact mem3 | exact mem4 | exact mem5 | exact mem6 | exact mem7 | (repeat (first | exact List.mem_cons_self | refine List.mem_cons_of_mem _ ?_ | refine mem_seg ?_))) wh0)) (by repeat (first | exact ns_nil | refine ns_keep rfl ?_ | refine ns_skip ?_))⟩
              ·
                intro _u hj
                have hgk := hj
                -- region 9
                refine Sat.region ?_
                refine Tr.add_i64 rfl rfl rfl rfl (by omega) ?_
                refine Tr.move rfl rfl rfl ?_
                refine Tr.nil ?_
                refine at_n ?_
                exact ⟨k + 1, ⟨by omega, fun j hj => by rcases Nat.lt_succ_iff_lt_or_eq.1 hj with h | rfl; exact hg j h; exact hgk⟩, by omega, weak_of (wk1 rfl (wk1 rfl (wk1 rfl (wk1 rfl (wk1 rfl wk0))))) (wh1 (by first | exact mem0 | exact mem1 | exact mem2 | exact mem3 | exact mem4 | exact mem5 | exact mem6 | exact mem7 | (repeat (first | exact List.mem_cons_self | refine List.mem_cons_of_mem _ ?_ | refine mem_seg ?_))) (wh1 (by first | exact mem0 | exact mem1 | exact mem2 | exact mem3 | exact mem4 | exact mem5 | exact mem6 | exact mem7 | (repeat (first | exact List.mem_cons_self | refine List.mem_cons_of_mem _ ?_ | refine mem_seg ?_))) wh0)) (by repeat (first | exact ns_nil | refine ns_keep rfl ?_ | refine ns_skip ?_))⟩
            ·
              obtain rfl : k = B.fLinks.n := by omega
              refine Sat.exit ?_
              refine at_x ?_
              refine at_x ?_
              refine bl_h ?_
              refine at_n ?_
              refine Sat.seq ?_
              -- region 10
              refine Sat.region ?_
              refine Tr.assign rfl rfl rfl ?_
              refine Tr.nil ?_
              refine at_n ?_
              refine Sat.ret ?_
              refine en_r ?_
              refine ⟨_, [], res_tmp rfl rfl, (by simp), (by simp), ?_, rfl⟩
              first
                | exact congrArg i64 (bcheck_ok hnb (linksBad_not (by rw [hW.len]; exact hg))).symm
                | exact congrArg i64 (bcheck_bad hnb (linksBad_at (k := k) (by omega) (by unfold badAt; simp_all))).symm
                | exact congrArg i64 (bcheck_head (by unfold bhead bheadB; simp_all)).symm


def ownB (B : Block) (q1 c1 q2 c2 : Nat) : Block := { B with fLinks := ⟨some ⟨q1, 0, none⟩, B.fLinks.n, c1⟩, fData := ⟨some ⟨q2, 0, none⟩, B.fData.n, c2⟩ }
def OwnedBlock (B : Block) (ls : List (List UInt8)) (l : List UInt8) (v : Value) (out : List Blk) : Prop := ∃ q1 c1 q2 c2, v = agg (ownB B q1 c1 q2 c2).cells ∧ B.fLinks.n ≤ c1 ∧ B.fData.n ≤ c2 ∧ out = [⟨q2, bytesV l, 5, c2 * 1⟩, ⟨q1, flatB ls, 50, c1 * 32⟩]
theorem OwnedBlock.loose (B : Block) (ls : List (List UInt8)) (l : List UInt8) : Loose (OwnedBlock B ls l) := fun k hk => by
  obtain ⟨q1, _, h1⟩ := fresh_is 0 k
  obtain ⟨q2, h2', h2⟩ := fresh_is (q1 + 1) k
  refine ⟨_, _, ⟨q1, B.fLinks.n, q2, B.fData.n, rfl, Nat.le_refl _, Nat.le_refl _, rfl⟩, ?_⟩
  simp only [List.cons_append, List.nil_append, List.map_cons, List.nodup_cons, List.mem_cons]
  refine ⟨?_, fun h => ?_, hk⟩
  · rintro (h | h)
    · omega
    · obtain ⟨b, hb, e⟩ := List.mem_map.1 h; exact h2 b hb e
  · obtain ⟨b, hb, e⟩ := List.mem_map.1 h; exact h1 b hb e
theorem rows_ext {C : Cx} {hp : List Blk} {w : World} {s : Sl} {m : Nat} {ls : List (List UInt8)} (h : HRep C hp w) (hl : C.lent = []) (hr : RowsAt C.W0 s m ls) : RowsAt w s m ls := ⟨hr.len, hr.row, hr.cap, seesP_ext h hl hr.see, hr.max, hr.nil⟩
theorem bytes_ext {C : Cx} {hp : List Blk} {w : World} {s : Sl} {l : List UInt8} (h : HRep C hp w) (hl : C.lent = []) (hr : BytesAt C.W0 s l) : BytesAt w s l := ⟨hr.len, hr.cap, seesP_ext h hl hr.see, hr.max, hr.nil⟩


end Go.Proofs.YtejjamifnombhaaGreat
end

section
namespace Hw
open Go
set_option linter.unusedSimpArgs false
set_option linter.unusedVariables false

theorem bytesV_cell (l : List UInt8) : ∀ u ∈ bytesV l, isCell u = true := fun u hu => by
  simp only [bytesV, List.mem_map] at hu
  obtain ⟨_, _, rfl⟩ := hu
  rfl
def bLen (n : Nat) : Nat := if n = 0 then 0 else Nat.log2 n + 1
theorem bLen_le {n k : Nat} : bLen n ≤ k ↔ n < 2 ^ k := by
  unfold bLen
  by_cases h : n = 0
  · subst h; simp; exact Nat.pow_pos (by decide)
  · rw [if_neg h, Nat.succ_le_iff, Nat.log2_lt h]
theorem bLen_shr {n k : Nat} (h : 2 ^ k ≤ n) : bLen n = k + bLen (n / 2 ^ k) := by
  have key : ∀ j, bLen n ≤ k + j ↔ bLen (n / 2 ^ k) ≤ j := fun j => by
    rw [bLen_le, bLen_le, Nat.pow_add, Nat.div_lt_iff_lt_mul (Nat.pow_pos (by decide)), Nat.mul_comm]
  have h1 := (key (bLen (n / 2 ^ k))).2 (Nat.le_refl _)
  have h2 : k < bLen n := by
    rcases Nat.lt_or_ge k (bLen n) with h | h
    · exact h
    · rw [ge_iff_le, bLen_le] at h; omega
  have h3 := (key (bLen n - k)).1 (by omega)
  omega
def szN (n : Nat) : Nat := min ((bLen (n ||| 1) + 6) / 7) 9
theorem szN_pos (n : Nat) : 1 ≤ szN n ∧ szN n ≤ 9 := by
  have : 1 ≤ bLen (n ||| 1) := by
    rcases Nat.lt_or_ge 0 (bLen (n ||| 1)) with h | h
    · exact h
    · rw [ge_iff_le, bLen_le] at h
      have h1 : 1 ≤ n ||| 1 := Nat.right_le_or
      simp at h
  unfold szN
  omega
def tailB (x : UInt64) : Nat → List UInt8
  | 0 => []
  | k + 1 => (shr64 x (8 * k)).toUInt8 :: tailB x k
theorem tailB_length (x : UInt64) : ∀ k, (tailB x k).length = k
  | 0 => rfl
  | k + 1 => by simp [tailB, tailB_length x k]
theorem tailB_get (x : UInt64) : ∀ k j, j < k → (tailB x k)[j]? = some (shr64 x (8 * (k - 1 - j))).toUInt8
  | 0, j, h => by omega
  | k + 1, 0, h => by simp [tailB]
  | k + 1, j + 1, h => by
    rw [tailB, List.getElem?_cons_succ, tailB_get x k j (by omega)]
    congr 4
    omega
def headB (x : UInt64) : UInt8 := shl8 255 (9 - szN x.toNat) ||| (shr64 x (8 * (szN x.toNat - 1))).toUInt8
/-- the bytes of a number -/
def numB (x : UInt64) : List UInt8 := headB x :: tailB x (szN x.toNat - 1)
theorem numB_length (x : UInt64) : (numB x).length = szN x.toNat := by
  have := szN_pos x.toNat
  simp [numB, tailB_length]; omega
/-- the first j bytes behind the first one -/
def numUp (x : UInt64) (j : Nat) : List UInt8 := headB x :: (tailB x (szN x.toNat - 1)).take j
theorem numUp_length (x : UInt64) (j : Nat) (h : j ≤ szN x.toNat - 1) : (numUp x j).length = 1 + j := by
  simp [numUp, tailB_length]; omega
theorem numUp_step (x : UInt64) (j : Nat) (h : j < szN x.toNat - 1) : numUp x (j + 1) = numUp x j ++ [(shr64 x (8 * (szN x.toNat - 2 - j))).toUInt8] := by
  have hl : j < (tailB x (szN x.toNat - 1)).length := by rw [tailB_length]; exact h
  have hg := tailB_get x (szN x.toNat - 1) j h
  rw [List.getElem?_eq_getElem hl, Option.some.injEq] at hg
  rw [numUp, numUp, List.take_succ_eq_append_getElem hl, hg, show szN x.toNat - 1 - 1 - j = szN x.toNat - 2 - j by omega]
  rfl
theorem numUp_all (x : UInt64) : numUp x (szN x.toNat - 1) = numB x := by
  rw [numUp, List.take_of_length_le (by rw [tailB_length]; omega), numB]
theorem numUp_zero (x : UInt64) : numUp x 0 = [headB x] := by simp [numUp]
end Hw
end

section
namespace Go.Proofs.YtejjamifnombhaaGreat
open Go Hw
set_option linter.unusedVariables false
set_option linter.unusedSimpArgs false


def len8S : ByteArray := ⟨#[0, 1, 2, 2, 3, 3, 3, 3, 4, 4, 4, 4, 4, 4, 4, 4, 5, 5, 5, 5, 5, 5, 5, 5, 5, 5, 5, 5, 5, 5, 5, 5, 6, 6, 6, 6, 6, 6, 6, 6, 6, 6, 6, 6, 6, 6, 6, 6, 6, 6, 6, 6, 6, 6, 6, 6, 6, 6, 6, 6, 6, 6, 6, 6, 7, 7, 7, 7, 7, 7, 7, 7, 7, 7, 7, 7, 7, 7, 7, 7, 7, 7, 7, 7, 7, 7, 7, 7, 7, 7, 7, 7, 7, 7, 7, 7, 7, 7, 7, 7, 7, 7, 7, 7, 7, 7, 7, 7, 7, 7, 7, 7, 7, 7, 7, 7, 7, 7, 7, 7, 7, 7, 7, 7, 7, 7, 7, 7, 8, 8, 8, 8, 8, 8, 8, 8, 8, 8, 8, 8, 8, 8, 8, 8, 8, 8, 8, 8, 8, 8, 8, 8, 8, 8, 8, 8, 8, 8, 8, 8, 8, 8, 8, 8, 8, 8, 8, 8, 8, 8, 8, 8, 8, 8, 8, 8, 8, 8, 8, 8, 8, 8, 8, 8, 8, 8, 8, 8, 8, 8, 8, 8, 8, 8, 8, 8, 8, 8, 8, 8, 8, 8, 8, 8, 8, 8, 8, 8, 8, 8, 8, 8, 8, 8, 8, 8, 8, 8, 8, 8, 8, 8, 8, 8, 8, 8, 8, 8, 8, 8, 8, 8, 8, 8, 8, 8, 8, 8, 8, 8, 8, 8, 8, 8, 8, 8, 8, 8, 8, 8, 8, 8, 8, 8, 8, 8]⟩
set_option maxRecDepth 100000 in
theorem len8_all : ∀ n, n < 256 → len8S.data.toList[n]? = some (UInt8.ofNat (bLen n)) := by decide
set_option maxRecDepth 100000 in
theorem len8_get (x : UInt8) : len8S[x.toNat]? = some (UInt8.ofNat (bLen x.toNat)) := by
  have h := len8_all x.toNat x.toNat_lt
  have h2 : x.toNat < len8S.size := x.toNat_lt
  have e : len8S[x.toNat]? = len8S.data.toList[x.toNat]? := by
    rw [getElem?_pos len8S x.toNat h2, List.getElem?_eq_getElem (by exact x.toNat_lt)]
    rfl
  rw [e]; exact h
theorem len8_nat (x : UInt8) : (UInt8.ofNat (bLen x.toNat)).toNat = bLen x.toNat := by
  have : bLen x.toNat ≤ 8 := bLen_le.2 x.toNat_lt
  rw [UInt8.toNat_ofNat', Nat.mod_eq_of_lt (by omega)]


theorem shr64_nat (x : UInt64) (n : Nat) : (shr64 x n).toNat = x.toNat / 2 ^ n := by
  have h : x.toNat / 2 ^ n ≤ x.toNat := Nat.div_le_self _ _
  have := x.toNat_lt
  rw [shr64, UInt64.toNat_ofNat', Nat.mod_eq_of_lt (by omega)]


set_option maxRecDepth 100000 in
set_option maxHeartbeats 1000000 in
theorem bits_len64 (x : UInt64) : Meets Tryz.prog 243 [u64 x] [] (fun _ => True) (fun v out => v = i64 ((bLen x.toNat : Nat) : Int) ∧ out = []) := by
  intro W hW
  have hx := x.toNat_lt
  refine calls_of (hp0 := []) Tryz.func243 rfl 25 Tryz.ntmps243 rfl (HRep.nil _) ?_
  refine Sat.seq ?_
  -- region 0
  refine Sat.region ?_
  refine Tr.assign rfl rfl rfl ?_
  refine Tr.nil ?_
  refine at_n ?_
  refine Sat.join (ι := UInt64 × Nat) (fun p => ⟨[(0, u64 p.1), (2, i64 (p.2 : Int))], []⟩) (fun p => bLen x.toNat = p.2 + bLen p.1.toNat ∧ p.1.toNat < 2 ^ 32 ∧ p.2 ≤ 32) ?_ ?_
  ·
    refine Sat.seq ?_
    -- region 1
    refine Sat.region ?_
    refine Tr.move rfl rfl rfl ?_
    refine Tr.geq rfl rfl rfl rfl rfl ?_
    refine Tr.nil ?_
    refine at_n ?_
    first
      | refine Sat.condP rfl (fun hc0 => ?_) (fun hc0 => ?_)
      | refine Sat.condNP rfl (fun hc0 => ?_) (fun hc0 => ?_)
      | refine Sat.cond rfl (fun hc0 => ?_) (fun hc0 => ?_)
    ·
      refine Sat.seq ?_
      -- region 2
      refine Sat.region ?_
      refine Tr.move rfl rfl rfl ?_
      refine Tr.shr_u64 rfl rfl rfl rfl 32 rfl (by decide) ?_
      refine Tr.assign rfl rfl rfl ?_
      refine Tr.nil ?_
      refine at_n ?_
      -- region 3
      refine Sat.region ?_
      refine Tr.assign rfl rfl rfl ?_
      refine Tr.nil ?_
      refine at_n ?_
      first
        | exact ⟨(shr64 x 32, 0 + 32), ⟨by simp only [shr64_nat]; have := bLen_shr (n := x.toNat) (k := 32) (by omega); omega, by simp only [shr64_nat]; omega, by simp only []; omega⟩, weak_of (wk1 rfl (wk1 (by first | rfl | (simp only [Int.natCast_add]; rfl)) wk0)) wh0 (by repeat (first | exact ns_nil | refine ns_keep rfl ?_ | refine ns_skip ?_))⟩
        | exact ⟨(x, 0), ⟨by simp only []; omega, by simp only []; omega, by simp only []; omega⟩, weak_of (wk1 rfl (wk1 (by first | rfl | (simp only [Int.natCast_add]; rfl)) wk0)) wh0 (by repeat (first | exact ns_nil | refine ns_keep rfl ?_ | refine ns_skip ?_))⟩
    ·
      refine Sat.skip ?_
      refine at_n ?_
      first
        | exact ⟨(shr64 x 32, 0 + 32), ⟨by simp only [shr64_nat]; have := bLen_shr (n := x.toNat) (k := 32) (by omega); omega, by simp only [shr64_nat]; omega, by simp only []; omega⟩, weak_of (wk1 rfl (wk1 (by first | rfl | (simp only [Int.natCast_add]; rfl)) wk0)) wh0 (by repeat (first | exact ns_nil | refine ns_keep rfl ?_ | refine ns_skip ?_))⟩
        | exact ⟨(x, 0), ⟨by simp only []; omega, by simp only []; omega, by simp only []; omega⟩, weak_of (wk1 rfl (wk1 (by first | rfl | (simp only [Int.natCast_add]; rfl)) wk0)) wh0 (by repeat (first | exact ns_nil | refine ns_keep rfl ?_ | refine ns_skip ?_))⟩
  ·
    intro p hj
    obtain ⟨y, n⟩ := p
    obtain ⟨hb, hy, hn⟩ := hj
    simp only at hb hy hn ⊢
    refine Sat.join (ι := UInt64 × Nat) (fun p => ⟨[(0, u64 p.1), (2, i64 (p.2 : Int))], []⟩) (fun p => bLen x.toNat = p.2 + bLen p.1.toNat ∧ p.1.toNat < 2 ^ 16 ∧ p.2 ≤ 48) ?_ ?_
    ·
      refine Sat.seq ?_
      -- region 4
      refine Sat.region ?_
      refine Tr.move rfl rfl rfl ?_
      refine Tr.geq rfl rfl rfl rfl rfl ?_
      refine Tr.nil ?_
      refine at_n ?_
      first
        | refine Sat.condP rfl (fun hc1 => ?_) (fun hc1 => ?_)
        | refine Sat.condNP rfl (fun hc1 => ?_) (fun hc1 => ?_)
        | refine Sat.cond rfl (fun hc1 => ?_) (fun hc1 => ?_)
      ·
        refine Sat.seq ?_
        -- region 5
        refine Sat.region ?_
        refine Tr.move rfl rfl rfl ?_
        refine Tr.shr_u64 rfl rfl rfl rfl 16 rfl (by decide) ?_
        refine Tr.assign rfl rfl rfl ?_
        refine Tr.nil ?_
        refine at_n ?_
        -- region 6
        refine Sat.region ?_
        refine Tr.move rfl rfl rfl ?_
        refine Tr.add_i64 rfl rfl rfl rfl (by omega) ?_
        refine Tr.assign rfl rfl rfl ?_
        refine Tr.nil ?_
        refine at_n ?_
        first
          | exact ⟨(shr64 y 16, n + 16), ⟨by simp only [shr64_nat]; have := bLen_shr (n := y.toNat) (k := 16) (by omega); omega, by simp only [shr64_nat]; omega, by simp only []; omega⟩, weak_of (wk1 rfl (wk1 (by first | rfl | (simp only [Int.natCast_add]; rfl)) wk0)) wh0 (by repeat (first | exact ns_nil | refine ns_keep rfl ?_ | refine ns_skip ?_))⟩
          | exact ⟨(y, n), ⟨by simp only []; omega, by simp only []; omega, by simp only []; omega⟩, weak_of (wk1 rfl (wk1 (by first | rfl | (simp only [Int.natCast_add]; rfl)) wk0)) wh0 (by repeat (first | exact ns_nil | refine ns_keep rfl ?_ | refine ns_skip ?_))⟩
      ·
        refine Sat.skip ?_
        refine at_n ?_
        first
          | exact ⟨(shr64 y 16, n + 16), ⟨by simp only [shr64_nat]; have := bLen_shr (n := y.toNat) (k := 16) (by omega); omega, by simp only [shr64_nat]; omega, by simp only []; omega⟩, weak_of (wk1 rfl (wk1 (by first | rfl | (simp only [Int.natCast_add]; rfl)) wk0)) wh0 (by repeat (first | exact ns_nil | refine ns_keep rfl ?_ | refine ns_skip ?_))⟩
          | exact ⟨(y, n), ⟨by simp only []; omega, by simp only []; omega, by simp only []; omega⟩, weak_of (wk1 rfl (wk1 (by first | rfl | (simp only [Int.natCast_add]; rfl)) wk0)) wh0 (by repeat (first | exact ns_nil | refine ns_keep rfl ?_ | refine ns_skip ?_))⟩
    ·
      intro p hj
      obtain ⟨y, n⟩ := p
      obtain ⟨hb, hy, hn⟩ := hj
      simp only at hb hy hn ⊢
      refine Sat.join (ι := UInt64 × Nat) (fun p => ⟨[(0, u64 p.1), (2, i64 (p.2 : Int))], []⟩) (fun p => bLen x.toNat = p.2 + bLen p.1.toNat ∧ p.1.toNat < 2 ^ 8 ∧ p.2 ≤ 56) ?_ ?_
      ·
        refine Sat.seq ?_
        -- region 7
        refine Sat.region ?_
        refine Tr.move rfl rfl rfl ?_
        refine Tr.geq rfl rfl rfl rfl rfl ?_
        refine Tr.nil ?_
        refine at_n ?_
        first
          | refine Sat.condP rfl (fun hc2 => ?_) (fun hc2 => ?_)
          | refine Sat.condNP rfl (fun hc2 => ?_) (fun hc2 => ?_)
          | refine Sat.cond rfl (fun hc2 => ?_) (fun hc2 => ?_)
        ·
          refine Sat.seq ?_
          -- region 8
          refine Sat.region ?_
          refine Tr.move rfl rfl rfl ?_
          refine Tr.shr_u64 rfl rfl rfl rfl 8 rfl (by decide) ?_
          refine Tr.assign rfl rfl rfl ?_
          refine Tr.nil ?_
          refine at_n ?_
          -- region 9
          refine Sat.region ?_
          refine Tr.move rfl rfl rfl ?_
          refine Tr.add_i64 rfl rfl rfl rfl (by omega) ?_
          refine Tr.assign rfl rfl rfl ?_
          refine Tr.nil ?_
          refine at_n ?_
          first
            | exact ⟨(shr64 y 8, n + 8), ⟨by simp only [shr64_nat]; have := bLen_shr (n := y.toNat) (k := 8) (by omega); omega, by simp only [shr64_nat]; omega, by simp only []; omega⟩, weak_of (wk1 rfl (wk1 (by first | rfl | (simp only [Int.natCast_add]; rfl)) wk0)) wh0 (by repeat (first | exact ns_nil | refine ns_keep rfl ?_ | refine ns_skip ?_))⟩
            | exact ⟨(y, n), ⟨by simp only []; omega, by simp only []; omega, by simp only []; omega⟩, weak_of (wk1 rfl (wk1 (by first | rfl | (simp only [Int.natCast_add]; rfl)) wk0)) wh0 (by repeat (first | exact ns_nil | refine ns_keep rfl ?_ | refine ns_skip ?_))⟩
        ·
          refine Sat.skip ?_
          refine at_n ?_
          first
            | exact ⟨(shr64 y 8, n + 8), ⟨by simp only [shr64_nat]; have := bLen_shr (n := y.toNat) (k := 8) (by omega); omega, by simp only [shr64_nat]; omega, by simp only []; omega⟩, weak_of (wk1 rfl (wk1 (by first | rfl | (simp only [Int.natCast_add]; rfl)) wk0)) wh0 (by repeat (first | exact ns_nil | refine ns_keep rfl ?_ | refine ns_skip ?_))⟩
            | exact ⟨(y, n), ⟨by simp only []; omega, by simp only []; omega, by simp only []; omega⟩, weak_of (wk1 rfl (wk1 (by first | rfl | (simp only [Int.natCast_add]; rfl)) wk0)) wh0 (by repeat (first | exact ns_nil | refine ns_keep rfl ?_ | refine ns_skip ?_))⟩
      ·
        intro p hj
        obtain ⟨y, n⟩ := p
        obtain ⟨hb, hy, hn⟩ := hj
        simp only at hb hy hn ⊢
        refine Sat.seq ?_
        -- region 10
        refine Sat.region ?_
        refine Tr.move rfl rfl rfl ?_
        refine Tr.move rfl rfl rfl ?_
        refine Tr.conv rfl rfl rfl Tryz.underlying48 Tryz.underlying5 (cv_u64_u8 _) ?_
        refine Tr.idxStr (s := len8S) rfl rfl rfl rfl Tryz.underlying9 _ rfl (len8_get y.toUInt8) ?_
        have h8 : y.toUInt8.toNat = y.toNat := by simp; omega
        have h9 := len8_nat y.toUInt8
        have h10 : bLen y.toUInt8.toNat ≤ 8 := bLen_le.2 (by rw [h8]; omega)
        refine Tr.conv rfl rfl rfl Tryz.underlying5 Tryz.underlying3 (cv_u8_i64 _) ?_
        refine Tr.add_i64 rfl rfl rfl rfl (by omega) ?_
        refine Tr.assign rfl rfl rfl ?_
        refine Tr.nil ?_
        refine at_n ?_
        refine Sat.ret ?_
        refine en_r ?_
        refine ⟨_, [], res_tmp rfl rfl, (by simp), (by simp), ?_, rfl⟩
        rw [h9, h8, hb, Int.natCast_add]

set_option maxRecDepth 100000 in
set_option maxHeartbeats 1000000 in
theorem oct_size (x : UInt64) : Meets Tryz.prog 199 [u64 x] [] (fun _ => True) (fun v out => v = i64 ((szN x.toNat : Nat) : Int) ∧ out = []) := by
  intro W hW
  have hb : bLen (x ||| 1).toNat ≤ 64 := bLen_le.2 (x ||| 1).toNat_lt
  have ho : (x ||| 1).toNat = x.toNat ||| 1 := by rw [UInt64.toNat_or]; rfl
  refine calls_of (hp0 := []) Tryz.func199 rfl 9 Tryz.ntmps199 rfl (HRep.nil _) ?_
  refine Sat.seq ?_
  -- region 0
  refine Sat.region ?_
  refine Tr.assign rfl rfl rfl ?_
  refine Tr.nil ?_
  refine at_n ?_
  refine Sat.seq ?_
  -- region 1
  refine Sat.region ?_
  refine Tr.move rfl rfl rfl ?_
  refine Tr.or_u64 rfl rfl rfl (show evIn _ _ = some (u64 1) from rfl) ?_
  refine Tr.callV rfl rfl rfl rfl Body243 (bits_len64 _) (fun _ _ => trivial) ?_
  refine Tr.add_i64 rfl rfl rfl rfl (by omega) ?_
  refine Tr.quo_i64 rfl rfl rfl rfl (by omega) ?_
  refine Tr.min2 rfl rfl rfl rfl (rfl) ?_
  refine Tr.assign rfl rfl rfl ?_
  refine Tr.nil ?_
  refine at_n ?_
  refine Sat.ret ?_
  refine en_r ?_
  refine ⟨_, [], res_tmp rfl rfl, (by simp), (by simp), ?_, rfl⟩
  rw [szN, ← ho]; congr 1; split <;> omega

set_option maxRecDepth 100000 in
set_option maxHeartbeats 1000000 in
theorem oct_grown (p : Option Addr) (n c m : Nat) (l : List UInt8) (hl : l.length = n) (hp : p = none → n = 0) (hn : n ≤ 100000) (hm : m ≤ 100000) : Meets Tryz.prog 194 [.slice p n c, i64 (m : Int)] [] (fun W => SeesP W p (bytesV l)) (fun v out => FreshRow v out (bytesV l) 5 n 1) := by
  intro W hW
  refine calls_of (hp0 := []) Tryz.func194 rfl 12 Tryz.ntmps194 rfl (HRep.nil _) ?_
  refine Sat.seq ?_
  -- region 0
  refine Sat.region ?_
  refine Tr.assign rfl rfl rfl ?_
  refine Tr.nil ?_
  refine at_n ?_
  refine Sat.seq ?_
  -- region 1
  refine Sat.region ?_
  refine Tr.move rfl rfl rfl ?_
  refine Tr.lenSl rfl rfl rfl Tryz.underlying58 ?_
  refine Tr.move rfl rfl rfl ?_
  refine Tr.add_i64 rfl rfl rfl rfl (by omega) ?_
  refine Tr.mkRoom (z := u8 0) (by' := 1) (n + m) rfl rfl rfl rfl (by omega) Tryz.underlying58 Sz5 Zr5 (by unfold By; kernel_rfl) rfl (by omega) (by omega) ?_
  intro n9
  refine Tr.move rfl rfl rfl ?_
  refine Tr.appendSl (z := u8 0) (by' := 1) (bytesV l) rfl rfl rfl rfl rfl Tryz.underlying58 Tryz.underlying58 Sz5 Zr5 (by unfold By; kernel_rfl) rfl (fun w h => seesP_ext h rfl hW) hp (by simp [bytesV, isCell, u8]) rem_here (by omega) rfl (by omega) (by omega) (by omega) (by simp [bytesV, hl]) ?_
  intro q1 c1 hq1
  refine Tr.assign rfl rfl rfl ?_
  refine Tr.nil ?_
  refine at_n ?_
  refine Sat.ret ?_
  refine en_r ?_
  refine ⟨_, [⟨q1, [] ++ bytesV l, 5, c1 * 1⟩], res_tmp rfl rfl, (by intro b hb; rw [List.mem_singleton.1 hb]; exact mem0), nodup1, ⟨q1, c1, by rw [Nat.zero_add], by omega, rfl⟩⟩

set_option maxRecDepth 100000 in
set_option maxHeartbeats 1000000 in
theorem oct_number (q n c : Nat) (l : List UInt8) (x : UInt64) (hl : l.length = n) (hnc : n ≤ c) (hn : n ≤ 200000) : Meets Tryz.prog 206 [.slice (some ⟨q, 0, none⟩) n c, u64 x] [q] (fun W => BlkOk W ⟨q, bytesV (l), 5, c * 1⟩) (fun v out => FreshRow v out (bytesV (l ++ numB x)) 5 (n + szN x.toNat) 1) := by
  intro W hW
  have hz := szN_pos x.toNat
  refine calls_of (hp0 := [⟨q, bytesV (l), 5, c * 1⟩]) Tryz.func206 rfl 37 Tryz.ntmps206 rfl (HRep.one hW) ?_
  refine Sat.seq ?_
  -- region 0
  refine Sat.region ?_
  refine Tr.assign rfl rfl rfl ?_
  refine Tr.nil ?_
  refine at_n ?_
  refine Sat.seq ?_
  -- region 1
  refine Sat.region ?_
  refine Tr.move rfl rfl rfl ?_
  refine Tr.callV rfl rfl rfl rfl Body199 (oct_size _) (fun _ _ => trivial) ?_
  refine Tr.assign rfl rfl rfl ?_
  refine Tr.nil ?_
  refine at_n ?_
  refine Sat.seq ?_
  -- region 2
  refine Sat.draw [(0, 0), (0, 1), (0, 2), (0, 3), (0, 4), (0, 5), (0, 6), (0, 7), (0, 8), (0, 9), (0, 10), (4, 11), (4, 12), (0, 13)] Mixed (by kernel_rfl) ?_
  refine Tr.move rfl rfl rfl ?_
  refine Tr.move rfl rfl rfl ?_
  refine Tr.sub_i64 rfl rfl rfl rfl (by omega) ?_
  refine Tr.shl_u8 rfl rfl (show evIn _ _ = some (u8 255) from rfl) rfl (9 - szN x.toNat) (by omega) (by omega) ?_
  refine Tr.move rfl rfl rfl ?_
  refine Tr.move rfl rfl rfl ?_
  refine Tr.sub_i64 rfl rfl rfl rfl (by omega) ?_
  refine Tr.mul_i64 rfl rfl rfl rfl (by omega) ?_
  refine Tr.shr_u64 rfl rfl rfl rfl (8 * (szN x.toNat - 1)) (by omega) (by omega) ?_
  refine Tr.conv rfl rfl rfl Tryz.underlying48 Tryz.underlying5 (cv_u64_u8 _) ?_
  refine Tr.or_u8 rfl rfl rfl rfl ?_
  refine Tr.mkRow (z := u8 0) [u8 (headB x)] (bytesV [headB x]) rfl rfl rfl Tryz.underlying58 Sz5 Zr5 rfl rfl (by intro v hv; rw [List.mem_singleton.1 hv]; rfl) (by decide) rfl ?_
  intro q20
  refine Tr.appendSl (z := u8 0) (by' := 1) (bytesV [headB x]) rfl rfl rfl rfl rfl Tryz.underlying58 Tryz.underlying58 Sz5 Zr5 (by unfold By; kernel_rfl) rfl (fun w h => SeesP.of (sees_own h mem0)) (fun e => by cases e) (by simp [bytesV, isCell, u8]) (rem_there rem_here) rfl (by simp [bytesV, hl]) (by omega) (by omega) (by omega) (by rfl) ?_
  intro q1 c1 hq1
  refine Tr.assign rfl rfl rfl ?_
  refine Tr.nil ?_
  refine at_n ?_
  refine Sat.seq ?_
  refine Sat.seq ?_
  -- region 3
  refine Sat.region ?_
  refine Tr.move rfl rfl rfl ?_
  refine Tr.sub_i64 rfl rfl rfl rfl (by omega) ?_
  refine Tr.assign rfl rfl rfl ?_
  refine Tr.nil ?_
  refine at_n ?_
  refine Sat.block ?_
  refine Sat.loop (ι := Nat × Nat × Nat) (fun p => ⟨[(0, .slice (some ⟨p.2.1, 0, none⟩) (n + 1 + p.1) p.2.2), (1, u64 x), (5, i64 ((szN x.toNat : Nat) : Int)), (6, i64 (((szN x.toNat : Nat) : Int) - 2 - (p.1 : Int)))], [⟨p.2.1, bytesV (l ++ numUp x p.1), 5, p.2.2 * 1⟩]⟩) (fun p => p.1 ≤ szN x.toNat - 1 ∧ n + 1 + p.1 ≤ p.2.2) (fun p => szN x.toNat - 1 - p.1) ((0, q1, c1)) ?_ ?_ ?_
  · exact ⟨Nat.zero_le _, hq1⟩
  · exact weak_of (wk1 rfl (wk1 rfl (wk1 rfl (wk1 (by rw [show (((szN x.toNat : Nat) : Int) - 2 - ((0 : Nat) : Int)) = ((szN x.toNat : Nat) : Int) - 2 by omega]; rfl) wk0)))) (wh1 (by rw [numUp_zero]; simp only [bytesV, List.map_append]; exact mem0) wh0) (by repeat (first | exact ns_nil | refine ns_keep rfl ?_ | refine ns_skip ?_))
  ·
    rintro p ⟨hp1, hp2⟩
    refine Sat.seq ?_
    refine Sat.seq ?_
    -- region 4
    refine Sat.region ?_
    refine Tr.move rfl rfl rfl ?_
    refine Tr.geq rfl rfl rfl rfl rfl ?_
    refine Tr.nil ?_
    refine at_n ?_
    first
      | refine Sat.condP rfl (fun hc0 => ?_) (fun hc0 => ?_)
      | refine Sat.condNP rfl (fun hc0 => ?_) (fun hc0 => ?_)
      | refine Sat.cond rfl (fun hc0 => ?_) (fun hc0 => ?_)
    ·
      have hp3 : p.1 < szN x.toNat - 1 := by omega
      refine Sat.skip ?_
      refine at_n ?_
      refine Sat.seq ?_
      refine Sat.block ?_
      -- region 6
      refine Sat.region ?_
      refine Tr.move rfl rfl rfl ?_
      refine Tr.move rfl rfl rfl ?_
      refine Tr.move rfl rfl rfl ?_
      refine Tr.mul_i64 rfl rfl rfl rfl (by omega) ?_
      refine Tr.shr_u64 rfl rfl rfl rfl (8 * (szN x.toNat - 2 - p.1)) (by omega) (by omega) ?_
      refine Tr.conv rfl rfl rfl Tryz.underlying48 Tryz.underlying5 (cv_u64_u8 _) ?_
      refine Tr.mkRow (z := u8 0) [u8 ((shr64 x (8 * (szN x.toNat - 2 - p.1))).toUInt8)] (bytesV [(shr64 x (8 * (szN x.toNat - 2 - p.1))).toUInt8]) rfl rfl rfl Tryz.underlying58 Sz5 Zr5 rfl rfl (by intro v hv; rw [List.mem_singleton.1 hv]; rfl) (by decide) rfl ?_
      intro q34
      refine Tr.appendSl (z := u8 0) (by' := 1) (bytesV [(shr64 x (8 * (szN x.toNat - 2 - p.1))).toUInt8]) rfl rfl rfl rfl rfl Tryz.underlying58 Tryz.underlying58 Sz5 Zr5 (by unfold By; kernel_rfl) rfl (fun w h => SeesP.of (sees_own h mem0)) (fun e => by cases e) (by simp [bytesV, isCell, u8]) (rem_there rem_here) rfl (by rw [bytesV, List.length_map, List.length_append, hl, numUp_length x p.1 (by omega)]; omega) (by omega) (by omega) (by omega) (by rfl) ?_
      intro q2 c2 hq2
      refine Tr.assign rfl rfl rfl ?_
      refine Tr.nil ?_
      refine bl_n ?_
      refine at_n ?_
      -- region 5
      refine Sat.region ?_
      refine Tr.move rfl rfl rfl ?_
      refine Tr.sub_i64 rfl rfl rfl rfl (by omega) ?_
      refine Tr.assign rfl rfl rfl ?_
      refine Tr.nil ?_
      refine at_n ?_
      exact ⟨(p.1 + 1, q2, c2), ⟨by simp only []; omega, by simp only []; omega⟩, by simp only []; omega, weak_of (wk1 (by rw [show n + 1 + (p.1 + 1) = n + 1 + p.1 + 1 by omega]; rfl) (wk1 rfl (wk1 rfl (wk1 (by rw [show (((szN x.toNat : Nat) : Int) - 2 - ((p.1 + 1 : Nat) : Int)) = ((szN x.toNat : Nat) : Int) - 2 - (p.1 : Int) - 1 by omega]; rfl) wk0)))) (wh1 (by rw [numUp_step x p.1 (by omega), ← List.append_assoc]; simp only [bytesV, List.map_append]; exact mem0) wh0) (by repeat (first | exact ns_nil | refine ns_keep rfl ?_ | refine ns_skip ?_))⟩
    ·
      have hp3 : p.1 = szN x.toNat - 1 := by omega
      refine Sat.exit ?_
      refine at_x ?_
      refine at_x ?_
      refine bl_h ?_
      refine at_n ?_
      refine Sat.seq ?_
      -- region 7
      refine Sat.region ?_
      refine Tr.move rfl rfl rfl ?_
      refine Tr.assign rfl rfl rfl ?_
      refine Tr.nil ?_
      refine at_n ?_
      refine Sat.ret ?_
      refine en_r ?_
      refine ⟨_, [⟨p.2.1, bytesV (l ++ numB x), 5, p.2.2 * 1⟩], res_tmp rfl rfl, (by intro b hb; rw [List.mem_singleton.1 hb, ← numUp_all, ← hp3]; exact mem0), nodup1, ⟨p.2.1, p.2.2, by rw [show n + 1 + p.1 = n + szN x.toNat by omega], by omega, rfl⟩⟩

set_option maxRecDepth 100000 in
set_option maxHeartbeats 1000000 in
theorem oct_Number (p : Option Addr) (n c : Nat) (l : List UInt8) (x : UInt64) (hl : l.length = n) (hp : p = none → n = 0) (hn : n ≤ 90000) : Meets Tryz.prog 111 [.slice p n c, u64 x] [] (fun W => SeesP W p (bytesV l)) (fun v out => FreshRow v out (bytesV (l ++ numB x)) 5 (n + szN x.toNat) 1) := by
  intro W hW
  have hz := szN_pos x.toNat
  refine calls_of (hp0 := []) Tryz.func111 rfl 11 Tryz.ntmps111 rfl (HRep.nil _) ?_
  refine Sat.seq ?_
  -- region 0
  refine Sat.region ?_
  refine Tr.assign rfl rfl rfl ?_
  refine Tr.nil ?_
  refine at_n ?_
  refine Sat.seq ?_
  -- region 1
  refine Sat.region ?_
  refine Tr.move rfl rfl rfl ?_
  refine Tr.move rfl rfl rfl ?_
  refine Tr.callV rfl rfl rfl rfl Body199 (oct_size _) (fun _ _ => trivial) ?_
  refine Tr.call rfl rfl rfl rfl Body194 (oct_grown p n c (szN x.toNat) l hl hp (by omega) (by omega)) (FreshRow.loose _ _ _ _) (fun w h => seesP_ext h rfl hW) ?_
  rintro v1 out1 ⟨q1, c1, rfl, hc1, rfl⟩
  refine Tr.move rfl rfl rfl ?_
  refine Tr.callL (L := [⟨q1, bytesV (l), 5, c1 * 1⟩]) rfl rfl rfl rfl rfl Body206 (oct_number q1 (n) c1 (l) x (by simp [hl]) hc1 (by omega)) rem_here (by intro m hm; exact ⟨_, List.mem_singleton.2 rfl, (List.mem_singleton.1 hm).symm⟩) (fun w h => own_blk h (by first | exact mem0 | exact mem1 | exact mem2 | exact mem3 | exact mem4 | exact mem5 | exact mem6 | exact mem7 | (repeat (first | exact List.mem_cons_self | refine List.mem_cons_of_mem _ ?_ | refine mem_seg ?_)))) ?_
  rintro v2 out2 ⟨q2, c2, rfl, hc2, rfl⟩
  refine Tr.assign rfl rfl rfl ?_
  refine Tr.nil ?_
  refine at_n ?_
  refine Sat.ret ?_
  refine en_r ?_
  refine ⟨_, [⟨q2, bytesV (l ++ numB x), 5, c2 * 1⟩], res_tmp rfl rfl, (by intro b hb; rw [List.mem_singleton.1 hb]; exact mem0), nodup1, ⟨q2, c2, rfl, hc2, rfl⟩⟩

end Go.Proofs.YtejjamifnombhaaGreat
end

section
namespace Go.Proofs.YtejjamifnombhaaGreat
open Go Hw
set_option linter.unusedVariables false
set_option linter.unusedSimpArgs false


theorem res_none {C : Cx} {fn : Func} {s : St} (hr : fn.results = #[]) : Res C fn s (.tuple #[]) := fun a w r => by
  simp [results, hr]
def rdr (n q N cp at' : Nat) (e : Int) : Reader := ⟨.pointer (some ⟨n, 0, none⟩), ⟨some ⟨q, 0, none⟩, N, cp⟩, (at' : Int), e⟩
theorem rdr_ok (n q N cp at' : Nat) (e : Int) : (rdr n q N cp at' e).ok := ⟨rfl⟩
/-- a reader's block: its number, its row, how much there is, where it stands, its error -/
def RB (n q N cp at' : Nat) (e : Int) : Blk := ⟨n, (rdr n q N cp at' e).cells, 229, 4⟩
theorem rb_self {w : World} {n q N cp at' : Nat} {e : Int} (h : BlkOk w (RB n q N cp at' e)) : w.cell? ⟨n, 0, none⟩ = some (ptr n 0) := BlkOk.cell0 h rfl


set_option maxRecDepth 100000 in
set_option maxHeartbeats 1000000 in
theorem rd_made (n : Nat) : Meets Tryz.prog 214 [ptr n 0] [] (fun W => W.cell? ⟨n, 0, none⟩ = some (ptr n 0)) (fun v out => v = .bool true ∧ out = []) := by
  intro W hW
  refine calls_of (hp0 := []) Tryz.func214 rfl 13 Tryz.ntmps214 rfl (HRep.nil _) ?_
  refine Sat.seq ?_
  -- region 0
  refine Sat.region ?_
  refine Tr.assign rfl rfl rfl ?_
  refine Tr.nil ?_
  refine at_n ?_
  refine Sat.seq ?_
  -- region 1
  refine Sat.region ?_
  refine Tr.move rfl rfl rfl ?_
  refine Tr.neqNilP rfl rfl rfl rfl Tryz.underlying137 ?_
  refine Tr.move rfl rfl rfl ?_
  refine Tr.move rfl rfl rfl ?_
  refine Tr.nilChk rfl rfl rfl ?_
  refine Tr.fld rfl rfl rfl Tryz.underlying229 rfl Sz137 (by decide) _ rfl ?_
  refine Tr.loadE rfl rfl rfl Tryz.underlying137 rfl (by first | (simp; done) | (simp; exact hW.2.2) | (simp [Cx.with]; done) | (simp [Cx.with]; omega)) (hW) ?_
  refine Tr.move rfl rfl rfl ?_
  refine Tr.eqSameP rfl rfl rfl rfl Tryz.underlying137 Sz229 ?_
  refine Tr.pick rfl rfl rfl rfl rfl rfl ?_
  refine Tr.assign rfl rfl rfl ?_
  refine Tr.nil ?_
  refine at_n ?_
  refine Sat.ret ?_
  refine en_r ?_
  refine ⟨_, [], res_tmp rfl rfl, (by simp), (by simp), ?_, rfl⟩
  rfl

set_option maxRecDepth 100000 in
set_option maxHeartbeats 1000000 in
theorem rd_take_more (n q N cp at' : Nat) (k : UInt64) (hat : at' ≤ N) (hN : N ≤ cp) (hbig : N ≤ 1000000) (hk : N < at' + k.toNat) : Meets Tryz.prog 195 [ptr n 0, u64 k] [n] (fun W => BlkOk W (RB n q N cp (at') (0))) (fun v out => v = .tuple #[.slice none 0 0, .bool false] ∧ out = [RB n q N cp (at') (5)]) := by
  intro W hW
  have hfB : (rdr n q N cp at' (0)).fB.n = N := rfl
  have hfA : (rdr n q N cp at' (0)).fAt = (at' : Int) := rfl
  have hfE : (rdr n q N cp at' (0)).fErr = (0) := rfl
  have hwd : (wordOf (((rdr n q N cp at' (0)).fB.n : Int) - (rdr n q N cp at' (0)).fAt)).toNat = N - at' := by
    rw [hfB, hfA, show ((N : Int) - (at' : Int)) = ((N - at' : Nat) : Int) by omega]; simp only [wordOf, UInt64.toNat_ofNat']; omega
  refine calls_of (hp0 := [RB n q N cp (at') (0)]) Tryz.func195 rfl 56 Tryz.ntmps195 rfl (HRep.one hW) ?_
  refine Sat.seq ?_
  -- region 0
  refine Sat.region ?_
  refine Tr.assign rfl rfl rfl ?_
  refine Tr.assign rfl rfl rfl ?_
  refine Tr.nil ?_
  refine at_n ?_
  refine Sat.seq ?_
  refine Sat.seq ?_
  -- region 1
  refine Sat.region ?_
  refine Tr.move rfl rfl rfl ?_
  refine Tr.callV rfl rfl rfl rfl Body214 (rd_made n) (fun w h => rb_self (own_blk h (by first | exact mem0 | exact mem1 | exact mem2 | exact mem3 | exact mem4 | exact mem5 | exact mem6 | exact mem7 | (repeat (first | exact List.mem_cons_self | refine List.mem_cons_of_mem _ ?_ | refine mem_seg ?_))))) ?_
  refine Tr.not rfl rfl rfl ?_
  refine Tr.move rfl rfl rfl ?_
  refine Tr.move rfl rfl rfl ?_
  refine Tr.nilChk rfl rfl rfl ?_
  refine Tr.fld rfl rfl rfl Tryz.underlying229 rfl Sz32 (by decide) _ rfl ?_
  refine Tr.load1 rfl rfl rfl Tryz.underlying32 rfl (by first | exact mem0 | exact mem1 | exact mem2 | exact mem3 | exact mem4 | exact mem5 | exact mem6 | exact mem7 | (repeat (first | exact List.mem_cons_self | refine List.mem_cons_of_mem _ ?_ | refine mem_seg ?_))) (by first | exact Reader.get_fErr (by first | assumption | (simp; done) | exact Reader.zero_ok  | exact rdr_ok _ _ _ _ _ _ | exact ⟨rfl⟩) | exact (by first | rfl | exact get_words (by first | omega | (simp; done) | (simp; omega)) | exact get_bytes (by first | omega | (simp; done) | (simp; omega)) | exact get_ints (by first | omega | (simp; done) | (simp; omega)))) ?_
  refine Tr.nei rfl rfl rfl rfl (show (!decide _) = false from congrArg not (decide_eq_true (rfl))) ?_
  refine Tr.pick rfl rfl rfl rfl rfl rfl ?_
  refine Tr.nil ?_
  refine at_n ?_
  refine Sat.cond_f rfl (rfl) ?_
  refine Sat.skip ?_
  refine at_n ?_
  refine Sat.seq ?_
  refine Sat.seq ?_
  -- region 3
  refine Sat.draw [(0, 0), (0, 1), (0, 2), (0, 3), (1, 4), (0, 5), (0, 6), (0, 7), (0, 8), (1, 9), (0, 10), (0, 11), (0, 12)] Mixed (by kernel_rfl) ?_
  refine Tr.move rfl rfl rfl ?_
  refine Tr.move rfl rfl rfl ?_
  refine Tr.nilChk rfl rfl rfl ?_
  refine Tr.fld rfl rfl rfl Tryz.underlying229 rfl Sz58 (by decide) _ rfl ?_
  refine Tr.load1 rfl rfl rfl Tryz.underlying58 rfl (by first | exact mem0 | exact mem1 | exact mem2 | exact mem3 | exact mem4 | exact mem5 | exact mem6 | exact mem7 | (repeat (first | exact List.mem_cons_self | refine List.mem_cons_of_mem _ ?_ | refine mem_seg ?_))) (by first | exact Reader.get_fB (by first | assumption | (simp; done) | exact Reader.zero_ok  | exact rdr_ok _ _ _ _ _ _ | exact ⟨rfl⟩) | exact (by first | rfl | exact get_words (by first | omega | (simp; done) | (simp; omega)) | exact get_bytes (by first | omega | (simp; done) | (simp; omega)) | exact get_ints (by first | omega | (simp; done) | (simp; omega)))) ?_
  refine Tr.lenSl rfl rfl rfl Tryz.underlying58 ?_
  refine Tr.move rfl rfl rfl ?_
  refine Tr.nilChk rfl rfl rfl ?_
  refine Tr.fld rfl rfl rfl Tryz.underlying229 rfl Sz3 (by decide) _ rfl ?_
  refine Tr.load1 rfl rfl rfl Tryz.underlying3 rfl (by first | exact mem0 | exact mem1 | exact mem2 | exact mem3 | exact mem4 | exact mem5 | exact mem6 | exact mem7 | (repeat (first | exact List.mem_cons_self | refine List.mem_cons_of_mem _ ?_ | refine mem_seg ?_))) (by first | exact Reader.get_fAt (by first | assumption | (simp; done) | exact Reader.zero_ok  | exact rdr_ok _ _ _ _ _ _ | exact ⟨rfl⟩) | exact (by first | rfl | exact get_words (by first | omega | (simp; done) | (simp; omega)) | exact get_bytes (by first | omega | (simp; done) | (simp; omega)) | exact get_ints (by first | omega | (simp; done) | (simp; omega)))) ?_
  refine Tr.sub_i64 rfl rfl rfl rfl (by omega) ?_
  refine Tr.conv rfl rfl rfl Tryz.underlying3 Tryz.underlying48 (cv_i64_u64 _) ?_
  refine Tr.gtr rfl rfl rfl rfl (decide_eq_true (by rw [hwd]; omega)) ?_
  refine Tr.nil ?_
  refine at_n ?_
  refine Sat.cond_t rfl (rfl) ?_
  refine Sat.seq ?_
  -- region 4
  refine Sat.region ?_
  refine Tr.move rfl rfl rfl ?_
  refine Tr.nilChk rfl rfl rfl ?_
  refine Tr.fld rfl rfl rfl Tryz.underlying229 rfl Sz32 (by decide) _ rfl ?_
  refine Tr.store1 rfl rfl rfl rfl rfl Sz32 (by first | exact mem0 | exact mem1 | exact mem2 | exact mem3 | exact mem4 | exact mem5 | exact mem6 | exact mem7 | (repeat (first | exact List.mem_cons_self | refine List.mem_cons_of_mem _ ?_ | refine mem_seg ?_))) (by rw [Reader.length (by first | assumption | (simp; done) | exact Reader.zero_ok  | exact rdr_ok _ _ _ _ _ _ | exact ⟨rfl⟩)]; decide) (Reader.set_fErr (by first | assumption | (simp; done) | exact Reader.zero_ok  | exact rdr_ok _ _ _ _ _ _ | exact ⟨rfl⟩) _) (by first | exact upd0 | exact upd1 | exact upd2 | exact upd3 | exact upd4 | exact upd5 | exact upd6 | exact upd7 | (repeat (first | exact upd0 | apply Upd.tail | apply Upd.seg))) ?_
  refine Tr.nil ?_
  refine at_n ?_
  refine Sat.seq ?_
  -- region 5
  refine Sat.region ?_
  refine Tr.assign rfl rfl rfl ?_
  refine Tr.assign rfl rfl rfl ?_
  refine Tr.nil ?_
  refine at_n ?_
  refine Sat.ret ?_
  refine at_r ?_
  refine en_r ?_
  refine ⟨_, [RB n q N cp (at') (5)], res_tmp2 rfl rfl rfl, (by intro b hb; rw [List.mem_singleton.1 hb]; exact mem0), nodup1, ?_⟩
  exact ⟨rfl, rfl⟩

end Go.Proofs.YtejjamifnombhaaGreat
end

section
namespace Go.Proofs.YtejjamifnombhaaGreat
open Go Hw
set_option linter.unusedVariables false
set_option linter.unusedSimpArgs false


theorem BlkOk.keep {ex : List Nat} {w w' : World} {b : Blk} (h : Keeps ex w w') (hb : BlkOk w b) (hn : b.n ∉ ex) : BlkOk w' b := hb.of_heap (h.block b.n hb.lt hn)



/-- a new reader -/
def RdNew (N : Nat) (xs : List UInt8) (v : Value) (out : List Blk) : Prop := ∃ n q cp, v = ptr n 0 ∧ N ≤ cp ∧ out = [RB n q N cp 0 0, ⟨q, bytesV xs, 5, cp * 1⟩]
theorem RdNew.loose (N : Nat) (xs : List UInt8) : Loose (RdNew N xs) := fun k hk => by
  obtain ⟨q1, _, h1⟩ := fresh_is 0 k
  obtain ⟨q2, h2', h2⟩ := fresh_is (q1 + 1) k
  refine ⟨_, _, ⟨q2, q1, N, rfl, Nat.le_refl _, rfl⟩, ?_⟩
  simp only [RB, List.cons_append, List.nil_append, List.map_cons, List.nodup_cons, List.mem_cons]
  refine ⟨?_, fun h => ?_, hk⟩
  · rintro (h | h)
    · omega
    · obtain ⟨b, hb, e⟩ := List.mem_map.1 h; exact h2 b hb e
  · obtain ⟨b, hb, e⟩ := List.mem_map.1 h; exact h1 b hb e


set_option maxRecDepth 100000 in
set_option maxHeartbeats 1000000 in
theorem oct_Read (p : Option Addr) (n c : Nat) (xs : List UInt8) (hl : xs.length = n) (hp : p = none → n = 0) (hn : n ≤ 90000) : Meets Tryz.prog 96 [.slice p n c] [] (fun W => SeesP W p (bytesV xs)) (RdNew n xs) := by
  intro W hW
  refine calls_of (hp0 := []) Tryz.func96 rfl 13 Tryz.ntmps96 rfl (HRep.nil _) ?_
  refine Sat.seq ?_
  -- region 0
  refine Sat.region ?_
  refine Tr.assign rfl rfl rfl ?_
  refine Tr.nil ?_
  refine at_n ?_
  refine Sat.seq ?_
  -- region 1
  refine Sat.region ?_
  refine Tr.move rfl rfl rfl ?_
  refine Tr.call rfl rfl rfl rfl Body194 (oct_grown p n c 0 xs hl hp (by omega) (by omega)) (FreshRow.loose _ _ _ _) (fun w h => seesP_ext h rfl hW) ?_
  rintro v1 out1 ⟨q1, c1, rfl, hc1, rfl⟩
  refine Tr.build (cs := (⟨.pointer none, ⟨some ⟨q1, 0, none⟩, n, c1⟩, 0, 0⟩ : Reader).cells) rfl rfl rfl (fun w => by kernel_rfl) ?_
  refine Tr.boxA rfl rfl ?_
  intro n7 hn7 hf7
  refine Tr.assign rfl rfl rfl ?_
  refine Tr.nil ?_
  refine at_n ?_
  refine Sat.seq ?_
  -- region 2
  refine Sat.region ?_
  refine Tr.move rfl rfl rfl ?_
  refine Tr.move rfl rfl rfl ?_
  refine Tr.nilChk rfl rfl rfl ?_
  refine Tr.fld rfl rfl rfl Tryz.underlying229 rfl Sz137 (by decide) _ rfl ?_
  refine Tr.store1 rfl rfl rfl rfl rfl Sz137 (by first | exact mem0 | exact mem1 | exact mem2 | exact mem3 | exact mem4 | exact mem5 | exact mem6 | exact mem7 | (repeat (first | exact List.mem_cons_self | refine List.mem_cons_of_mem _ ?_ | refine mem_seg ?_))) (by rw [Reader.length (by first | assumption | (simp; done) | exact Reader.zero_ok  | exact ⟨rfl⟩)]; decide) (Reader.set_fSelf (by first | assumption | (simp; done) | exact Reader.zero_ok  | exact ⟨rfl⟩) _) (by first | exact upd0 | exact upd1 | exact upd2 | exact upd3 | exact upd4 | exact upd5 | exact upd6 | exact upd7 | (repeat (first | exact upd0 | apply Upd.tail | apply Upd.seg))) ?_
  refine Tr.nil ?_
  refine at_n ?_
  refine Sat.seq ?_
  -- region 3
  refine Sat.region ?_
  refine Tr.move rfl rfl rfl ?_
  refine Tr.assign rfl rfl rfl ?_
  refine Tr.nil ?_
  refine at_n ?_
  refine Sat.ret ?_
  refine en_r ?_
  refine ⟨_, [RB n7 q1 n c1 0 0, ⟨q1, bytesV xs, 5, c1 * 1⟩], res_tmp rfl rfl, (by intro b hb; rcases List.mem_cons.1 hb with rfl | hb; exact mem0; rw [List.mem_singleton.1 hb]; exact mem1), (fun h => h.sublist (by simp [RB, blk])), ⟨n7, q1, c1, rfl, hc1, rfl⟩⟩

end Go.Proofs.YtejjamifnombhaaGreat
end

section
namespace Go.Proofs.YtejjamifnombhaaGreat
open Go Hw
set_option linter.unusedVariables false
set_option linter.unusedSimpArgs false

def bodyB (B : Block) (ls : List (List UInt8)) (ds : List UInt8) : List UInt8 := B.fWriter ++ numB B.fSeq ++ B.fPrev ++ numB (UInt64.ofNat B.fLinks.n) ++ ls.flatten ++ (numB (UInt64.ofNat B.fData.n) ++ ds)
theorem word_nat {n : Nat} (h : n ≤ 1000000) : wordOf (n : Int) = UInt64.ofNat n := by simp only [wordOf]; congr 1; omega
theorem ofNat_nat {n : Nat} (h : n ≤ 1000000) : (UInt64.ofNat n).toNat = n := by rw [UInt64.toNat_ofNat', Nat.mod_eq_of_lt (by omega)]
theorem flatten_take_step {ls : List (List UInt8)} {k : Nat} (hk : k < ls.length) : (ls.take (k + 1)).flatten = (ls.take k).flatten ++ ls.getD k [] := by
  rw [List.take_succ_eq_append_getElem hk, List.flatten_append]
  simp [List.getD, hk]
theorem flatten_take_len {ls : List (List UInt8)} (h : ∀ l ∈ ls, l.length = 32) {k : Nat} (hk : k ≤ ls.length) : (ls.take k).flatten.length = k * 32 := by
  rw [flatten_len 32 _ (fun l hl => h l (List.mem_of_mem_take hl)), List.length_take, Nat.min_eq_left hk]


def bytesB (B : Block) (ls : List (List UInt8)) (ds : List UInt8) : List UInt8 := bodyB B ls ds ++ B.fSig



end Go.Proofs.YtejjamifnombhaaGreat
end

section
namespace Go.Proofs.YtejjamifnombhaaGreat
open Go Hw
set_option linter.unusedVariables false
set_option linter.unusedSimpArgs false


/-- a block as plain data -/
structure DB where
  w : List UInt8
  seq : UInt64
  prev : List UInt8
  ls : List (List UInt8)
  ds : List UInt8
  sg : List UInt8
deriving DecidableEq
def DB.zero : DB := ⟨List.replicate 32 0, 0, List.replicate 32 0, [], [], List.replicate 64 0⟩
def DB.head (D : DB) : Bool := decide ((4294967295 : Int) < (D.seq.toNat : Int)) || (!decide (decide (D.prev = List.replicate 32 0) = decide ((D.seq.toNat : Int) = 0)) || (decide ((16 : Int) < (D.ls.length : Int)) || decide ((512 : Int) < (D.ds.length : Int))))
def DB.check (D : DB) : Int := if D.head = true then 2 else (if linksBad D.prev D.ls = true then 2 else 0)
def DB.body (D : DB) : List UInt8 := D.w ++ numB D.seq ++ D.prev ++ numB (UInt64.ofNat D.ls.length) ++ D.ls.flatten ++ (numB (UInt64.ofNat D.ds.length) ++ D.ds)
def DB.bytes (D : DB) : List UInt8 := D.body ++ D.sg
/-- the lengths that the types ask -/
structure DB.ok (D : DB) : Prop where
  w : D.w.length = 32
  prev : D.prev.length = 32
  sg : D.sg.length = 64
  ls : ∀ l ∈ D.ls, l.length = 32
structure BlockIs (W : World) (B : Block) (D : DB) : Prop where
  ok : B.ok
  w : B.fWriter = D.w
  seq : B.fSeq = D.seq
  prev : B.fPrev = D.prev
  ls : RowsAt W B.fLinks 32 D.ls
  ds : BytesAt W B.fData D.ds
  sg : B.fSig = D.sg
theorem BlockIs.check {W : World} {B : Block} {D : DB} (h : BlockIs W B D) : bcheck B D.ls = D.check := by
  simp only [bcheck, bheadB, DB.check, DB.head, h.seq, h.prev, h.ls.len, h.ds.len]
theorem BlockIs.body {W : World} {B : Block} {D : DB} (h : BlockIs W B D) : bodyB B D.ls D.ds = D.body := by
  simp only [bodyB, DB.body, h.w, h.seq, h.prev, h.ls.len, h.ds.len]
theorem BlockIs.bytes {W : World} {B : Block} {D : DB} (h : BlockIs W B D) : bytesB B D.ls D.ds = D.bytes := by
  simp only [bytesB, DB.bytes, h.body, h.sg]
theorem acc_bytes {s : Sl} {bl : List Blk} {l : List UInt8} {E : TypeId} {n : Nat} {w : World} (h : Acc s bl (bytesV l) E n 1) (hl : Lies bl w) (hn : l.length = n) (hm : n ≤ 1000000) : BytesAt w s l :=
  ⟨by rw [h.num, hn], h.cap, h.see hl, by rw [h.num]; unfold maxLen; omega, h.nilc⟩
end Go.Proofs.YtejjamifnombhaaGreat
end

section
namespace Hw
open Go
set_option linter.unusedSimpArgs false
set_option linter.unusedVariables false

/-- turned to the left by s bits -/
def rolW (x : UInt64) (s : Nat) : UInt64 := shl64 x s ||| shr64 x (64 - s)
def schA (p : List UInt8) : Nat → List UInt64
  | 0 => List.replicate 80 0
  | i + 1 => (schA p i).set (i / 8) (shl64 ((schA p i).getD (i / 8) 0) 8 ||| (p.getD i 0).toUInt64)
theorem schA_length (p : List UInt8) : ∀ i, (schA p i).length = 80
  | 0 => rfl
  | i + 1 => by rw [schA, List.length_set, schA_length p i]
def sig0 (x : UInt64) : UInt64 := rolW x 63 ^^^ rolW x 56 ^^^ shr64 x 7
def sig1 (y : UInt64) : UInt64 := rolW y 45 ^^^ rolW y 3 ^^^ shr64 y 6
def schB (w : List UInt64) : Nat → List UInt64
  | 0 => w
  | j + 1 => (schB w j).set (16 + j) ((schB w j).getD j 0 + sig0 ((schB w j).getD (j + 1) 0) + (schB w j).getD (j + 9) 0 + sig1 ((schB w j).getD (j + 14) 0))
theorem schB_length (w : List UInt64) : ∀ j, (schB w j).length = w.length
  | 0 => rfl
  | j + 1 => by rw [schB, List.length_set, schB_length w j]
def schW (p : List UInt8) : List UInt64 := schB (schA p 128) 64
structure W8 where
  a : UInt64
  b : UInt64
  c : UInt64
  d : UInt64
  e : UInt64
  f : UInt64
  g : UInt64
  h : UInt64
def W8.l (s : W8) : List UInt64 := [s.a, s.b, s.c, s.d, s.e, s.f, s.g, s.h]
def W8.of (l : List UInt64) : W8 := ⟨l.getD 0 0, l.getD 1 0, l.getD 2 0, l.getD 3 0, l.getD 4 0, l.getD 5 0, l.getD 6 0, l.getD 7 0⟩
def rndT1 (s : W8) (k w : UInt64) : UInt64 := s.h + (rolW s.e 50 ^^^ rolW s.e 46 ^^^ rolW s.e 23) + ((s.e &&& s.f) ^^^ ((18446744073709551615 ^^^ s.e) &&& s.g)) + k + w
def rndT2 (s : W8) : UInt64 := (rolW s.a 36 ^^^ rolW s.a 30 ^^^ rolW s.a 25) + ((s.a &&& s.b) ^^^ (s.a &&& s.c) ^^^ (s.b &&& s.c))
def rnd1 (s : W8) (k w : UInt64) : W8 := ⟨rndT1 s k w + rndT2 s, s.a, s.b, s.c, s.d + rndT1 s k w, s.e, s.f, s.g⟩
def rnds (k w : List UInt64) (s : W8) : Nat → W8
  | 0 => s
  | t + 1 => rnd1 (rnds k w s t) (k.getD t 0) (w.getD t 0)
def addUp (st xs : List UInt64) : Nat → List UInt64
  | 0 => st
  | i + 1 => (addUp st xs i).set i ((addUp st xs i).getD i 0 + xs.getD i 0)
theorem addUp_length (st xs : List UInt64) : ∀ i, (addUp st xs i).length = st.length
  | 0 => rfl
  | i + 1 => by rw [addUp, List.length_set, addUp_length st xs i]
def pieceW (k st : List UInt64) (p : List UInt8) : List UInt64 := addUp st (rnds k (schW p) (W8.of st) 80).l 8
theorem pieceW_length (k st : List UInt64) (p : List UInt8) : (pieceW k st p).length = st.length := addUp_length _ _ _
def sumUp (st : List UInt64) : Nat → List UInt8
  | 0 => List.replicate 64 0
  | i + 1 => (sumUp st i).set i (shr64 (st.getD (i / 8) 0) (56 - 8 * (i % 8))).toUInt8
theorem sumUp_length (st : List UInt64) : ∀ i, (sumUp st i).length = 64
  | 0 => rfl
  | i + 1 => by rw [sumUp, List.length_set, sumUp_length st i]
/-- the zeros behind the 128 -/
def padZ (n : Nat) : Nat := (239 - n % 128) % 128
theorem padZ_lt (n : Nat) : padZ n < 128 := Nat.mod_lt _ (by decide)
theorem padZ_at (n j : Nat) (h : j ≤ padZ n) : (n + 1 + j) % 128 = 112 ↔ j = padZ n := by unfold padZ at *; omega
def beUp (x : UInt64) : Nat → List UInt8
  | 0 => []
  | j + 1 => beUp x j ++ [(shr64 x (56 - 8 * j)).toUInt8]
theorem beUp_length (x : UInt64) : ∀ j, (beUp x j).length = j
  | 0 => rfl
  | j + 1 => by rw [beUp, List.length_append, beUp_length x j]; rfl
def padB (l : List UInt8) : List UInt8 := l ++ [128] ++ List.replicate (padZ l.length) 0 ++ beUp 0 8 ++ beUp (UInt64.ofNat (8 * l.length)) 8
theorem padB_length (l : List UInt8) : (padB l).length = l.length + 17 + padZ l.length := by
  simp only [padB, List.length_append, beUp_length, List.length_replicate, List.length_singleton]; omega
theorem padB_mod (l : List UInt8) : (padB l).length = 128 * ((padB l).length / 128) := by
  rw [padB_length]; unfold padZ; omega
def runW (k st : List UInt64) (bs : List UInt8) : Nat → List UInt64
  | 0 => st
  | i + 1 => pieceW k (runW k st bs i) ((bs.drop (128 * i)).take 128)
theorem runW_length (k st : List UInt64) (bs : List UInt8) : ∀ i, (runW k st bs i).length = st.length
  | 0 => rfl
  | i + 1 => by rw [runW, pieceW_length, runW_length k st bs i]
def allW (k st : List UInt64) (l : List UInt8) : List UInt64 := runW k st (padB l) ((padB l).length / 128)
theorem allW_length (k st : List UInt64) (l : List UInt8) : (allW k st l).length = st.length := runW_length _ _ _ _
end Hw
end

section
namespace Go.Proofs.YtejjamifnombhaaGreat
open Go Hw
set_option linter.unusedVariables false
set_option linter.unusedSimpArgs false

def kW : List UInt64 := [4794697086780616226, 8158064640168781261, 13096744586834688815, 16840607885511220156, 4131703408338449720, 6480981068601479193, 10538285296894168987, 12329834152419229976, 15566598209576043074, 1334009975649890238, 2608012711638119052, 6128411473006802146, 8268148722764581231, 9286055187155687089, 11230858885718282805, 13951009754708518548, 16472876342353939154, 17275323862435702243, 1135362057144423861, 2597628984639134821, 3308224258029322869, 5365058923640841347, 6679025012923562964, 8573033837759648693, 10970295158949994411, 12119686244451234320, 12683024718118986047, 13788192230050041572, 14330467153632333762, 15395433587784984357, 489312712824947311, 1452737877330783856, 2861767655752347644, 3322285676063803686, 5560940570517711597, 5996557281743188959, 7280758554555802590, 8532644243296465576, 9350256976987008742, 10552545826968843579, 11727347734174303076, 12113106623233404929, 14000437183269869457, 14369950271660146224, 15101387698204529176, 15463397548674623760, 17586052441742319658, 1182934255886127544, 1847814050463011016, 2177327727835720531, 2830643537854262169, 3796741975233480872, 4115178125766777443, 5681478168544905931, 6601373596472566643, 7507060721942968483, 8399075790359081724, 8693463985226723168, 9568029438360202098, 10144078919501101548, 10430055236837252648, 11840083180663258601, 13761210420658862357, 14299343276471374635, 14566680578165727644, 15097957966210449927, 16922976911328602910, 17689382322260857208, 500013540394364858, 748580250866718886, 1242879168328830382, 1977374033974150939, 2944078676154940804, 3659926193048069267, 4368137639120453308, 4836135668995329356, 5532061633213252278, 6448918945643986474, 6902733635092675308, 7801388544844847127]
def startW : List UInt64 := [7640891576956012808, 13503953896175478587, 4354685564936845355, 11912009170470909681, 5840696475078001361, 11170449401992604703, 2270897969802886507, 6620516959819538809]


set_option maxRecDepth 100000 in
set_option maxHeartbeats 1000000 in
theorem sha_K  : Meets Tryz.prog 264 [] [] (fun _ => True) (fun v out => v = agg (wordsV kW) ∧ out = []) := by
  intro W hW
  refine calls_of (hp0 := []) Tryz.func264 rfl 2 Tryz.ntmps264 rfl (HRep.nil _) ?_
  refine Sat.seq ?_
  -- region 0
  refine Sat.region ?_
  refine Tr.alloc (cs := (wordsV (List.replicate 80 0))) rfl Zr278 rfl ?_
  intro n0 hn0 hf0
  refine Tr.nil ?_
  refine at_n ?_
  refine Sat.seq ?_
  -- region 1
  refine Sat.region ?_
  refine Tr.build (cs := wordsV kW) rfl rfl rfl (fun w => by kernel_rfl) ?_
  first
    | refine Tr.storeAll rfl rfl rfl rfl (by first | exact bytesV_cell _ | simp [isCell]) Sz278 (by first | assumption | (simp [kW]; done) | (rw [bytesV, List.length_map]; assumption)) (by first | exact mem0 | exact mem1 | exact mem2 | exact mem3 | exact mem4 | exact mem5 | exact mem6 | exact mem7 | (repeat (first | exact List.mem_cons_self | refine List.mem_cons_of_mem _ ?_ | refine mem_seg ?_))) (by first | assumption | (simp [kW]; done) | (rw [bytesV, List.length_map]; assumption)) (by first | exact upd0 | exact upd1 | exact upd2 | exact upd3 | exact upd4 | exact upd5 | exact upd6 | exact upd7 | (repeat (first | exact upd0 | apply Upd.tail | apply Upd.seg))) ?_
    | refine Tr.storeN _ rfl rfl rfl rfl rfl (by first | exact bytesV_cell _ | simp [isCell]) Sz278 (by first | assumption | (simp [kW]; done) | (rw [bytesV, List.length_map]; assumption)) (by first | exact mem0 | exact mem1 | exact mem2 | exact mem3 | exact mem4 | exact mem5 | exact mem6 | exact mem7 | (repeat (first | exact List.mem_cons_self | refine List.mem_cons_of_mem _ ?_ | refine mem_seg ?_))) (by first | assumption | (simp [kW]; done) | (rw [bytesV, List.length_map]; assumption)) (by exact rfl) (by first | exact upd0 | exact upd1 | exact upd2 | exact upd3 | exact upd4 | exact upd5 | exact upd6 | exact upd7 | (repeat (first | exact upd0 | apply Upd.tail | apply Upd.seg))) ?_
  refine Tr.nil ?_
  refine at_n ?_
  refine Sat.ret ?_
  refine en_r ?_
  refine ⟨_, [], res_cell rfl rfl Tryz.underlying278 rfl Sz278 (by first | exact mem0 | exact mem1 | exact mem2 | exact mem3 | exact mem4 | exact mem5 | exact mem6 | exact mem7 | (repeat (first | exact List.mem_cons_self | refine List.mem_cons_of_mem _ ?_ | refine mem_seg ?_))) (by simp [kW]), (by simp), (by simp), ?_, rfl⟩
  rfl

set_option maxRecDepth 100000 in
set_option maxHeartbeats 1000000 in
theorem sha_Start  : Meets Tryz.prog 257 [] [] (fun _ => True) (fun v out => v = agg (wordsV startW) ∧ out = []) := by
  intro W hW
  refine calls_of (hp0 := []) Tryz.func257 rfl 2 Tryz.ntmps257 rfl (HRep.nil _) ?_
  refine Sat.seq ?_
  -- region 0
  refine Sat.region ?_
  refine Tr.alloc (cs := (wordsV (List.replicate 8 0))) rfl Zr263 rfl ?_
  intro n0 hn0 hf0
  refine Tr.nil ?_
  refine at_n ?_
  refine Sat.seq ?_
  -- region 1
  refine Sat.region ?_
  refine Tr.build (cs := wordsV startW) rfl rfl rfl (fun w => by kernel_rfl) ?_
  first
    | refine Tr.storeAll rfl rfl rfl rfl (by first | exact bytesV_cell _ | simp [isCell]) Sz263 (by first | assumption | (simp [startW]; done) | (rw [bytesV, List.length_map]; assumption)) (by first | exact mem0 | exact mem1 | exact mem2 | exact mem3 | exact mem4 | exact mem5 | exact mem6 | exact mem7 | (repeat (first | exact List.mem_cons_self | refine List.mem_cons_of_mem _ ?_ | refine mem_seg ?_))) (by first | assumption | (simp [startW]; done) | (rw [bytesV, List.length_map]; assumption)) (by first | exact upd0 | exact upd1 | exact upd2 | exact upd3 | exact upd4 | exact upd5 | exact upd6 | exact upd7 | (repeat (first | exact upd0 | apply Upd.tail | apply Upd.seg))) ?_
    | refine Tr.storeN _ rfl rfl rfl rfl rfl (by first | exact bytesV_cell _ | simp [isCell]) Sz263 (by first | assumption | (simp [startW]; done) | (rw [bytesV, List.length_map]; assumption)) (by first | exact mem0 | exact mem1 | exact mem2 | exact mem3 | exact mem4 | exact mem5 | exact mem6 | exact mem7 | (repeat (first | exact List.mem_cons_self | refine List.mem_cons_of_mem _ ?_ | refine mem_seg ?_))) (by first | assumption | (simp [startW]; done) | (rw [bytesV, List.length_map]; assumption)) (by exact rfl) (by first | exact upd0 | exact upd1 | exact upd2 | exact upd3 | exact upd4 | exact upd5 | exact upd6 | exact upd7 | (repeat (first | exact upd0 | apply Upd.tail | apply Upd.seg))) ?_
  refine Tr.nil ?_
  refine at_n ?_
  refine Sat.ret ?_
  refine en_r ?_
  refine ⟨_, [], res_cell rfl rfl Tryz.underlying263 rfl Sz263 (by first | exact mem0 | exact mem1 | exact mem2 | exact mem3 | exact mem4 | exact mem5 | exact mem6 | exact mem7 | (repeat (first | exact List.mem_cons_self | refine List.mem_cons_of_mem _ ?_ | refine mem_seg ?_))) (by simp [startW]), (by simp), (by simp), ?_, rfl⟩
  rfl

set_option maxRecDepth 100000 in
set_option maxHeartbeats 1000000 in
theorem bits_rol (x : UInt64) (k : Int) (s : Nat) (hk : -64 ≤ k ∧ k ≤ 64) (hs : (wordOf k &&& 63).toNat = s) (hs2 : s ≤ 63) : Meets Tryz.prog 265 [u64 x, i64 k] [] (fun _ => True) (fun v out => v = u64 (rolW x s) ∧ out = []) := by
  intro W hW
  have h64 : ((64 : UInt64) - (wordOf k &&& 63)).toNat = 64 - s := by rw [UInt64.toNat_sub_of_le _ _ (by rw [UInt64.le_iff_toNat_le, hs]; show s ≤ 64; omega), hs]; rfl
  refine calls_of (hp0 := []) Tryz.func265 rfl 17 Tryz.ntmps265 rfl (HRep.nil _) ?_
  refine Sat.seq ?_
  -- region 0
  refine Sat.region ?_
  refine Tr.assign rfl rfl (show evIn _ _ = some (u64 0) from rfl) ?_
  refine Tr.nil ?_
  refine at_n ?_
  refine Sat.seq ?_
  -- region 1
  refine Sat.region ?_
  refine Tr.move rfl rfl rfl ?_
  refine Tr.conv rfl rfl rfl Tryz.underlying3 Tryz.underlying235 (cv_i64_u64 _) ?_
  refine Tr.and_u64 rfl rfl rfl (show evIn _ _ = some (u64 63) from rfl) ?_
  refine Tr.assign rfl rfl rfl ?_
  refine Tr.nil ?_
  refine at_n ?_
  refine Sat.seq ?_
  -- region 2
  refine Sat.region ?_
  refine Tr.move rfl rfl rfl ?_
  refine Tr.move rfl rfl rfl ?_
  refine Tr.shl_u64 rfl rfl rfl rfl s (by omega) (by omega) ?_
  refine Tr.move rfl rfl rfl ?_
  refine Tr.move rfl rfl rfl ?_
  refine Tr.sub_u64 rfl rfl (show evIn _ _ = some (u64 64) from rfl) rfl ?_
  refine Tr.shr_u64 rfl rfl rfl rfl (64 - s) (by omega) (by omega) ?_
  refine Tr.or_u64 rfl rfl rfl rfl ?_
  refine Tr.assign rfl rfl rfl ?_
  refine Tr.nil ?_
  refine at_n ?_
  refine Sat.ret ?_
  refine en_r ?_
  refine ⟨_, [], res_tmp rfl rfl, (by simp), (by simp), ?_, rfl⟩
  rfl

set_option maxRecDepth 100000 in
set_option maxHeartbeats 4000000 in
theorem sha_schedule (p : List UInt8) (hp : p.length = 128) (A w : List UInt64) (hA : Hid (schA p 128 = A)) (hwp : Hid (schB A 64 = w)) : Meets Tryz.prog 263 [agg (bytesV p)] [] (fun _ => True) (fun v out => v = agg (wordsV w) ∧ out = []) := by
  intro W hW
  have hA80 : A.length = 80 := by rw [← hA.out]; exact schA_length p 128
  have hw80 : w.length = 80 := by rw [← hwp.out, schB_length]; exact hA80
  refine calls_of (hp0 := []) Tryz.func263 rfl 72 Tryz.ntmps263 rfl (HRep.nil _) ?_
  refine Sat.seq ?_
  -- region 0
  refine Sat.region ?_
  refine Tr.boxA rfl rfl ?_
  intro n1 hn1 hf1
  refine Tr.alloc (cs := (wordsV (List.replicate 80 0))) rfl Zr278 rfl ?_
  intro n2 hn2 hf2
  refine Tr.nil ?_
  refine at_n ?_
  refine Sat.seq ?_
  -- region 1
  refine Sat.region ?_
  refine Tr.alloc (cs := (wordsV (List.replicate 80 0))) rfl Zr278 rfl ?_
  intro n3 hn3 hf3
  refine Tr.nil ?_
  refine at_n ?_
  refine Sat.seq ?_
  refine Sat.seq ?_
  -- region 2
  refine Sat.region ?_
  first
    | refine Tr.loadAll rfl rfl rfl Tryz.underlying274 rfl Sz274 (by first | exact mem0 | exact mem1 | exact mem2 | exact mem3 | exact mem4 | exact mem5 | exact mem6 | exact mem7 | (repeat (first | exact List.mem_cons_self | refine List.mem_cons_of_mem _ ?_ | refine mem_seg ?_))) (by first | assumption | (simp [hp, schA_length, schB_length, hw80, hA80]; done) | (rw [bytesV, List.length_map]; assumption)) ?_
    | refine Tr.loadN _ rfl rfl rfl Tryz.underlying274 rfl Sz274 (by first | exact mem0 | exact mem1 | exact mem2 | exact mem3 | exact mem4 | exact mem5 | exact mem6 | exact mem7 | (repeat (first | exact List.mem_cons_self | refine List.mem_cons_of_mem _ ?_ | refine mem_seg ?_))) (by exact rfl) (by first | assumption | (simp [hp, schA_length, schB_length, hw80, hA80]; done) | (rw [bytesV, List.length_map]; assumption)) ?_
  refine Tr.move rfl rfl rfl ?_
  refine Tr.nil ?_
  refine at_n ?_
  refine Sat.block ?_
  refine Sat.loop (ι := Nat) (fun k => ⟨[(3, ptr n3 0), (2, ptr n2 0), (11, agg (bytesV p)), (12, i64 (k : Int))], [⟨n3, wordsV (schA p k), 278, 80⟩, ⟨n2, wordsV (List.replicate 80 0), 278, 80⟩]⟩) (fun k => k ≤ 128) (fun k => 128 - k) (0) ?_ ?_ ?_
  · omega
  · exact weak_of (wk1 rfl (wk1 rfl (wk1 rfl (wk1 rfl wk0)))) (wh1 (by first | exact mem0 | exact mem1 | exact mem2 | exact mem3 | exact mem4 | exact mem5 | exact mem6 | exact mem7 | (repeat (first | exact List.mem_cons_self | refine List.mem_cons_of_mem _ ?_ | refine mem_seg ?_))) (wh1 (by first | exact mem0 | exact mem1 | exact mem2 | exact mem3 | exact mem4 | exact mem5 | exact mem6 | exact mem7 | (repeat (first | exact List.mem_cons_self | refine List.mem_cons_of_mem _ ?_ | refine mem_seg ?_))) wh0)) (by repeat (first | exact ns_nil | refine ns_keep rfl ?_ | refine ns_skip ?_))
  ·
    rintro k hi
    have hlk := schA_length p k
    refine Sat.seq ?_
    -- region 3
    refine Sat.region ?_
    refine Tr.lss rfl rfl rfl rfl rfl ?_
    refine Tr.nil ?_
    refine at_n ?_
    refine Sat.seq ?_
    first
      | refine Sat.condP rfl (fun hc0 => ?_) (fun hc0 => ?_)
      | refine Sat.condNP rfl (fun hc0 => ?_) (fun hc0 => ?_)
      | refine Sat.cond rfl (fun hc0 => ?_) (fun hc0 => ?_)
    ·
      refine Sat.skip ?_
      refine at_n ?_
      refine Sat.seq ?_
      refine Sat.block ?_
      refine Sat.seq ?_
      -- region 4
      refine Sat.region ?_
      refine Tr.move rfl rfl rfl ?_
      refine Tr.idxA1 rfl rfl rfl rfl Tryz.underlying274 Sz5 Tryz.underlying5 rfl _ rfl (by omega) (by first | rfl | exact get_words (by first | omega | (simp [hp, schA_length, schB_length, hw80, hA80]; done) | (simp [hp, schA_length, schB_length, hw80, hA80]; omega)) | exact get_bytes (by first | omega | (simp [hp, schA_length, schB_length, hw80, hA80]; done) | (simp [hp, schA_length, schB_length, hw80, hA80]; omega)) | exact get_ints (by first | omega | (simp [hp, schA_length, schB_length, hw80, hA80]; done) | (simp [hp, schA_length, schB_length, hw80, hA80]; omega))) ?_
      refine Tr.assign rfl rfl rfl ?_
      refine Tr.assign rfl rfl rfl ?_
      refine Tr.nil ?_
      refine at_n ?_
      -- region 5
      refine Sat.region ?_
      refine Tr.move rfl rfl rfl ?_
      refine Tr.quo_i64 rfl rfl rfl rfl (by omega) ?_
      refine Tr.move rfl rfl rfl ?_
      refine Tr.quo_i64 rfl rfl rfl rfl (by omega) ?_
      first
        | refine Tr.idxArr1 rfl rfl rfl rfl Tryz.underlying278 Sz48 (k / 8) (by omega) (by omega) ?_
        | refine Tr.idxArrO rfl rfl rfl rfl Tryz.underlying278 Sz48 (k / 8) (by omega) (by omega) ?_
      refine Tr.load1 rfl rfl rfl Tryz.underlying48 rfl (by first | exact mem0 | exact mem1 | exact mem2 | exact mem3 | exact mem4 | exact mem5 | exact mem6 | exact mem7 | (repeat (first | exact List.mem_cons_self | refine List.mem_cons_of_mem _ ?_ | refine mem_seg ?_))) (by first | rfl | exact get_words (by first | omega | (simp [hp, schA_length, schB_length, hw80, hA80]; done) | (simp [hp, schA_length, schB_length, hw80, hA80]; omega)) | exact get_bytes (by first | omega | (simp [hp, schA_length, schB_length, hw80, hA80]; done) | (simp [hp, schA_length, schB_length, hw80, hA80]; omega)) | exact get_ints (by first | omega | (simp [hp, schA_length, schB_length, hw80, hA80]; done) | (simp [hp, schA_length, schB_length, hw80, hA80]; omega))) ?_
      refine Tr.shl_u64 rfl rfl rfl rfl 8 rfl (by decide) ?_
      refine Tr.move rfl rfl rfl ?_
      refine Tr.conv rfl rfl rfl Tryz.underlying5 Tryz.underlying48 (cv_u8_u64 _) ?_
      refine Tr.or_u64 rfl rfl rfl rfl ?_
      first
        | refine Tr.idxArr1 rfl rfl rfl rfl Tryz.underlying278 Sz48 (k / 8) (by omega) (by omega) ?_
        | refine Tr.idxArrO rfl rfl rfl rfl Tryz.underlying278 Sz48 (k / 8) (by omega) (by omega) ?_
      refine Tr.store1 rfl rfl rfl rfl rfl Sz48 (by first | exact mem0 | exact mem1 | exact mem2 | exact mem3 | exact mem4 | exact mem5 | exact mem6 | exact mem7 | (repeat (first | exact List.mem_cons_self | refine List.mem_cons_of_mem _ ?_ | refine mem_seg ?_))) (by first | (simp [hp, schA_length, schB_length, hw80, hA80]; done) | (simp [hp, schA_length, schB_length, hw80, hA80]; omega)) (by first | exact set_words _ _ _ | exact set_bytes _ _ _ | exact set_ints _ _ _ | rfl) (by first | exact upd0 | exact upd1 | exact upd2 | exact upd3 | exact upd4 | exact upd5 | exact upd6 | exact upd7 | (repeat (first | exact upd0 | apply Upd.tail | apply Upd.seg))) ?_
      refine Tr.nil ?_
      refine bl_n ?_
      refine at_n ?_
      -- region 6
      refine Sat.region ?_
      refine Tr.add_i64 rfl rfl rfl rfl (by omega) ?_
      refine Tr.move rfl rfl rfl ?_
      refine Tr.nil ?_
      refine at_n ?_
      exact ⟨k + 1, by omega, by omega, weak_of (wk1 rfl (wk1 rfl (wk1 rfl (wk1 rfl wk0)))) (wh1 (by first | exact mem0 | exact mem1 | exact mem2 | exact mem3 | exact mem4 | exact mem5 | exact mem6 | exact mem7 | (repeat (first | exact List.mem_cons_self | refine List.mem_cons_of_mem _ ?_ | refine mem_seg ?_))) (wh1 (by first | exact mem0 | exact mem1 | exact mem2 | exact mem3 | exact mem4 | exact mem5 | exact mem6 | exact mem7 | (repeat (first | exact List.mem_cons_self | refine List.mem_cons_of_mem _ ?_ | refine mem_seg ?_))) wh0)) (by repeat (first | exact ns_nil | refine ns_keep rfl ?_ | refine ns_skip ?_))⟩
    ·
      obtain rfl : k = 128 := by omega
      rw [hA.out]
      clear hlk
      refine Sat.exit ?_
      refine at_x ?_
      refine at_x ?_
      refine bl_h ?_
      refine at_n ?_
      refine Sat.seq ?_
      refine Sat.seq ?_
      -- region 7
      refine Sat.region ?_
      refine Tr.assign rfl rfl rfl ?_
      refine Tr.nil ?_
      refine at_n ?_
      refine Sat.block ?_
      refine Sat.loop (ι := Nat) (fun j => ⟨[(3, ptr n3 0), (2, ptr n2 0), (6, i64 (16 + (j : Int)))], [⟨n3, wordsV (schB A j), 278, 80⟩, ⟨n2, wordsV (List.replicate 80 0), 278, 80⟩]⟩) (fun j => j ≤ 64) (fun j => 64 - j) (0) ?_ ?_ ?_
      · omega
      · exact weak_of (wk1 rfl (wk1 rfl (wk1 rfl wk0))) (wh1 (by first | exact mem0 | exact mem1 | exact mem2 | exact mem3 | exact mem4 | exact mem5 | exact mem6 | exact mem7 | (repeat (first | exact List.mem_cons_self | refine List.mem_cons_of_mem _ ?_ | refine mem_seg ?_))) (wh1 (by first | exact mem0 | exact mem1 | exact mem2 | exact mem3 | exact mem4 | exact mem5 | exact mem6 | exact mem7 | (repeat (first | exact List.mem_cons_self | refine List.mem_cons_of_mem _ ?_ | refine mem_seg ?_))) wh0)) (by repeat (first | exact ns_nil | refine ns_keep rfl ?_ | refine ns_skip ?_))
      ·
        rintro j hi
        have hlj := schB_length A j
        refine Sat.seq ?_
        refine Sat.seq ?_
        -- region 8
        refine Sat.region ?_
        refine Tr.move rfl rfl rfl ?_
        refine Tr.lss rfl rfl rfl rfl rfl ?_
        refine Tr.nil ?_
        refine at_n ?_
        first
          | refine Sat.condP rfl (fun hc1 => ?_) (fun hc1 => ?_)
          | refine Sat.condNP rfl (fun hc1 => ?_) (fun hc1 => ?_)
          | refine Sat.cond rfl (fun hc1 => ?_) (fun hc1 => ?_)
        ·
          refine Sat.skip ?_
          refine at_n ?_
          refine Sat.seq ?_
          refine Sat.block ?_
          refine Sat.seq ?_
          -- region 10
          refine Sat.draw [(0, 0), (0, 1), (0, 2), (1, 3), (0, 4), (0, 5), (0, 6), (1, 7), (0, 8), (0, 9)] Mixed (by kernel_rfl) ?_
          refine Tr.move rfl rfl rfl ?_
          refine Tr.sub_i64 rfl rfl rfl rfl (by omega) ?_
          first
            | refine Tr.idxArr1 rfl rfl rfl rfl Tryz.underlying278 Sz48 (j + 1) (by omega) (by omega) ?_
            | refine Tr.idxArrO rfl rfl rfl rfl Tryz.underlying278 Sz48 (j + 1) (by omega) (by omega) ?_
          refine Tr.load1 rfl rfl rfl Tryz.underlying48 rfl (by first | exact mem0 | exact mem1 | exact mem2 | exact mem3 | exact mem4 | exact mem5 | exact mem6 | exact mem7 | (repeat (first | exact List.mem_cons_self | refine List.mem_cons_of_mem _ ?_ | refine mem_seg ?_))) (by first | rfl | exact get_words (by first | omega | (simp [hp, schA_length, schB_length, hw80, hA80]; done) | (simp [hp, schA_length, schB_length, hw80, hA80]; omega)) | exact get_bytes (by first | omega | (simp [hp, schA_length, schB_length, hw80, hA80]; done) | (simp [hp, schA_length, schB_length, hw80, hA80]; omega)) | exact get_ints (by first | omega | (simp [hp, schA_length, schB_length, hw80, hA80]; done) | (simp [hp, schA_length, schB_length, hw80, hA80]; omega))) ?_
          refine Tr.move rfl rfl rfl ?_
          refine Tr.sub_i64 rfl rfl rfl rfl (by omega) ?_
          first
            | refine Tr.idxArr1 rfl rfl rfl rfl Tryz.underlying278 Sz48 (j + 14) (by omega) (by omega) ?_
            | refine Tr.idxArrO rfl rfl rfl rfl Tryz.underlying278 Sz48 (j + 14) (by omega) (by omega) ?_
          refine Tr.load1 rfl rfl rfl Tryz.underlying48 rfl (by first | exact mem0 | exact mem1 | exact mem2 | exact mem3 | exact mem4 | exact mem5 | exact mem6 | exact mem7 | (repeat (first | exact List.mem_cons_self | refine List.mem_cons_of_mem _ ?_ | refine mem_seg ?_))) (by first | rfl | exact get_words (by first | omega | (simp [hp, schA_length, schB_length, hw80, hA80]; done) | (simp [hp, schA_length, schB_length, hw80, hA80]; omega)) | exact get_bytes (by first | omega | (simp [hp, schA_length, schB_length, hw80, hA80]; done) | (simp [hp, schA_length, schB_length, hw80, hA80]; omega)) | exact get_ints (by first | omega | (simp [hp, schA_length, schB_length, hw80, hA80]; done) | (simp [hp, schA_length, schB_length, hw80, hA80]; omega))) ?_
          refine Tr.assign rfl rfl rfl ?_
          refine Tr.assign rfl rfl rfl ?_
          refine Tr.nil ?_
          refine at_n ?_
          refine Sat.seq ?_
          -- region 11
          refine Sat.region ?_
          refine Tr.move rfl rfl rfl ?_
          refine Tr.callV rfl rfl rfl rfl Body265 (bits_rol _ (-1) 63 (by decide) (by decide) (by decide)) (fun _ _ => trivial) ?_
          refine Tr.move rfl rfl rfl ?_
          refine Tr.callV rfl rfl rfl rfl Body265 (bits_rol _ (-8) 56 (by decide) (by decide) (by decide)) (fun _ _ => trivial) ?_
          refine Tr.xor_u64 rfl rfl rfl rfl ?_
          refine Tr.move rfl rfl rfl ?_
          refine Tr.shr_u64 rfl rfl rfl rfl 7 rfl (by decide) ?_
          refine Tr.xor_u64 rfl rfl rfl rfl ?_
          refine Tr.assign rfl rfl rfl ?_
          refine Tr.nil ?_
          refine at_n ?_
          refine Sat.seq ?_
          -- region 12
          refine Sat.region ?_
          refine Tr.move rfl rfl rfl ?_
          refine Tr.callV rfl rfl rfl rfl Body265 (bits_rol _ (-19) 45 (by decide) (by decide) (by decide)) (fun _ _ => trivial) ?_
          refine Tr.move rfl rfl rfl ?_
          refine Tr.callV rfl rfl rfl rfl Body265 (bits_rol _ (-61) 3 (by decide) (by decide) (by decide)) (fun _ _ => trivial) ?_
          refine Tr.xor_u64 rfl rfl rfl rfl ?_
          refine Tr.move rfl rfl rfl ?_
          refine Tr.shr_u64 rfl rfl rfl rfl 6 rfl (by decide) ?_
          refine Tr.xor_u64 rfl rfl rfl rfl ?_
          refine Tr.assign rfl rfl rfl ?_
          refine Tr.nil ?_
          refine at_n ?_
          -- region 13
          refine Sat.draw [(0, 0), (0, 1), (0, 2), (0, 3), (1, 4), (0, 5), (0, 6), (0, 7), (0, 8), (0, 9), (1, 10), (0, 11), (0, 12), (0, 13), (0, 14), (4, 15)] Mixed (by kernel_rfl) ?_
          refine Tr.move rfl rfl rfl ?_
          refine Tr.move rfl rfl rfl ?_
          refine Tr.sub_i64 rfl rfl rfl rfl (by omega) ?_
          first
            | refine Tr.idxArr1 rfl rfl rfl rfl Tryz.underlying278 Sz48 j (by omega) (by omega) ?_
            | refine Tr.idxArrO rfl rfl rfl rfl Tryz.underlying278 Sz48 j (by omega) (by omega) ?_
          refine Tr.load1 rfl rfl rfl Tryz.underlying48 rfl (by first | exact mem0 | exact mem1 | exact mem2 | exact mem3 | exact mem4 | exact mem5 | exact mem6 | exact mem7 | (repeat (first | exact List.mem_cons_self | refine List.mem_cons_of_mem _ ?_ | refine mem_seg ?_))) (by first | rfl | exact get_words (by first | omega | (simp [hp, schA_length, schB_length, hw80, hA80]; done) | (simp [hp, schA_length, schB_length, hw80, hA80]; omega)) | exact get_bytes (by first | omega | (simp [hp, schA_length, schB_length, hw80, hA80]; done) | (simp [hp, schA_length, schB_length, hw80, hA80]; omega)) | exact get_ints (by first | omega | (simp [hp, schA_length, schB_length, hw80, hA80]; done) | (simp [hp, schA_length, schB_length, hw80, hA80]; omega))) ?_
          refine Tr.move rfl rfl rfl ?_
          refine Tr.add_u64 rfl rfl rfl rfl ?_
          refine Tr.move rfl rfl rfl ?_
          refine Tr.sub_i64 rfl rfl rfl rfl (by omega) ?_
          first
            | refine Tr.idxArr1 rfl rfl rfl rfl Tryz.underlying278 Sz48 (j + 9) (by omega) (by omega) ?_
            | refine Tr.idxArrO rfl rfl rfl rfl Tryz.underlying278 Sz48 (j + 9) (by omega) (by omega) ?_
          refine Tr.load1 rfl rfl rfl Tryz.underlying48 rfl (by first | exact mem0 | exact mem1 | exact mem2 | exact mem3 | exact mem4 | exact mem5 | exact mem6 | exact mem7 | (repeat (first | exact List.mem_cons_self | refine List.mem_cons_of_mem _ ?_ | refine mem_seg ?_))) (by first | rfl | exact get_words (by first | omega | (simp [hp, schA_length, schB_length, hw80, hA80]; done) | (simp [hp, schA_length, schB_length, hw80, hA80]; omega)) | exact get_bytes (by first | omega | (simp [hp, schA_length, schB_length, hw80, hA80]; done) | (simp [hp, schA_length, schB_length, hw80, hA80]; omega)) | exact get_ints (by first | omega | (simp [hp, schA_length, schB_length, hw80, hA80]; done) | (simp [hp, schA_length, schB_length, hw80, hA80]; omega))) ?_
          refine Tr.add_u64 rfl rfl rfl rfl ?_
          refine Tr.move rfl rfl rfl ?_
          refine Tr.add_u64 rfl rfl rfl rfl ?_
          first
            | refine Tr.idxArr1 rfl rfl rfl rfl Tryz.underlying278 Sz48 (16 + j) (by omega) (by omega) ?_
            | refine Tr.idxArrO rfl rfl rfl rfl Tryz.underlying278 Sz48 (16 + j) (by omega) (by omega) ?_
          refine Tr.store1 rfl rfl rfl rfl rfl Sz48 (by first | exact mem0 | exact mem1 | exact mem2 | exact mem3 | exact mem4 | exact mem5 | exact mem6 | exact mem7 | (repeat (first | exact List.mem_cons_self | refine List.mem_cons_of_mem _ ?_ | refine mem_seg ?_))) (by first | (simp [hp, schA_length, schB_length, hw80, hA80]; done) | (simp [hp, schA_length, schB_length, hw80, hA80]; omega)) (by first | exact set_words _ _ _ | exact set_bytes _ _ _ | exact set_ints _ _ _ | rfl) (by first | exact upd0 | exact upd1 | exact upd2 | exact upd3 | exact upd4 | exact upd5 | exact upd6 | exact upd7 | (repeat (first | exact upd0 | apply Upd.tail | apply Upd.seg))) ?_
          refine Tr.nil ?_
          refine bl_n ?_
          refine at_n ?_
          -- region 9
          refine Sat.region ?_
          refine Tr.move rfl rfl rfl ?_
          refine Tr.add_i64 rfl rfl rfl rfl (by omega) ?_
          refine Tr.assign rfl rfl rfl ?_
          refine Tr.nil ?_
          refine at_n ?_
          exact ⟨j + 1, by omega, by omega, weak_of (wk1 rfl (wk1 rfl (wk1 (congrArg (fun z => some (i64 z)) (by omega)) wk0))) (wh1 (by first | exact mem0 | exact mem1 | exact mem2 | exact mem3 | exact mem4 | exact mem5 | exact mem6 | exact mem7 | (repeat (first | exact List.mem_cons_self | refine List.mem_cons_of_mem _ ?_ | refine mem_seg ?_))) (wh1 (by first | exact mem0 | exact mem1 | exact mem2 | exact mem3 | exact mem4 | exact mem5 | exact mem6 | exact mem7 | (repeat (first | exact List.mem_cons_self | refine List.mem_cons_of_mem _ ?_ | refine mem_seg ?_))) wh0)) (by repeat (first | exact ns_nil | refine ns_keep rfl ?_ | refine ns_skip ?_))⟩
        ·
          obtain rfl : j = 64 := by omega
          rw [hwp.out]
          clear hlj
          refine Sat.exit ?_
          refine at_x ?_
          refine at_x ?_
          refine bl_h ?_
          refine at_n ?_
          refine Sat.seq ?_
          -- region 14
          refine Sat.region ?_
          first
            | refine Tr.loadAll rfl rfl rfl Tryz.underlying278 rfl Sz278 (by first | exact mem0 | exact mem1 | exact mem2 | exact mem3 | exact mem4 | exact mem5 | exact mem6 | exact mem7 | (repeat (first | exact List.mem_cons_self | refine List.mem_cons_of_mem _ ?_ | refine mem_seg ?_))) (by first | assumption | (simp [hp, schA_length, schB_length, hw80, hA80]; done) | (rw [bytesV, List.length_map]; assumption)) ?_
            | refine Tr.loadN _ rfl rfl rfl Tryz.underlying278 rfl Sz278 (by first | exact mem0 | exact mem1 | exact mem2 | exact mem3 | exact mem4 | exact mem5 | exact mem6 | exact mem7 | (repeat (first | exact List.mem_cons_self | refine List.mem_cons_of_mem _ ?_ | refine mem_seg ?_))) (by exact rfl) (by first | assumption | (simp [hp, schA_length, schB_length, hw80, hA80]; done) | (rw [bytesV, List.length_map]; assumption)) ?_
          first
            | refine Tr.storeAll rfl rfl rfl rfl (by first | exact bytesV_cell _ | simp [isCell]) Sz278 (by first | assumption | (simp [hp, schA_length, schB_length, hw80, hA80]; done) | (rw [bytesV, List.length_map]; assumption)) (by first | exact mem0 | exact mem1 | exact mem2 | exact mem3 | exact mem4 | exact mem5 | exact mem6 | exact mem7 | (repeat (first | exact List.mem_cons_self | refine List.mem_cons_of_mem _ ?_ | refine mem_seg ?_))) (by first | assumption | (simp [hp, schA_length, schB_length, hw80, hA80]; done) | (rw [bytesV, List.length_map]; assumption)) (by first | exact upd0 | exact upd1 | exact upd2 | exact upd3 | exact upd4 | exact upd5 | exact upd6 | exact upd7 | (repeat (first | exact upd0 | apply Upd.tail | apply Upd.seg))) ?_
            | refine Tr.storeN _ rfl rfl rfl rfl rfl (by first | exact bytesV_cell _ | simp [isCell]) Sz278 (by first | assumption | (simp [hp, schA_length, schB_length, hw80, hA80]; done) | (rw [bytesV, List.length_map]; assumption)) (by first | exact mem0 | exact mem1 | exact mem2 | exact mem3 | exact mem4 | exact mem5 | exact mem6 | exact mem7 | (repeat (first | exact List.mem_cons_self | refine List.mem_cons_of_mem _ ?_ | refine mem_seg ?_))) (by first | assumption | (simp [hp, schA_length, schB_length, hw80, hA80]; done) | (rw [bytesV, List.length_map]; assumption)) (by exact rfl) (by first | exact upd0 | exact upd1 | exact upd2 | exact upd3 | exact upd4 | exact upd5 | exact upd6 | exact upd7 | (repeat (first | exact upd0 | apply Upd.tail | apply Upd.seg))) ?_
          refine Tr.nil ?_
          refine at_n ?_
          refine Sat.ret ?_
          refine en_r ?_
          refine ⟨_, [], res_cell rfl rfl Tryz.underlying278 rfl Sz278 (by first | exact mem0 | exact mem1 | exact mem2 | exact mem3 | exact mem4 | exact mem5 | exact mem6 | exact mem7 | (repeat (first | exact List.mem_cons_self | refine List.mem_cons_of_mem _ ?_ | refine mem_seg ?_))) (by simp [hp, schA_length, schB_length, hw80, hA80]), (by simp), (by simp), ?_, rfl⟩
          rfl


theorem sha_Kk (k : List UInt64) (hk : Hid (kW = k)) : Meets Tryz.prog 264 [] [] (fun _ => True) (fun v out => v = agg (wordsV k) ∧ out = []) := by
  rw [← hk.out]; exact sha_K
theorem W8.l_length (R : W8) : R.l.length = 8 := rfl


set_option maxRecDepth 100000 in
set_option maxHeartbeats 4000000 in
theorem sha_Piece (st : List UInt64) (hst : st.length = 8) (p : List UInt8) (hp : p.length = 128) (A w k : List UInt64) (R : W8) (hA : Hid (schA p 128 = A)) (hwp : Hid (schB A 64 = w)) (hw : w.length = 80) (hk : Hid (kW = k)) (hk80 : k.length = 80) (hR : Hid (rnds k w (W8.of st) 80 = R)) : Meets Tryz.prog 256 [agg (wordsV st), agg (bytesV p)] [] (fun _ => True) (fun v out => v = agg (wordsV (addUp st R.l 8)) ∧ out = []) := by
  intro W hW
  refine calls_of (hp0 := []) Tryz.func256 rfl 127 Tryz.ntmps256 rfl (HRep.nil _) ?_
  refine Sat.seq ?_
  -- region 0
  refine Sat.region ?_
  refine Tr.boxA rfl rfl ?_
  intro n2 hn2 hf2
  refine Tr.boxA rfl rfl ?_
  intro n3 hn3 hf3
  refine Tr.alloc (cs := (wordsV (List.replicate 8 0))) rfl Zr263 rfl ?_
  intro n4 hn4 hf4
  refine Tr.nil ?_
  refine at_n ?_
  refine Sat.seq ?_
  -- region 1
  refine Sat.region ?_
  first
    | refine Tr.loadAll rfl rfl rfl Tryz.underlying274 rfl Sz274 (by first | exact mem0 | exact mem1 | exact mem2 | exact mem3 | exact mem4 | exact mem5 | exact mem6 | exact mem7 | (repeat (first | exact List.mem_cons_self | refine List.mem_cons_of_mem _ ?_ | refine mem_seg ?_))) (by first | assumption | (simp [hst, hp, hw, hk80, addUp_length, W8.l_length]; done) | (rw [bytesV, List.length_map]; assumption)) ?_
    | refine Tr.loadN _ rfl rfl rfl Tryz.underlying274 rfl Sz274 (by first | exact mem0 | exact mem1 | exact mem2 | exact mem3 | exact mem4 | exact mem5 | exact mem6 | exact mem7 | (repeat (first | exact List.mem_cons_self | refine List.mem_cons_of_mem _ ?_ | refine mem_seg ?_))) (by exact rfl) (by first | assumption | (simp [hst, hp, hw, hk80, addUp_length, W8.l_length]; done) | (rw [bytesV, List.length_map]; assumption)) ?_
  refine Tr.callV rfl rfl rfl rfl Body263 (sha_schedule p hp A w hA hwp) (fun _ _ => trivial) ?_
  refine Tr.callV rfl rfl rfl rfl Body264 (sha_Kk k hk) (fun _ _ => trivial) ?_
  refine Tr.alloc (cs := (wordsV (List.replicate 80 0))) rfl Zr278 rfl ?_
  intro n5 hn5 hf5
  refine Tr.alloc (cs := (wordsV (List.replicate 80 0))) rfl Zr278 rfl ?_
  intro n6 hn6 hf6
  first
    | refine Tr.storeAll rfl rfl rfl rfl (by first | exact bytesV_cell _ | simp [isCell]) Sz278 (by first | assumption | (simp [hst, hp, hw, hk80, addUp_length, W8.l_length]; done) | (rw [bytesV, List.length_map]; assumption)) (by first | exact mem0 | exact mem1 | exact mem2 | exact mem3 | exact mem4 | exact mem5 | exact mem6 | exact mem7 | (repeat (first | exact List.mem_cons_self | refine List.mem_cons_of_mem _ ?_ | refine mem_seg ?_))) (by first | assumption | (simp [hst, hp, hw, hk80, addUp_length, W8.l_length]; done) | (rw [bytesV, List.length_map]; assumption)) (by first | exact upd0 | exact upd1 | exact upd2 | exact upd3 | exact upd4 | exact upd5 | exact upd6 | exact upd7 | (repeat (first | exact upd0 | apply Upd.tail | apply Upd.seg))) ?_
    | refine Tr.storeN _ rfl rfl rfl rfl rfl (by first | exact bytesV_cell _ | simp [isCell]) Sz278 (by first | assumption | (simp [hst, hp, hw, hk80, addUp_length, W8.l_length]; done) | (rw [bytesV, List.length_map]; assumption)) (by first | exact mem0 | exact mem1 | exact mem2 | exact mem3 | exact mem4 | exact mem5 | exact mem6 | exact mem7 | (repeat (first | exact List.mem_cons_self | refine List.mem_cons_of_mem _ ?_ | refine mem_seg ?_))) (by first | assumption | (simp [hst, hp, hw, hk80, addUp_length, W8.l_length]; done) | (rw [bytesV, List.length_map]; assumption)) (by exact rfl) (by first | exact upd0 | exact upd1 | exact upd2 | exact upd3 | exact upd4 | exact upd5 | exact upd6 | exact upd7 | (repeat (first | exact upd0 | apply Upd.tail | apply Upd.seg))) ?_
  first
    | refine Tr.storeAll rfl rfl rfl rfl (by first | exact bytesV_cell _ | simp [isCell]) Sz278 (by first | assumption | (simp [hst, hp, hw, hk80, addUp_length, W8.l_length]; done) | (rw [bytesV, List.length_map]; assumption)) (by first | exact mem0 | exact mem1 | exact mem2 | exact mem3 | exact mem4 | exact mem5 | exact mem6 | exact mem7 | (repeat (first | exact List.mem_cons_self | refine List.mem_cons_of_mem _ ?_ | refine mem_seg ?_))) (by first | assumption | (simp [hst, hp, hw, hk80, addUp_length, W8.l_length]; done) | (rw [bytesV, List.length_map]; assumption)) (by first | exact upd0 | exact upd1 | exact upd2 | exact upd3 | exact upd4 | exact upd5 | exact upd6 | exact upd7 | (repeat (first | exact upd0 | apply Upd.tail | apply Upd.seg))) ?_
    | refine Tr.storeN _ rfl rfl rfl rfl rfl (by first | exact bytesV_cell _ | simp [isCell]) Sz278 (by first | assumption | (simp [hst, hp, hw, hk80, addUp_length, W8.l_length]; done) | (rw [bytesV, List.length_map]; assumption)) (by first | exact mem0 | exact mem1 | exact mem2 | exact mem3 | exact mem4 | exact mem5 | exact mem6 | exact mem7 | (repeat (first | exact List.mem_cons_self | refine List.mem_cons_of_mem _ ?_ | refine mem_seg ?_))) (by first | assumption | (simp [hst, hp, hw, hk80, addUp_length, W8.l_length]; done) | (rw [bytesV, List.length_map]; assumption)) (by exact rfl) (by first | exact upd0 | exact upd1 | exact upd2 | exact upd3 | exact upd4 | exact upd5 | exact upd6 | exact upd7 | (repeat (first | exact upd0 | apply Upd.tail | apply Upd.seg))) ?_
  refine Tr.nil ?_
  refine at_n ?_
  refine Sat.seq ?_
  -- region 2
  refine Sat.draw [(0, 0), (1, 1), (0, 2), (1, 3), (0, 4), (1, 5), (0, 6), (1, 7), (0, 8), (0, 9), (0, 10), (0, 11)] Mixed (by kernel_rfl) ?_
  first
    | refine Tr.idxArr1 rfl rfl rfl rfl Tryz.underlying263 Sz48 0 rfl (by decide) ?_
    | refine Tr.idxArrO rfl rfl rfl rfl Tryz.underlying263 Sz48 0 rfl (by decide) ?_
  refine Tr.load1 rfl rfl rfl Tryz.underlying48 rfl (by first | exact mem0 | exact mem1 | exact mem2 | exact mem3 | exact mem4 | exact mem5 | exact mem6 | exact mem7 | (repeat (first | exact List.mem_cons_self | refine List.mem_cons_of_mem _ ?_ | refine mem_seg ?_))) (by first | rfl | exact get_words (by first | omega | (simp [hst, hp, hw, hk80, addUp_length, W8.l_length]; done) | (simp [hst, hp, hw, hk80, addUp_length, W8.l_length]; omega)) | exact get_bytes (by first | omega | (simp [hst, hp, hw, hk80, addUp_length, W8.l_length]; done) | (simp [hst, hp, hw, hk80, addUp_length, W8.l_length]; omega)) | exact get_ints (by first | omega | (simp [hst, hp, hw, hk80, addUp_length, W8.l_length]; done) | (simp [hst, hp, hw, hk80, addUp_length, W8.l_length]; omega))) ?_
  first
    | refine Tr.idxArr1 rfl rfl rfl rfl Tryz.underlying263 Sz48 1 rfl (by decide) ?_
    | refine Tr.idxArrO rfl rfl rfl rfl Tryz.underlying263 Sz48 1 rfl (by decide) ?_
  refine Tr.load1 rfl rfl rfl Tryz.underlying48 rfl (by first | exact mem0 | exact mem1 | exact mem2 | exact mem3 | exact mem4 | exact mem5 | exact mem6 | exact mem7 | (repeat (first | exact List.mem_cons_self | refine List.mem_cons_of_mem _ ?_ | refine mem_seg ?_))) (by first | rfl | exact get_words (by first | omega | (simp [hst, hp, hw, hk80, addUp_length, W8.l_length]; done) | (simp [hst, hp, hw, hk80, addUp_length, W8.l_length]; omega)) | exact get_bytes (by first | omega | (simp [hst, hp, hw, hk80, addUp_length, W8.l_length]; done) | (simp [hst, hp, hw, hk80, addUp_length, W8.l_length]; omega)) | exact get_ints (by first | omega | (simp [hst, hp, hw, hk80, addUp_length, W8.l_length]; done) | (simp [hst, hp, hw, hk80, addUp_length, W8.l_length]; omega))) ?_
  first
    | refine Tr.idxArr1 rfl rfl rfl rfl Tryz.underlying263 Sz48 2 rfl (by decide) ?_
    | refine Tr.idxArrO rfl rfl rfl rfl Tryz.underlying263 Sz48 2 rfl (by decide) ?_
  refine Tr.load1 rfl rfl rfl Tryz.underlying48 rfl (by first | exact mem0 | exact mem1 | exact mem2 | exact mem3 | exact mem4 | exact mem5 | exact mem6 | exact mem7 | (repeat (first | exact List.mem_cons_self | refine List.mem_cons_of_mem _ ?_ | refine mem_seg ?_))) (by first | rfl | exact get_words (by first | omega | (simp [hst, hp, hw, hk80, addUp_length, W8.l_length]; done) | (simp [hst, hp, hw, hk80, addUp_length, W8.l_length]; omega)) | exact get_bytes (by first | omega | (simp [hst, hp, hw, hk80, addUp_length, W8.l_length]; done) | (simp [hst, hp, hw, hk80, addUp_length, W8.l_length]; omega)) | exact get_ints (by first | omega | (simp [hst, hp, hw, hk80, addUp_length, W8.l_length]; done) | (simp [hst, hp, hw, hk80, addUp_length, W8.l_length]; omega))) ?_
  first
    | refine Tr.idxArr1 rfl rfl rfl rfl Tryz.underlying263 Sz48 3 rfl (by decide) ?_
    | refine Tr.idxArrO rfl rfl rfl rfl Tryz.underlying263 Sz48 3 rfl (by decide) ?_
  refine Tr.load1 rfl rfl rfl Tryz.underlying48 rfl (by first | exact mem0 | exact mem1 | exact mem2 | exact mem3 | exact mem4 | exact mem5 | exact mem6 | exact mem7 | (repeat (first | exact List.mem_cons_self | refine List.mem_cons_of_mem _ ?_ | refine mem_seg ?_))) (by first | rfl | exact get_words (by first | omega | (simp [hst, hp, hw, hk80, addUp_length, W8.l_length]; done) | (simp [hst, hp, hw, hk80, addUp_length, W8.l_length]; omega)) | exact get_bytes (by first | omega | (simp [hst, hp, hw, hk80, addUp_length, W8.l_length]; done) | (simp [hst, hp, hw, hk80, addUp_length, W8.l_length]; omega)) | exact get_ints (by first | omega | (simp [hst, hp, hw, hk80, addUp_length, W8.l_length]; done) | (simp [hst, hp, hw, hk80, addUp_length, W8.l_length]; omega))) ?_
  refine Tr.assign rfl rfl rfl ?_
  refine Tr.assign rfl rfl rfl ?_
  refine Tr.assign rfl rfl rfl ?_
  refine Tr.assign rfl rfl rfl ?_
  refine Tr.nil ?_
  refine at_n ?_
  refine Sat.seq ?_
  -- region 3
  refine Sat.draw [(0, 0), (1, 1), (0, 2), (1, 3), (0, 4), (1, 5), (0, 6), (1, 7), (0, 8), (0, 9), (0, 10), (0, 11)] Mixed (by kernel_rfl) ?_
  first
    | refine Tr.idxArr1 rfl rfl rfl rfl Tryz.underlying263 Sz48 4 rfl (by decide) ?_
    | refine Tr.idxArrO rfl rfl rfl rfl Tryz.underlying263 Sz48 4 rfl (by decide) ?_
  refine Tr.load1 rfl rfl rfl Tryz.underlying48 rfl (by first | exact mem0 | exact mem1 | exact mem2 | exact mem3 | exact mem4 | exact mem5 | exact mem6 | exact mem7 | (repeat (first | exact List.mem_cons_self | refine List.mem_cons_of_mem _ ?_ | refine mem_seg ?_))) (by first | rfl | exact get_words (by first | omega | (simp [hst, hp, hw, hk80, addUp_length, W8.l_length]; done) | (simp [hst, hp, hw, hk80, addUp_length, W8.l_length]; omega)) | exact get_bytes (by first | omega | (simp [hst, hp, hw, hk80, addUp_length, W8.l_length]; done) | (simp [hst, hp, hw, hk80, addUp_length, W8.l_length]; omega)) | exact get_ints (by first | omega | (simp [hst, hp, hw, hk80, addUp_length, W8.l_length]; done) | (simp [hst, hp, hw, hk80, addUp_length, W8.l_length]; omega))) ?_
  first
    | refine Tr.idxArr1 rfl rfl rfl rfl Tryz.underlying263 Sz48 5 rfl (by decide) ?_
    | refine Tr.idxArrO rfl rfl rfl rfl Tryz.underlying263 Sz48 5 rfl (by decide) ?_
  refine Tr.load1 rfl rfl rfl Tryz.underlying48 rfl (by first | exact mem0 | exact mem1 | exact mem2 | exact mem3 | exact mem4 | exact mem5 | exact mem6 | exact mem7 | (repeat (first | exact List.mem_cons_self | refine List.mem_cons_of_mem _ ?_ | refine mem_seg ?_))) (by first | rfl | exact get_words (by first | omega | (simp [hst, hp, hw, hk80, addUp_length, W8.l_length]; done) | (simp [hst, hp, hw, hk80, addUp_length, W8.l_length]; omega)) | exact get_bytes (by first | omega | (simp [hst, hp, hw, hk80, addUp_length, W8.l_length]; done) | (simp [hst, hp, hw, hk80, addUp_length, W8.l_length]; omega)) | exact get_ints (by first | omega | (simp [hst, hp, hw, hk80, addUp_length, W8.l_length]; done) | (simp [hst, hp, hw, hk80, addUp_length, W8.l_length]; omega))) ?_
  first
    | refine Tr.idxArr1 rfl rfl rfl rfl Tryz.underlying263 Sz48 6 rfl (by decide) ?_
    | refine Tr.idxArrO rfl rfl rfl rfl Tryz.underlying263 Sz48 6 rfl (by decide) ?_
  refine Tr.load1 rfl rfl rfl Tryz.underlying48 rfl (by first | exact mem0 | exact mem1 | exact mem2 | exact mem3 | exact mem4 | exact mem5 | exact mem6 | exact mem7 | (repeat (first | exact List.mem_cons_self | refine List.mem_cons_of_mem _ ?_ | refine mem_seg ?_))) (by first | rfl | exact get_words (by first | omega | (simp [hst, hp, hw, hk80, addUp_length, W8.l_length]; done) | (simp [hst, hp, hw, hk80, addUp_length, W8.l_length]; omega)) | exact get_bytes (by first | omega | (simp [hst, hp, hw, hk80, addUp_length, W8.l_length]; done) | (simp [hst, hp, hw, hk80, addUp_length, W8.l_length]; omega)) | exact get_ints (by first | omega | (simp [hst, hp, hw, hk80, addUp_length, W8.l_length]; done) | (simp [hst, hp, hw, hk80, addUp_length, W8.l_length]; omega))) ?_
  first
    | refine Tr.idxArr1 rfl rfl rfl rfl Tryz.underlying263 Sz48 7 rfl (by decide) ?_
    | refine Tr.idxArrO rfl rfl rfl rfl Tryz.underlying263 Sz48 7 rfl (by decide) ?_
  refine Tr.load1 rfl rfl rfl Tryz.underlying48 rfl (by first | exact mem0 | exact mem1 | exact mem2 | exact mem3 | exact mem4 | exact mem5 | exact mem6 | exact mem7 | (repeat (first | exact List.mem_cons_self | refine List.mem_cons_of_mem _ ?_ | refine mem_seg ?_))) (by first | rfl | exact get_words (by first | omega | (simp [hst, hp, hw, hk80, addUp_length, W8.l_length]; done) | (simp [hst, hp, hw, hk80, addUp_length, W8.l_length]; omega)) | exact get_bytes (by first | omega | (simp [hst, hp, hw, hk80, addUp_length, W8.l_length]; done) | (simp [hst, hp, hw, hk80, addUp_length, W8.l_length]; omega)) | exact get_ints (by first | omega | (simp [hst, hp, hw, hk80, addUp_length, W8.l_length]; done) | (simp [hst, hp, hw, hk80, addUp_length, W8.l_length]; omega))) ?_
  refine Tr.assign rfl rfl rfl ?_
  refine Tr.assign rfl rfl rfl ?_
  refine Tr.assign rfl rfl rfl ?_
  refine Tr.assign rfl rfl rfl ?_
  refine Tr.nil ?_
  refine at_n ?_
  refine Sat.seq ?_
  refine Sat.seq ?_
  -- region 4
  refine Sat.region ?_
  refine Tr.move rfl rfl rfl ?_
  refine Tr.nil ?_
  refine at_n ?_
  refine Sat.block ?_
  refine Sat.loop (ι := Nat) (fun t => ⟨[(2, ptr n2 0), (4, ptr n4 0), (5, ptr n5 0), (6, ptr n6 0), (7, u64 (rnds k w (W8.of st) t).a), (8, u64 (rnds k w (W8.of st) t).b), (9, u64 (rnds k w (W8.of st) t).c), (10, u64 (rnds k w (W8.of st) t).d), (11, u64 (rnds k w (W8.of st) t).e), (12, u64 (rnds k w (W8.of st) t).f), (13, u64 (rnds k w (W8.of st) t).g), (14, u64 (rnds k w (W8.of st) t).h), (41, i64 (t : Int))], [⟨n6, wordsV k, 278, 80⟩, ⟨n5, wordsV w, 278, 80⟩, ⟨n4, wordsV (List.replicate 8 0), 263, 8⟩, ⟨n2, wordsV st, 263, (wordsV st).length⟩]⟩) (fun t => t ≤ 80) (fun t => 80 - t) (0) ?_ ?_ ?_
  · omega
  · exact weak_of (wk1 rfl (wk1 rfl (wk1 rfl (wk1 rfl (wk1 rfl (wk1 rfl (wk1 rfl (wk1 rfl (wk1 rfl (wk1 rfl (wk1 rfl (wk1 rfl (wk1 rfl wk0))))))))))))) (wh1 (by first | exact mem0 | exact mem1 | exact mem2 | exact mem3 | exact mem4 | exact mem5 | exact mem6 | exact mem7 | (repeat (first | exact List.mem_cons_self | refine List.mem_cons_of_mem _ ?_ | refine mem_seg ?_))) (wh1 (by first | exact mem0 | exact mem1 | exact mem2 | exact mem3 | exact mem4 | exact mem5 | exact mem6 | exact mem7 | (repeat (first | exact List.mem_cons_self | refine List.mem_cons_of_mem _ ?_ | refine mem_seg ?_))) (wh1 (by first | exact mem0 | exact mem1 | exact mem2 | exact mem3 | exact mem4 | exact mem5 | exact mem6 | exact mem7 | (repeat (first | exact List.mem_cons_self | refine List.mem_cons_of_mem _ ?_ | refine mem_seg ?_))) (wh1 (by first | exact mem0 | exact mem1 | exact mem2 | exact mem3 | exact mem4 | exact mem5 | exact mem6 | exact mem7 | (repeat (first | exact List.mem_cons_self | refine List.mem_cons_of_mem _ ?_ | refine mem_seg ?_))) wh0)))) (by repeat (first | exact ns_nil | refine ns_keep rfl ?_ | refine ns_skip ?_))
  ·
    rintro t hi
    refine Sat.seq ?_
    -- region 5
    refine Sat.region ?_
    refine Tr.lss rfl rfl rfl rfl rfl ?_
    refine Tr.nil ?_
    refine at_n ?_
    refine Sat.seq ?_
    first
      | refine Sat.condP rfl (fun hc0 => ?_) (fun hc0 => ?_)
      | refine Sat.condNP rfl (fun hc0 => ?_) (fun hc0 => ?_)
      | refine Sat.cond rfl (fun hc0 => ?_) (fun hc0 => ?_)
    ·
      refine Sat.skip ?_
      refine at_n ?_
      refine Sat.seq ?_
      refine Sat.block ?_
      refine Sat.seq ?_
      -- region 6
      refine Sat.region ?_
      refine Tr.move rfl rfl rfl ?_
      refine Tr.assign rfl rfl rfl ?_
      refine Tr.nil ?_
      refine at_n ?_
      refine Sat.seq ?_
      -- region 7
      refine Sat.region ?_
      refine Tr.move rfl rfl rfl ?_
      refine Tr.callV rfl rfl rfl rfl Body265 (bits_rol _ (-14) 50 (by decide) (by decide) (by decide)) (fun _ _ => trivial) ?_
      refine Tr.move rfl rfl rfl ?_
      refine Tr.callV rfl rfl rfl rfl Body265 (bits_rol _ (-18) 46 (by decide) (by decide) (by decide)) (fun _ _ => trivial) ?_
      refine Tr.xor_u64 rfl rfl rfl rfl ?_
      refine Tr.move rfl rfl rfl ?_
      refine Tr.callV rfl rfl rfl rfl Body265 (bits_rol _ (-41) 23 (by decide) (by decide) (by decide)) (fun _ _ => trivial) ?_
      refine Tr.xor_u64 rfl rfl rfl rfl ?_
      refine Tr.assign rfl rfl rfl ?_
      refine Tr.nil ?_
      refine at_n ?_
      refine Sat.seq ?_
      -- region 8
      refine Sat.draw [(0, 0), (0, 1), (0, 2), (0, 3), (0, 4), (0, 5), (0, 6), (0, 7), (0, 8), (0, 9), (0, 10), (0, 11), (0, 12), (0, 13), (1, 14), (0, 15), (0, 16), (0, 17), (1, 18), (0, 19), (0, 20)] Mixed (by kernel_rfl) ?_
      refine Tr.move rfl rfl rfl ?_
      refine Tr.move rfl rfl rfl ?_
      refine Tr.add_u64 rfl rfl rfl rfl ?_
      refine Tr.move rfl rfl rfl ?_
      refine Tr.move rfl rfl rfl ?_
      refine Tr.and_u64 rfl rfl rfl rfl ?_
      refine Tr.move rfl rfl rfl ?_
      refine Tr.not_u64 rfl rfl rfl ?_
      refine Tr.move rfl rfl rfl ?_
      refine Tr.and_u64 rfl rfl rfl rfl ?_
      refine Tr.xor_u64 rfl rfl rfl rfl ?_
      refine Tr.add_u64 rfl rfl rfl rfl ?_
      refine Tr.move rfl rfl rfl ?_
      first
        | refine Tr.idxArr1 rfl rfl rfl rfl Tryz.underlying278 Sz48 _ rfl (by omega) ?_
        | refine Tr.idxArrO rfl rfl rfl rfl Tryz.underlying278 Sz48 _ rfl (by omega) ?_
        | refine Tr.idxArr1 rfl rfl rfl rfl Tryz.underlying278 Sz48 _ (toNat_back (by omega)) (by omega) ?_
        | refine Tr.idxArrO rfl rfl rfl rfl Tryz.underlying278 Sz48 _ (toNat_back (by omega)) (by omega) ?_
      refine Tr.load1 rfl rfl rfl Tryz.underlying48 rfl (by first | exact mem0 | exact mem1 | exact mem2 | exact mem3 | exact mem4 | exact mem5 | exact mem6 | exact mem7 | (repeat (first | exact List.mem_cons_self | refine List.mem_cons_of_mem _ ?_ | refine mem_seg ?_))) (by first | rfl | exact get_words (by first | omega | (simp [hst, hp, hw, hk80, addUp_length, W8.l_length]; done) | (simp [hst, hp, hw, hk80, addUp_length, W8.l_length]; omega)) | exact get_bytes (by first | omega | (simp [hst, hp, hw, hk80, addUp_length, W8.l_length]; done) | (simp [hst, hp, hw, hk80, addUp_length, W8.l_length]; omega)) | exact get_ints (by first | omega | (simp [hst, hp, hw, hk80, addUp_length, W8.l_length]; done) | (simp [hst, hp, hw, hk80, addUp_length, W8.l_length]; omega))) ?_
      refine Tr.add_u64 rfl rfl rfl rfl ?_
      refine Tr.move rfl rfl rfl ?_
      first
        | refine Tr.idxArr1 rfl rfl rfl rfl Tryz.underlying278 Sz48 _ rfl (by omega) ?_
        | refine Tr.idxArrO rfl rfl rfl rfl Tryz.underlying278 Sz48 _ rfl (by omega) ?_
        | refine Tr.idxArr1 rfl rfl rfl rfl Tryz.underlying278 Sz48 _ (toNat_back (by omega)) (by omega) ?_
        | refine Tr.idxArrO rfl rfl rfl rfl Tryz.underlying278 Sz48 _ (toNat_back (by omega)) (by omega) ?_
      refine Tr.load1 rfl rfl rfl Tryz.underlying48 rfl (by first | exact mem0 | exact mem1 | exact mem2 | exact mem3 | exact mem4 | exact mem5 | exact mem6 | exact mem7 | (repeat (first | exact List.mem_cons_self | refine List.mem_cons_of_mem _ ?_ | refine mem_seg ?_))) (by first | rfl | exact get_words (by first | omega | (simp [hst, hp, hw, hk80, addUp_length, W8.l_length]; done) | (simp [hst, hp, hw, hk80, addUp_length, W8.l_length]; omega)) | exact get_bytes (by first | omega | (simp [hst, hp, hw, hk80, addUp_length, W8.l_length]; done) | (simp [hst, hp, hw, hk80, addUp_length, W8.l_length]; omega)) | exact get_ints (by first | omega | (simp [hst, hp, hw, hk80, addUp_length, W8.l_length]; done) | (simp [hst, hp, hw, hk80, addUp_length, W8.l_length]; omega))) ?_
      refine Tr.add_u64 rfl rfl rfl rfl ?_
      refine Tr.assign rfl rfl rfl ?_
      refine Tr.nil ?_
      refine at_n ?_
      refine Sat.seq ?_
      -- region 9
      refine Sat.region ?_
      refine Tr.move rfl rfl rfl ?_
      refine Tr.callV rfl rfl rfl rfl Body265 (bits_rol _ (-28) 36 (by decide) (by decide) (by decide)) (fun _ _ => trivial) ?_
      refine Tr.move rfl rfl rfl ?_
      refine Tr.callV rfl rfl rfl rfl Body265 (bits_rol _ (-34) 30 (by decide) (by decide) (by decide)) (fun _ _ => trivial) ?_
      refine Tr.xor_u64 rfl rfl rfl rfl ?_
      refine Tr.move rfl rfl rfl ?_
      refine Tr.callV rfl rfl rfl rfl Body265 (bits_rol _ (-39) 25 (by decide) (by decide) (by decide)) (fun _ _ => trivial) ?_
      refine Tr.xor_u64 rfl rfl rfl rfl ?_
      refine Tr.assign rfl rfl rfl ?_
      refine Tr.nil ?_
      refine at_n ?_
      refine Sat.seq ?_
      -- region 10
      refine Sat.region ?_
      refine Tr.move rfl rfl rfl ?_
      refine Tr.move rfl rfl rfl ?_
      refine Tr.move rfl rfl rfl ?_
      refine Tr.and_u64 rfl rfl rfl rfl ?_
      refine Tr.move rfl rfl rfl ?_
      refine Tr.move rfl rfl rfl ?_
      refine Tr.and_u64 rfl rfl rfl rfl ?_
      refine Tr.xor_u64 rfl rfl rfl rfl ?_
      refine Tr.move rfl rfl rfl ?_
      refine Tr.move rfl rfl rfl ?_
      refine Tr.and_u64 rfl rfl rfl rfl ?_
      refine Tr.xor_u64 rfl rfl rfl rfl ?_
      refine Tr.add_u64 rfl rfl rfl rfl ?_
      refine Tr.assign rfl rfl rfl ?_
      refine Tr.nil ?_
      refine at_n ?_
      -- region 11
      refine Sat.region ?_
      refine Tr.move rfl rfl rfl ?_
      refine Tr.move rfl rfl rfl ?_
      refine Tr.add_u64 rfl rfl rfl rfl ?_
      refine Tr.move rfl rfl rfl ?_
      refine Tr.move rfl rfl rfl ?_
      refine Tr.move rfl rfl rfl ?_
      refine Tr.move rfl rfl rfl ?_
      refine Tr.move rfl rfl rfl ?_
      refine Tr.add_u64 rfl rfl rfl rfl ?_
      refine Tr.move rfl rfl rfl ?_
      refine Tr.move rfl rfl rfl ?_
      refine Tr.move rfl rfl rfl ?_
      refine Tr.assign rfl rfl rfl ?_
      refine Tr.assign rfl rfl rfl ?_
      refine Tr.assign rfl rfl rfl ?_
      refine Tr.assign rfl rfl rfl ?_
      refine Tr.assign rfl rfl rfl ?_
      refine Tr.assign rfl rfl rfl ?_
      refine Tr.assign rfl rfl rfl ?_
      refine Tr.assign rfl rfl rfl ?_
      refine Tr.nil ?_
      refine bl_n ?_
      refine at_n ?_
      -- region 12
      refine Sat.region ?_
      refine Tr.add_i64 rfl rfl rfl rfl (by omega) ?_
      refine Tr.move rfl rfl rfl ?_
      refine Tr.nil ?_
      refine at_n ?_
      exact ⟨t + 1, by omega, by omega, weak_of (wk1 rfl (wk1 rfl (wk1 rfl (wk1 rfl (wk1 rfl (wk1 rfl (wk1 rfl (wk1 rfl (wk1 rfl (wk1 rfl (wk1 rfl (wk1 rfl (wk1 rfl wk0))))))))))))) (wh1 (by first | exact mem0 | exact mem1 | exact mem2 | exact mem3 | exact mem4 | exact mem5 | exact mem6 | exact mem7 | (repeat (first | exact List.mem_cons_self | refine List.mem_cons_of_mem _ ?_ | refine mem_seg ?_))) (wh1 (by first | exact mem0 | exact mem1 | exact mem2 | exact mem3 | exact mem4 | exact mem5 | exact mem6 | exact mem7 | (repeat (first | exact List.mem_cons_self | refine List.mem_cons_of_mem _ ?_ | refine mem_seg ?_))) (wh1 (by first | exact mem0 | exact mem1 | exact mem2 | exact mem3 | exact mem4 | exact mem5 | exact mem6 | exact mem7 | (repeat (first | exact List.mem_cons_self | refine List.mem_cons_of_mem _ ?_ | refine mem_seg ?_))) (wh1 (by first | exact mem0 | exact mem1 | exact mem2 | exact mem3 | exact mem4 | exact mem5 | exact mem6 | exact mem7 | (repeat (first | exact List.mem_cons_self | refine List.mem_cons_of_mem _ ?_ | refine mem_seg ?_))) wh0)))) (by repeat (first | exact ns_nil | refine ns_keep rfl ?_ | refine ns_skip ?_))⟩
    ·
      obtain rfl : t = 80 := by omega
      rw [hR.out]
      refine Sat.exit ?_
      refine at_x ?_
      refine at_x ?_
      refine bl_h ?_
      refine at_n ?_
      refine Sat.seq ?_
      refine Sat.seq ?_
      -- region 13
      refine Sat.region ?_
      refine Tr.move rfl rfl rfl ?_
      refine Tr.move rfl rfl rfl ?_
      refine Tr.move rfl rfl rfl ?_
      refine Tr.move rfl rfl rfl ?_
      refine Tr.move rfl rfl rfl ?_
      refine Tr.move rfl rfl rfl ?_
      refine Tr.move rfl rfl rfl ?_
      refine Tr.move rfl rfl rfl ?_
      refine Tr.build (cs := wordsV R.l) rfl rfl rfl (fun w => by kernel_rfl) ?_
      refine Tr.move rfl rfl rfl ?_
      refine Tr.nil ?_
      refine at_n ?_
      refine Sat.block ?_
      refine Sat.loop (ι := Nat) (fun i => ⟨[(2, ptr n2 0), (4, ptr n4 0), (114, agg (wordsV R.l)), (115, i64 (i : Int))], [⟨n4, wordsV (List.replicate 8 0), 263, 8⟩, ⟨n2, wordsV (addUp st R.l i), 263, (wordsV st).length⟩]⟩) (fun i => i ≤ 8) (fun i => 8 - i) (0) ?_ ?_ ?_
      · omega
      · exact weak_of (wk1 rfl (wk1 rfl (wk1 rfl (wk1 rfl wk0)))) (wh1 (by first | exact mem0 | exact mem1 | exact mem2 | exact mem3 | exact mem4 | exact mem5 | exact mem6 | exact mem7 | (repeat (first | exact List.mem_cons_self | refine List.mem_cons_of_mem _ ?_ | refine mem_seg ?_))) (wh1 (by first | exact mem0 | exact mem1 | exact mem2 | exact mem3 | exact mem4 | exact mem5 | exact mem6 | exact mem7 | (repeat (first | exact List.mem_cons_self | refine List.mem_cons_of_mem _ ?_ | refine mem_seg ?_))) wh0)) (by repeat (first | exact ns_nil | refine ns_keep rfl ?_ | refine ns_skip ?_))
      ·
        rintro i hi
        have hli := addUp_length st R.l i
        have hRl := W8.l_length R
        refine Sat.seq ?_
        -- region 14
        refine Sat.region ?_
        refine Tr.lss rfl rfl rfl rfl rfl ?_
        refine Tr.nil ?_
        refine at_n ?_
        refine Sat.seq ?_
        first
          | refine Sat.condP rfl (fun hc1 => ?_) (fun hc1 => ?_)
          | refine Sat.condNP rfl (fun hc1 => ?_) (fun hc1 => ?_)
          | refine Sat.cond rfl (fun hc1 => ?_) (fun hc1 => ?_)
        ·
          refine Sat.skip ?_
          refine at_n ?_
          refine Sat.seq ?_
          refine Sat.block ?_
          refine Sat.seq ?_
          -- region 15
          refine Sat.region ?_
          refine Tr.move rfl rfl rfl ?_
          refine Tr.idxA1 rfl rfl rfl rfl Tryz.underlying263 Sz48 Tryz.underlying48 rfl _ rfl (by omega) (by first | rfl | exact get_words (by first | omega | (simp [hst, hp, hw, hk80, addUp_length, W8.l_length]; done) | (simp [hst, hp, hw, hk80, addUp_length, W8.l_length]; omega)) | exact get_bytes (by first | omega | (simp [hst, hp, hw, hk80, addUp_length, W8.l_length]; done) | (simp [hst, hp, hw, hk80, addUp_length, W8.l_length]; omega)) | exact get_ints (by first | omega | (simp [hst, hp, hw, hk80, addUp_length, W8.l_length]; done) | (simp [hst, hp, hw, hk80, addUp_length, W8.l_length]; omega))) ?_
          refine Tr.assign rfl rfl rfl ?_
          refine Tr.assign rfl rfl rfl ?_
          refine Tr.nil ?_
          refine at_n ?_
          -- region 16
          refine Sat.region ?_
          refine Tr.move rfl rfl rfl ?_
          first
            | refine Tr.idxArr1 rfl rfl rfl rfl Tryz.underlying263 Sz48 _ rfl (by omega) ?_
            | refine Tr.idxArrO rfl rfl rfl rfl Tryz.underlying263 Sz48 _ rfl (by omega) ?_
            | refine Tr.idxArr1 rfl rfl rfl rfl Tryz.underlying263 Sz48 _ (toNat_back (by omega)) (by omega) ?_
            | refine Tr.idxArrO rfl rfl rfl rfl Tryz.underlying263 Sz48 _ (toNat_back (by omega)) (by omega) ?_
          refine Tr.load1 rfl rfl rfl Tryz.underlying48 rfl (by first | exact mem0 | exact mem1 | exact mem2 | exact mem3 | exact mem4 | exact mem5 | exact mem6 | exact mem7 | (repeat (first | exact List.mem_cons_self | refine List.mem_cons_of_mem _ ?_ | refine mem_seg ?_))) (by first | rfl | exact get_words (by first | omega | (simp [hst, hp, hw, hk80, addUp_length, W8.l_length]; done) | (simp [hst, hp, hw, hk80, addUp_length, W8.l_length]; omega)) | exact get_bytes (by first | omega | (simp [hst, hp, hw, hk80, addUp_length, W8.l_length]; done) | (simp [hst, hp, hw, hk80, addUp_length, W8.l_length]; omega)) | exact get_ints (by first | omega | (simp [hst, hp, hw, hk80, addUp_length, W8.l_length]; done) | (simp [hst, hp, hw, hk80, addUp_length, W8.l_length]; omega))) ?_
          refine Tr.move rfl rfl rfl ?_
          refine Tr.add_u64 rfl rfl rfl rfl ?_
          first
            | refine Tr.idxArr1 rfl rfl rfl rfl Tryz.underlying263 Sz48 _ rfl (by omega) ?_
            | refine Tr.idxArrO rfl rfl rfl rfl Tryz.underlying263 Sz48 _ rfl (by omega) ?_
            | refine Tr.idxArr1 rfl rfl rfl rfl Tryz.underlying263 Sz48 _ (toNat_back (by omega)) (by omega) ?_
            | refine Tr.idxArrO rfl rfl rfl rfl Tryz.underlying263 Sz48 _ (toNat_back (by omega)) (by omega) ?_
          refine Tr.store1 rfl rfl rfl rfl rfl Sz48 (by first | exact mem0 | exact mem1 | exact mem2 | exact mem3 | exact mem4 | exact mem5 | exact mem6 | exact mem7 | (repeat (first | exact List.mem_cons_self | refine List.mem_cons_of_mem _ ?_ | refine mem_seg ?_))) (by first | (simp [hst, hp, hw, hk80, addUp_length, W8.l_length]; done) | (simp [hst, hp, hw, hk80, addUp_length, W8.l_length]; omega)) (by first | exact set_words _ _ _ | exact set_bytes _ _ _ | exact set_ints _ _ _ | rfl) (by first | exact upd0 | exact upd1 | exact upd2 | exact upd3 | exact upd4 | exact upd5 | exact upd6 | exact upd7 | (repeat (first | exact upd0 | apply Upd.tail | apply Upd.seg))) ?_
          refine Tr.nil ?_
          refine bl_n ?_
          refine at_n ?_
          -- region 17
          refine Sat.region ?_
          refine Tr.add_i64 rfl rfl rfl rfl (by omega) ?_
          refine Tr.move rfl rfl rfl ?_
          refine Tr.nil ?_
          refine at_n ?_
          exact ⟨i + 1, by omega, by omega, weak_of (wk1 rfl (wk1 rfl (wk1 rfl (wk1 rfl wk0)))) (wh1 (by first | exact mem0 | exact mem1 | exact mem2 | exact mem3 | exact mem4 | exact mem5 | exact mem6 | exact mem7 | (repeat (first | exact List.mem_cons_self | refine List.mem_cons_of_mem _ ?_ | refine mem_seg ?_))) (wh1 (by first | exact mem0 | exact mem1 | exact mem2 | exact mem3 | exact mem4 | exact mem5 | exact mem6 | exact mem7 | (repeat (first | exact List.mem_cons_self | refine List.mem_cons_of_mem _ ?_ | refine mem_seg ?_))) wh0)) (by repeat (first | exact ns_nil | refine ns_keep rfl ?_ | refine ns_skip ?_))⟩
        ·
          obtain rfl : i = 8 := by omega
          refine Sat.exit ?_
          refine at_x ?_
          refine at_x ?_
          refine bl_h ?_
          refine at_n ?_
          refine Sat.seq ?_
          -- region 18
          refine Sat.region ?_
          first
            | refine Tr.loadAll rfl rfl rfl Tryz.underlying263 rfl Sz263 (by first | exact mem0 | exact mem1 | exact mem2 | exact mem3 | exact mem4 | exact mem5 | exact mem6 | exact mem7 | (repeat (first | exact List.mem_cons_self | refine List.mem_cons_of_mem _ ?_ | refine mem_seg ?_))) (by first | assumption | (simp [hst, hp, hw, hk80, addUp_length, W8.l_length]; done) | (rw [bytesV, List.length_map]; assumption)) ?_
            | refine Tr.loadN _ rfl rfl rfl Tryz.underlying263 rfl Sz263 (by first | exact mem0 | exact mem1 | exact mem2 | exact mem3 | exact mem4 | exact mem5 | exact mem6 | exact mem7 | (repeat (first | exact List.mem_cons_self | refine List.mem_cons_of_mem _ ?_ | refine mem_seg ?_))) (by exact rfl) (by first | assumption | (simp [hst, hp, hw, hk80, addUp_length, W8.l_length]; done) | (rw [bytesV, List.length_map]; assumption)) ?_
          first
            | refine Tr.storeAll rfl rfl rfl rfl (by first | exact bytesV_cell _ | simp [isCell]) Sz263 (by first | assumption | (simp [hst, hp, hw, hk80, addUp_length, W8.l_length]; done) | (rw [bytesV, List.length_map]; assumption)) (by first | exact mem0 | exact mem1 | exact mem2 | exact mem3 | exact mem4 | exact mem5 | exact mem6 | exact mem7 | (repeat (first | exact List.mem_cons_self | refine List.mem_cons_of_mem _ ?_ | refine mem_seg ?_))) (by first | assumption | (simp [hst, hp, hw, hk80, addUp_length, W8.l_length]; done) | (rw [bytesV, List.length_map]; assumption)) (by first | exact upd0 | exact upd1 | exact upd2 | exact upd3 | exact upd4 | exact upd5 | exact upd6 | exact upd7 | (repeat (first | exact upd0 | apply Upd.tail | apply Upd.seg))) ?_
            | refine Tr.storeN _ rfl rfl rfl rfl rfl (by first | exact bytesV_cell _ | simp [isCell]) Sz263 (by first | assumption | (simp [hst, hp, hw, hk80, addUp_length, W8.l_length]; done) | (rw [bytesV, List.length_map]; assumption)) (by first | exact mem0 | exact mem1 | exact mem2 | exact mem3 | exact mem4 | exact mem5 | exact mem6 | exact mem7 | (repeat (first | exact List.mem_cons_self | refine List.mem_cons_of_mem _ ?_ | refine mem_seg ?_))) (by first | assumption | (simp [hst, hp, hw, hk80, addUp_length, W8.l_length]; done) | (rw [bytesV, List.length_map]; assumption)) (by exact rfl) (by first | exact upd0 | exact upd1 | exact upd2 | exact upd3 | exact upd4 | exact upd5 | exact upd6 | exact upd7 | (repeat (first | exact upd0 | apply Upd.tail | apply Upd.seg))) ?_
          refine Tr.nil ?_
          refine at_n ?_
          refine Sat.ret ?_
          refine en_r ?_
          refine ⟨_, [], res_cell rfl rfl Tryz.underlying263 rfl Sz263 (by first | exact mem0 | exact mem1 | exact mem2 | exact mem3 | exact mem4 | exact mem5 | exact mem6 | exact mem7 | (repeat (first | exact List.mem_cons_self | refine List.mem_cons_of_mem _ ?_ | refine mem_seg ?_))) (by simp [hst, hp, hw, hk80, addUp_length, W8.l_length]), (by simp), (by simp), ?_, rfl⟩
          rfl

set_option maxRecDepth 100000 in
set_option maxHeartbeats 2000000 in
theorem sha_sum (st : List UInt64) (hst : st.length = 8) (s : List UInt8) (hs : Hid (sumUp st 64 = s)) : Meets Tryz.prog 245 [agg (wordsV st)] [] (fun _ => True) (fun v out => v = agg (bytesV s) ∧ out = []) := by
  intro W hW
  have hs64 : s.length = 64 := by rw [← hs.out]; exact sumUp_length st 64
  refine calls_of (hp0 := []) Tryz.func245 rfl 22 Tryz.ntmps245 rfl (HRep.nil _) ?_
  refine Sat.seq ?_
  -- region 0
  refine Sat.region ?_
  refine Tr.boxA rfl rfl ?_
  intro n1 hn1 hf1
  refine Tr.alloc (cs := (bytesV (List.replicate 64 0))) rfl Zr76 rfl ?_
  intro n2 hn2 hf2
  refine Tr.nil ?_
  refine at_n ?_
  refine Sat.seq ?_
  -- region 1
  refine Sat.region ?_
  refine Tr.alloc (cs := (bytesV (List.replicate 64 0))) rfl Zr76 rfl ?_
  intro n3 hn3 hf3
  refine Tr.nil ?_
  refine at_n ?_
  refine Sat.seq ?_
  refine Sat.seq ?_
  -- region 2
  refine Sat.region ?_
  refine Tr.move rfl rfl rfl ?_
  refine Tr.nil ?_
  refine at_n ?_
  refine Sat.block ?_
  refine Sat.loop (ι := Nat) (fun k => ⟨[(1, ptr n1 0), (2, ptr n2 0), (3, ptr n3 0), (5, i64 (k : Int))], [⟨n3, bytesV (sumUp st k), 76, 64⟩, ⟨n2, bytesV (List.replicate 64 0), 76, 64⟩, ⟨n1, wordsV st, 263, (wordsV st).length⟩]⟩) (fun k => k ≤ 64) (fun k => 64 - k) (0) ?_ ?_ ?_
  · omega
  · exact weak_of (wk1 rfl (wk1 rfl (wk1 rfl (wk1 rfl wk0)))) (wh1 (by first | exact mem0 | exact mem1 | exact mem2 | exact mem3 | exact mem4 | exact mem5 | exact mem6 | exact mem7 | (repeat (first | exact List.mem_cons_self | refine List.mem_cons_of_mem _ ?_ | refine mem_seg ?_))) (wh1 (by first | exact mem0 | exact mem1 | exact mem2 | exact mem3 | exact mem4 | exact mem5 | exact mem6 | exact mem7 | (repeat (first | exact List.mem_cons_self | refine List.mem_cons_of_mem _ ?_ | refine mem_seg ?_))) (wh1 (by first | exact mem0 | exact mem1 | exact mem2 | exact mem3 | exact mem4 | exact mem5 | exact mem6 | exact mem7 | (repeat (first | exact List.mem_cons_self | refine List.mem_cons_of_mem _ ?_ | refine mem_seg ?_))) wh0))) (by repeat (first | exact ns_nil | refine ns_keep rfl ?_ | refine ns_skip ?_))
  ·
    rintro k hi
    have hlk := sumUp_length st k
    refine Sat.seq ?_
    -- region 3
    refine Sat.region ?_
    refine Tr.lss rfl rfl rfl rfl rfl ?_
    refine Tr.nil ?_
    refine at_n ?_
    refine Sat.seq ?_
    first
      | refine Sat.condP rfl (fun hc0 => ?_) (fun hc0 => ?_)
      | refine Sat.condNP rfl (fun hc0 => ?_) (fun hc0 => ?_)
      | refine Sat.cond rfl (fun hc0 => ?_) (fun hc0 => ?_)
    ·
      refine Sat.skip ?_
      refine at_n ?_
      refine Sat.seq ?_
      refine Sat.block ?_
      refine Sat.seq ?_
      -- region 4
      refine Sat.region ?_
      refine Tr.move rfl rfl rfl ?_
      refine Tr.assign rfl rfl rfl ?_
      refine Tr.nil ?_
      refine at_n ?_
      -- region 5
      refine Sat.region ?_
      refine Tr.move rfl rfl rfl ?_
      refine Tr.move rfl rfl rfl ?_
      refine Tr.quo_i64 rfl rfl rfl rfl (by omega) ?_
      first
        | refine Tr.idxArr1 rfl rfl rfl rfl Tryz.underlying263 Sz48 (k / 8) (by omega) (by omega) ?_
        | refine Tr.idxArrO rfl rfl rfl rfl Tryz.underlying263 Sz48 (k / 8) (by omega) (by omega) ?_
      refine Tr.load1 rfl rfl rfl Tryz.underlying48 rfl (by first | exact mem0 | exact mem1 | exact mem2 | exact mem3 | exact mem4 | exact mem5 | exact mem6 | exact mem7 | (repeat (first | exact List.mem_cons_self | refine List.mem_cons_of_mem _ ?_ | refine mem_seg ?_))) (by first | rfl | exact get_words (by first | omega | (simp [hst, sumUp_length, hs64]; done) | (simp [hst, sumUp_length, hs64]; omega)) | exact get_bytes (by first | omega | (simp [hst, sumUp_length, hs64]; done) | (simp [hst, sumUp_length, hs64]; omega)) | exact get_ints (by first | omega | (simp [hst, sumUp_length, hs64]; done) | (simp [hst, sumUp_length, hs64]; omega))) ?_
      refine Tr.move rfl rfl rfl ?_
      refine Tr.rem_i64 rfl rfl rfl rfl (by omega) ?_
      refine Tr.mul_i64 rfl rfl rfl rfl (by omega) ?_
      refine Tr.sub_i64 rfl rfl rfl rfl (by omega) ?_
      refine Tr.shr_u64 rfl rfl rfl rfl (56 - 8 * (k % 8)) (by omega) (by omega) ?_
      refine Tr.conv rfl rfl rfl Tryz.underlying48 Tryz.underlying5 (cv_u64_u8 _) ?_
      first
        | refine Tr.idxArr1 rfl rfl rfl rfl Tryz.underlying76 Sz5 _ rfl (by omega) ?_
        | refine Tr.idxArrO rfl rfl rfl rfl Tryz.underlying76 Sz5 _ rfl (by omega) ?_
        | refine Tr.idxArr1 rfl rfl rfl rfl Tryz.underlying76 Sz5 _ (toNat_back (by omega)) (by omega) ?_
        | refine Tr.idxArrO rfl rfl rfl rfl Tryz.underlying76 Sz5 _ (toNat_back (by omega)) (by omega) ?_
      refine Tr.store1 rfl rfl rfl rfl rfl Sz5 (by first | exact mem0 | exact mem1 | exact mem2 | exact mem3 | exact mem4 | exact mem5 | exact mem6 | exact mem7 | (repeat (first | exact List.mem_cons_self | refine List.mem_cons_of_mem _ ?_ | refine mem_seg ?_))) (by first | (simp [hst, sumUp_length, hs64]; done) | (simp [hst, sumUp_length, hs64]; omega)) (by first | exact set_words _ _ _ | exact set_bytes _ _ _ | exact set_ints _ _ _ | rfl) (by first | exact upd0 | exact upd1 | exact upd2 | exact upd3 | exact upd4 | exact upd5 | exact upd6 | exact upd7 | (repeat (first | exact upd0 | apply Upd.tail | apply Upd.seg))) ?_
      refine Tr.nil ?_
      refine bl_n ?_
      refine at_n ?_
      -- region 6
      refine Sat.region ?_
      refine Tr.add_i64 rfl rfl rfl rfl (by omega) ?_
      refine Tr.move rfl rfl rfl ?_
      refine Tr.nil ?_
      refine at_n ?_
      exact ⟨k + 1, by omega, by omega, weak_of (wk1 rfl (wk1 rfl (wk1 rfl (wk1 rfl wk0)))) (wh1 (by first | exact mem0 | exact mem1 | exact mem2 | exact mem3 | exact mem4 | exact mem5 | exact mem6 | exact mem7 | (repeat (first | exact List.mem_cons_self | refine List.mem_cons_of_mem _ ?_ | refine mem_seg ?_))) (wh1 (by first | exact mem0 | exact mem1 | exact mem2 | exact mem3 | exact mem4 | exact mem5 | exact mem6 | exact mem7 | (repeat (first | exact List.mem_cons_self | refine List.mem_cons_of_mem _ ?_ | refine mem_seg ?_))) (wh1 (by first | exact mem0 | exact mem1 | exact mem2 | exact mem3 | exact mem4 | exact mem5 | exact mem6 | exact mem7 | (repeat (first | exact List.mem_cons_self | refine List.mem_cons_of_mem _ ?_ | refine mem_seg ?_))) wh0))) (by repeat (first | exact ns_nil | refine ns_keep rfl ?_ | refine ns_skip ?_))⟩
    ·
      obtain rfl : k = 64 := by omega
      rw [hs.out]
      clear hlk
      refine Sat.exit ?_
      refine at_x ?_
      refine at_x ?_
      refine bl_h ?_
      refine at_n ?_
      refine Sat.seq ?_
      -- region 7
      refine Sat.region ?_
      first
        | refine Tr.loadAll rfl rfl rfl Tryz.underlying76 rfl Sz76 (by first | exact mem0 | exact mem1 | exact mem2 | exact mem3 | exact mem4 | exact mem5 | exact mem6 | exact mem7 | (repeat (first | exact List.mem_cons_self | refine List.mem_cons_of_mem _ ?_ | refine mem_seg ?_))) (by first | assumption | (simp [hst, sumUp_length, hs64]; done) | (rw [bytesV, List.length_map]; assumption)) ?_
        | refine Tr.loadN _ rfl rfl rfl Tryz.underlying76 rfl Sz76 (by first | exact mem0 | exact mem1 | exact mem2 | exact mem3 | exact mem4 | exact mem5 | exact mem6 | exact mem7 | (repeat (first | exact List.mem_cons_self | refine List.mem_cons_of_mem _ ?_ | refine mem_seg ?_))) (by exact rfl) (by first | assumption | (simp [hst, sumUp_length, hs64]; done) | (rw [bytesV, List.length_map]; assumption)) ?_
      first
        | refine Tr.storeAll rfl rfl rfl rfl (by first | exact bytesV_cell _ | simp [isCell]) Sz76 (by first | assumption | (simp [hst, sumUp_length, hs64]; done) | (rw [bytesV, List.length_map]; assumption)) (by first | exact mem0 | exact mem1 | exact mem2 | exact mem3 | exact mem4 | exact mem5 | exact mem6 | exact mem7 | (repeat (first | exact List.mem_cons_self | refine List.mem_cons_of_mem _ ?_ | refine mem_seg ?_))) (by first | assumption | (simp [hst, sumUp_length, hs64]; done) | (rw [bytesV, List.length_map]; assumption)) (by first | exact upd0 | exact upd1 | exact upd2 | exact upd3 | exact upd4 | exact upd5 | exact upd6 | exact upd7 | (repeat (first | exact upd0 | apply Upd.tail | apply Upd.seg))) ?_
        | refine Tr.storeN _ rfl rfl rfl rfl rfl (by first | exact bytesV_cell _ | simp [isCell]) Sz76 (by first | assumption | (simp [hst, sumUp_length, hs64]; done) | (rw [bytesV, List.length_map]; assumption)) (by first | exact mem0 | exact mem1 | exact mem2 | exact mem3 | exact mem4 | exact mem5 | exact mem6 | exact mem7 | (repeat (first | exact List.mem_cons_self | refine List.mem_cons_of_mem _ ?_ | refine mem_seg ?_))) (by first | assumption | (simp [hst, sumUp_length, hs64]; done) | (rw [bytesV, List.length_map]; assumption)) (by exact rfl) (by first | exact upd0 | exact upd1 | exact upd2 | exact upd3 | exact upd4 | exact upd5 | exact upd6 | exact upd7 | (repeat (first | exact upd0 | apply Upd.tail | apply Upd.seg))) ?_
      refine Tr.nil ?_
      refine at_n ?_
      refine Sat.ret ?_
      refine en_r ?_
      refine ⟨_, [], res_cell rfl rfl Tryz.underlying76 rfl Sz76 (by first | exact mem0 | exact mem1 | exact mem2 | exact mem3 | exact mem4 | exact mem5 | exact mem6 | exact mem7 | (repeat (first | exact List.mem_cons_self | refine List.mem_cons_of_mem _ ?_ | refine mem_seg ?_))) (by simp [hst, sumUp_length, hs64]), (by simp), (by simp), ?_, rfl⟩
      rfl

end Go.Proofs.YtejjamifnombhaaGreat
end

section
namespace Go.Proofs.YtejjamifnombhaaGreat
open Go Hw
set_option linter.unusedVariables false
set_option linter.unusedSimpArgs false


theorem and_low {x : UInt64} (h : x.toNat < 4294967296) : x &&& 4294967295 = x := by
  apply UInt64.toNat_inj.1
  rw [UInt64.toNat_and]
  show x.toNat &&& (2 ^ 32 - 1) = x.toNat
  rw [Nat.and_two_pow_sub_one_eq_mod, Nat.mod_eq_of_lt (by omega)]
theorem shr_small {x : UInt64} {n : Nat} (h : x.toNat < 2 ^ n) : shr64 x n = 0 := by
  apply UInt64.toNat_inj.1
  rw [shr64_nat, Nat.div_eq_of_lt h]; rfl
theorem mul8_nat {x : UInt64} (h : x.toNat < 536870912) : (x * 8).toNat = x.toNat * 8 := by
  rw [UInt64.toNat_mul]; show x.toNat * 8 % 18446744073709551616 = _; omega


set_option maxRecDepth 100000 in
set_option maxHeartbeats 1000000 in
theorem bits_mul8 (x : UInt64) (hx : x.toNat < 536870912) : Meets Tryz.prog 262 [u64 x, u64 8] [] (fun _ => True) (fun v out => v = .tuple #[u64 0, u64 (x * 8)] ∧ out = []) := by
  intro W hW
  have h1 := and_low (x := x) (by omega)
  have h2 := shr_small (x := x) (n := 32) (by omega)
  have h3 := mul8_nat hx
  have h4 := shr_small (x := x * 8) (n := 32) (by omega)
  refine calls_of (hp0 := []) Tryz.func262 rfl 51 Tryz.ntmps262 rfl (HRep.nil _) ?_
  refine Sat.seq ?_
  -- region 0
  refine Sat.region ?_
  refine Tr.assign rfl rfl (show evIn _ _ = some (u64 0) from rfl) ?_
  refine Tr.assign rfl rfl (show evIn _ _ = some (u64 0) from rfl) ?_
  refine Tr.nil ?_
  refine at_n ?_
  refine Sat.seq ?_
  -- region 1
  refine Sat.region ?_
  refine Tr.move rfl rfl rfl ?_
  refine Tr.and_u64 rfl rfl rfl (show evIn _ _ = some (u64 4294967295) from rfl) ?_
  refine Tr.assign rfl rfl rfl ?_
  refine Tr.nil ?_
  refine at_n ?_
  refine Sat.seq ?_
  -- region 2
  refine Sat.region ?_
  refine Tr.move rfl rfl rfl ?_
  refine Tr.shr_u64 rfl rfl rfl rfl 32 (by omega) (by omega) ?_
  refine Tr.assign rfl rfl rfl ?_
  refine Tr.nil ?_
  refine at_n ?_
  refine Sat.seq ?_
  -- region 3
  refine Sat.region ?_
  refine Tr.move rfl rfl rfl ?_
  refine Tr.and_u64 rfl rfl rfl (show evIn _ _ = some (u64 4294967295) from rfl) ?_
  refine Tr.assign rfl rfl rfl ?_
  refine Tr.nil ?_
  refine at_n ?_
  refine Sat.seq ?_
  -- region 4
  refine Sat.region ?_
  refine Tr.move rfl rfl rfl ?_
  refine Tr.shr_u64 rfl rfl (show evIn _ _ = some (u64 8) from rfl) rfl 32 (by omega) (by omega) ?_
  refine Tr.assign rfl rfl rfl ?_
  refine Tr.nil ?_
  refine at_n ?_
  refine Sat.seq ?_
  -- region 5
  refine Sat.region ?_
  refine Tr.move rfl rfl rfl ?_
  refine Tr.move rfl rfl rfl ?_
  refine Tr.mul_u64 rfl rfl rfl rfl ?_
  refine Tr.assign rfl rfl rfl ?_
  refine Tr.nil ?_
  refine at_n ?_
  refine Sat.seq ?_
  -- region 6
  refine Sat.region ?_
  refine Tr.move rfl rfl rfl ?_
  refine Tr.move rfl rfl rfl ?_
  refine Tr.mul_u64 rfl rfl rfl rfl ?_
  refine Tr.move rfl rfl rfl ?_
  refine Tr.shr_u64 rfl rfl rfl rfl 32 rfl (by decide) ?_
  refine Tr.add_u64 rfl rfl rfl rfl ?_
  refine Tr.assign rfl rfl rfl ?_
  refine Tr.nil ?_
  refine at_n ?_
  refine Sat.seq ?_
  -- region 7
  refine Sat.region ?_
  refine Tr.move rfl rfl rfl ?_
  refine Tr.and_u64 rfl rfl rfl (show evIn _ _ = some (u64 4294967295) from rfl) ?_
  refine Tr.assign rfl rfl rfl ?_
  refine Tr.nil ?_
  refine at_n ?_
  refine Sat.seq ?_
  -- region 8
  refine Sat.region ?_
  refine Tr.move rfl rfl rfl ?_
  refine Tr.shr_u64 rfl rfl rfl rfl 32 rfl (by decide) ?_
  refine Tr.assign rfl rfl rfl ?_
  refine Tr.nil ?_
  refine at_n ?_
  refine Sat.seq ?_
  -- region 9
  refine Sat.region ?_
  refine Tr.move rfl rfl rfl ?_
  refine Tr.move rfl rfl rfl ?_
  refine Tr.move rfl rfl rfl ?_
  refine Tr.mul_u64 rfl rfl rfl rfl ?_
  refine Tr.add_u64 rfl rfl rfl rfl ?_
  refine Tr.assign rfl rfl rfl ?_
  refine Tr.nil ?_
  refine at_n ?_
  refine Sat.seq ?_
  -- region 10
  refine Sat.region ?_
  refine Tr.move rfl rfl rfl ?_
  refine Tr.move rfl rfl rfl ?_
  refine Tr.mul_u64 rfl rfl rfl rfl ?_
  refine Tr.move rfl rfl rfl ?_
  refine Tr.add_u64 rfl rfl rfl rfl ?_
  refine Tr.move rfl rfl rfl ?_
  refine Tr.shr_u64 rfl rfl rfl rfl 32 rfl (by decide) ?_
  refine Tr.add_u64 rfl rfl rfl rfl ?_
  refine Tr.assign rfl rfl rfl ?_
  refine Tr.nil ?_
  refine at_n ?_
  refine Sat.seq ?_
  -- region 11
  refine Sat.region ?_
  refine Tr.move rfl rfl rfl ?_
  refine Tr.move rfl rfl rfl ?_
  refine Tr.mul_u64 rfl rfl rfl rfl ?_
  refine Tr.assign rfl rfl rfl ?_
  refine Tr.nil ?_
  refine at_n ?_
  refine Sat.ret ?_
  refine en_r ?_
  refine ⟨_, [], res_tmp2 rfl rfl rfl, (by simp), (by simp), ?_, rfl⟩
  simp only [h1, h2, show shr64 8 32 = 0 from rfl, show (8 : UInt64) &&& 4294967295 = 8 from rfl]
  rw [h4, UInt64.mul_zero (a := x)]
  rfl


theorem bytesV_app (a b : List UInt8) : bytesV (a ++ b) = bytesV a ++ bytesV b := List.map_append
theorem sl_get {ss : List Sl} {j : Nat} (h : j < ss.length) : (ss.map Sl.v)[j]? = some (ss.getD j Sl.nil).v := by simp [List.getElem?_eq_getElem h, List.getD]
theorem take_flat {ls : List (List UInt8)} {j : Nat} (h : j < ls.length) : (ls.take (j + 1)).flatten = (ls.take j).flatten ++ ls.getD j [] := by
  rw [List.take_succ_eq_append_getElem h, List.flatten_append]
  simp [List.getD, h]
theorem take_flat_le (ls : List (List UInt8)) (j : Nat) : (ls.take j).flatten.length ≤ ls.flatten.length := by
  have : ls.flatten = (ls.take j).flatten ++ (ls.drop j).flatten := by rw [← List.flatten_append, List.take_append_drop]
  rw [this, List.length_append]; omega


set_option maxRecDepth 100000 in
set_option maxHeartbeats 4000000 in
theorem sha_padded (p : Option Addr) (n c : Nat) (ss : List Sl) (ls : List (List UInt8)) (hss : ss.length = n) (hls : ls.length = n) (hsl : ∀ j, j < n → (ss.getD j Sl.nil).n = (ls.getD j []).length ∧ ((ss.getD j Sl.nil).p = none → (ss.getD j Sl.nil).n = 0)) (F : List UInt8) (hF : ls.flatten = F) (htot : F.length ≤ 90000) (hn : n ≤ 1000000) : Meets Tryz.prog 255 [.slice p n c] [] (fun W => SeesP W p (ss.map Sl.v) ∧ ∀ j, j < n → SeesP W (ss.getD j Sl.nil).p (bytesV (ls.getD j []))) (fun v out => ∃ s, v = s.v ∧ Acc s out (bytesV (padB F)) 5 (padB F).length 1) := by
  intro W hW
  have hz := padZ_lt F.length
  have hle := take_flat_le ls
  rw [hF] at hle
  refine calls_of (hp0 := []) Tryz.func255 rfl 76 Tryz.ntmps255 rfl (HRep.nil _) ?_
  refine Sat.seq ?_
  -- region 0
  refine Sat.region ?_
  refine Tr.assign rfl rfl rfl ?_
  refine Tr.nil ?_
  refine at_n ?_
  refine Sat.seq ?_
  -- region 1
  refine Sat.region ?_
  refine Tr.assign rfl rfl rfl ?_
  refine Tr.nil ?_
  refine at_n ?_
  refine Sat.seq ?_
  refine Sat.seq ?_
  -- region 2
  refine Sat.region ?_
  refine Tr.move rfl rfl rfl ?_
  refine Tr.lenSl rfl rfl rfl Tryz.underlying91 ?_
  refine Tr.move rfl rfl rfl ?_
  refine Tr.nil ?_
  refine at_n ?_
  refine Sat.block ?_
  refine Sat.loop (ι := Nat) (fun k => ⟨[(0, .slice p n c), (3, i64 ((ls.take k).flatten.length : Int)), (14, .slice p n c), (15, i64 (n : Int)), (16, i64 (k : Int))], []⟩) (fun k => k ≤ n) (fun k => n - k) (0) ?_ ?_ ?_
  · omega
  · exact weak_perm (wk1 rfl (wk1 rfl (wk1 rfl (wk1 rfl (wk1 rfl wk0))))) pm_nil
  ·
    rintro k hi
    refine Sat.seq ?_
    -- region 3
    refine Sat.region ?_
    refine Tr.lss rfl rfl rfl rfl rfl ?_
    refine Tr.nil ?_
    refine at_n ?_
    refine Sat.seq ?_
    first
      | refine Sat.condP rfl (fun hc0 => ?_) (fun hc0 => ?_)
      | refine Sat.condNP rfl (fun hc0 => ?_) (fun hc0 => ?_)
      | refine Sat.cond rfl (fun hc0 => ?_) (fun hc0 => ?_)
    ·
      have hk3 : k < n := by omega
      obtain ⟨b, o, hbp, hbs⟩ := hW.1.at (by rw [List.length_map]; omega)
      have hv : W.cell? ⟨b, o + k * 1, none⟩ = some (ss.getD k Sl.nil).v := by rw [Nat.mul_one]; exact hbs k _ (sl_get (by omega))
      have hstep := hle (k + 1)
      rw [take_flat (by omega), List.length_append, ← (hsl k (by omega)).1] at hstep
      refine Sat.skip ?_
      refine at_n ?_
      refine Sat.seq ?_
      refine Sat.block ?_
      refine Sat.seq ?_
      -- region 4
      refine Sat.region ?_
      refine Tr.idxSlP 1 rfl rfl rfl hbp rfl Tryz.underlying91 Sz58 k rfl (by omega) ?_
      refine Tr.loadE rfl rfl rfl Tryz.underlying58 rfl (by first | (simp; done) | (simp; exact hW.2.2) | (simp [Cx.with]; done) | (simp [Cx.with]; omega)) (hv) ?_
      refine Tr.assign rfl rfl rfl ?_
      refine Tr.nil ?_
      refine at_n ?_
      -- region 5
      refine Sat.region ?_
      refine Tr.move rfl rfl rfl ?_
      refine Tr.move rfl rfl rfl ?_
      refine Tr.lenSl rfl rfl rfl Tryz.underlying58 ?_
      refine Tr.add_i64 rfl rfl rfl rfl (by omega) ?_
      refine Tr.assign rfl rfl rfl ?_
      refine Tr.nil ?_
      refine bl_n ?_
      refine at_n ?_
      -- region 6
      refine Sat.region ?_
      refine Tr.add_i64 rfl rfl rfl rfl (by omega) ?_
      refine Tr.move rfl rfl rfl ?_
      refine Tr.nil ?_
      refine at_n ?_
      exact ⟨k + 1, by omega, by omega, weak_perm (wk1 rfl (wk1 (congrArg (fun z => some (i64 z)) (by rw [take_flat (by omega), List.length_append, (hsl k (by omega)).1]; simp)) (wk1 rfl (wk1 rfl (wk1 rfl wk0))))) pm_nil⟩
    ·
      have hk3 : k = n := by omega
      rw [hk3, List.take_of_length_le (by omega), hF]
      refine Sat.exit ?_
      refine at_x ?_
      refine at_x ?_
      refine bl_h ?_
      refine at_n ?_
      refine Sat.seq ?_
      -- region 7
      refine Sat.region ?_
      refine Tr.move rfl rfl rfl ?_
      refine Tr.add_i64 rfl rfl rfl rfl (by omega) ?_
      refine Tr.quo_i64 rfl rfl rfl rfl (by omega) ?_
      refine Tr.mul_i64 rfl rfl rfl rfl (by omega) ?_
      refine Tr.add_i64 rfl rfl rfl rfl (by omega) ?_
      refine Tr.mkRoom (z := u8 0) (by' := 1) ((F.length + 16) / 128 * 128 + 128) rfl rfl rfl rfl (by omega) Tryz.underlying58 Sz5 Zr5 (by unfold By; kernel_rfl) rfl (by omega) (by omega) ?_
      intro q30
      refine Tr.assign rfl rfl rfl ?_
      refine Tr.nil ?_
      refine at_n ?_
      refine Sat.seq ?_
      refine Sat.seq ?_
      -- region 8
      refine Sat.region ?_
      refine Tr.move rfl rfl rfl ?_
      refine Tr.lenSl rfl rfl rfl Tryz.underlying91 ?_
      refine Tr.move rfl rfl rfl ?_
      refine Tr.nil ?_
      refine at_n ?_
      refine Sat.block ?_
      refine Sat.loop (ι := Nat × Sl × List Blk) (fun x => ⟨[(3, i64 (F.length : Int)), (6, x.2.1.v), (31, .slice p n c), (32, i64 (n : Int)), (33, i64 (x.1 : Int))], (x.2.2 ++ [])⟩) (fun x => x.1 ≤ n ∧ Acc x.2.1 x.2.2 (bytesV (ls.take x.1).flatten) 5 (ls.take x.1).flatten.length 1) (fun x => n - x.1) ((0, ⟨some ⟨q30, 0, none⟩, 0, (F.length + 16) / 128 * 128 + 128⟩, [⟨q30, [], 5, ((F.length + 16) / 128 * 128 + 128) * 1⟩])) ?_ ?_ ?_
      · exact ⟨Nat.zero_le _, Acc.some (Nat.zero_le _) rfl⟩
      · exact weak_perm (wk1 rfl (wk1 rfl (wk1 rfl (wk1 rfl (wk1 rfl wk0))))) (pm_consE (by repeat (first | exact rem_here | apply rem_there | apply rem_seg)) rfl (Nat.mul_one _).symm pm_nil)
      ·
        rintro x ⟨hx, hax⟩
        refine Sat.seq ?_
        -- region 9
        refine Sat.region ?_
        refine Tr.lss rfl rfl rfl rfl rfl ?_
        refine Tr.nil ?_
        refine at_n ?_
        refine Sat.seq ?_
        first
          | refine Sat.condP rfl (fun hc1 => ?_) (fun hc1 => ?_)
          | refine Sat.condNP rfl (fun hc1 => ?_) (fun hc1 => ?_)
          | refine Sat.cond rfl (fun hc1 => ?_) (fun hc1 => ?_)
        ·
          have hx3 : x.1 < n := by omega
          obtain ⟨b, o, hbp, hbs⟩ := hW.1.at (by rw [List.length_map]; omega)
          have hv : W.cell? ⟨b, o + x.1 * 1, none⟩ = some (ss.getD x.1 Sl.nil).v := by rw [Nat.mul_one]; exact hbs x.1 _ (sl_get (by omega))
          have hstep := hle (x.1 + 1)
          rw [take_flat (by omega), List.length_append, ← (hsl x.1 (by omega)).1] at hstep
          refine Sat.skip ?_
          refine at_n ?_
          refine Sat.seq ?_
          refine Sat.block ?_
          refine Sat.seq ?_
          -- region 10
          refine Sat.region ?_
          refine Tr.idxSlP 1 rfl rfl rfl hbp rfl Tryz.underlying91 Sz58 x.1 rfl (by omega) ?_
          refine Tr.loadE rfl rfl rfl Tryz.underlying58 rfl (by first | (simp; done) | (simp; exact hW.2.2) | (simp [Cx.with]; done) | (simp [Cx.with]; omega)) (hv) ?_
          refine Tr.assign rfl rfl rfl ?_
          refine Tr.nil ?_
          refine at_n ?_
          -- region 11
          refine Sat.region ?_
          refine Tr.move rfl rfl rfl ?_
          refine Tr.move rfl rfl rfl ?_
          refine Tr.appendAcc (z := u8 0) (by' := 1) (bytesV (ls.getD x.1 [])) rfl rfl rfl rfl rfl Tryz.underlying58 Tryz.underlying58 Sz5 Zr5 (by unfold By; kernel_rfl) rfl hax (by repeat (first | exact sg_here | exact sg_end | apply sg_there | apply sg_seg)) (fun w h => seesP_ext h rfl (hW.2 x.1 (by omega))) (hsl x.1 (by omega)).2 (bytesV_cell _) (by omega) (by omega) (by rw [bytesV, List.length_map, Nat.mul_one]; exact (hsl x.1 (by omega)).1.symm) ?_
          intro s39 bl39 hac39
          refine Tr.assign rfl rfl rfl ?_
          refine Tr.nil ?_
          refine bl_n ?_
          refine at_n ?_
          -- region 12
          refine Sat.region ?_
          refine Tr.add_i64 rfl rfl rfl rfl (by omega) ?_
          refine Tr.move rfl rfl rfl ?_
          refine Tr.nil ?_
          refine at_n ?_
          refine ⟨(x.1 + 1, s39, bl39), ⟨by simp only []; omega, ?_⟩, by simp only []; omega, weak_perm (wk1 rfl (wk1 rfl (wk1 rfl (wk1 rfl (wk1 rfl wk0))))) (pm_seg (by repeat (first | exact sg_here | exact sg_end | apply sg_there | apply sg_seg)) pm_nil)⟩
          rw [take_flat (by omega), List.length_append, ← (hsl x.1 (by omega)).1]
          simpa [bytesV] using hac39
        ·
          have hx3 : x.1 = n := by omega
          rw [hx3, List.take_of_length_le (by omega), hF] at hax
          refine Sat.exit ?_
          refine at_x ?_
          refine at_x ?_
          refine bl_h ?_
          refine at_n ?_
          refine Sat.seq ?_
          -- region 13
          refine Sat.region ?_
          refine Tr.move rfl rfl rfl ?_
          refine Tr.mkRow (z := u8 0) [u8 (128)] (bytesV [128]) rfl rfl rfl Tryz.underlying58 Sz5 Zr5 rfl rfl (by intro v hv; rw [List.mem_singleton.1 hv]; rfl) (by decide) rfl ?_
          intro q42
          refine Tr.appendAcc (z := u8 0) (by' := 1) (bytesV [128]) rfl rfl rfl rfl rfl Tryz.underlying58 Tryz.underlying58 Sz5 Zr5 (by unfold By; kernel_rfl) rfl hax (by repeat (first | exact sg_here | exact sg_end | apply sg_there | apply sg_seg)) (fun w h => SeesP.of (sees_own h (by first | exact mem0 | exact mem1 | exact mem2 | exact mem3 | exact mem4 | exact mem5 | exact mem6 | exact mem7 | (repeat (first | exact List.mem_cons_self | refine List.mem_cons_of_mem _ ?_ | refine mem_seg ?_))))) (fun e => by cases e) (bytesV_cell _) (by omega) (by omega) (by rfl) ?_
          intro s43 bl43 hac43
          refine Tr.assign rfl rfl rfl ?_
          refine Tr.nil ?_
          refine at_n ?_
          refine Sat.seq ?_
          refine Sat.block ?_
          refine Sat.loop (ι := Nat × Sl × List Blk) (fun z => ⟨[(3, i64 (F.length : Int)), (6, z.2.1.v)], (z.2.2 ++ [])⟩) (fun z => z.1 ≤ padZ F.length ∧ Acc z.2.1 z.2.2 (bytesV (F ++ [128] ++ List.replicate z.1 0)) 5 (F.length + 1 + z.1) 1) (fun z => padZ F.length - z.1) ((0, s43, bl43)) ?_ ?_ ?_
          · exact ⟨Nat.zero_le _, by simpa [bytesV] using hac43⟩
          · exact weak_perm (wk1 rfl (wk1 rfl wk0)) (pm_seg (by repeat (first | exact sg_here | exact sg_end | apply sg_there | apply sg_seg)) pm_nil)
          ·
            rintro z ⟨hz1, haz⟩
            have hzn := haz.num
            have hpz := padZ_at F.length z.1 hz1
            refine Sat.seq ?_
            refine Sat.seq ?_
            -- region 14
            refine Sat.region ?_
            refine Tr.move rfl rfl rfl ?_
            refine Tr.lenSl rfl rfl rfl Tryz.underlying58 ?_
            refine Tr.rem_i64 rfl rfl rfl rfl (by omega) ?_
            refine Tr.nei rfl rfl rfl rfl rfl ?_
            refine Tr.nil ?_
            refine at_n ?_
            first
              | refine Sat.condP rfl (fun hc2 => ?_) (fun hc2 => ?_)
              | refine Sat.condNP rfl (fun hc2 => ?_) (fun hc2 => ?_)
              | refine Sat.cond rfl (fun hc2 => ?_) (fun hc2 => ?_)
            ·
              have hz3 : z.1 < padZ F.length := by omega
              refine Sat.skip ?_
              refine at_n ?_
              refine Sat.block ?_
              -- region 15
              refine Sat.region ?_
              refine Tr.move rfl rfl rfl ?_
              refine Tr.mkRow (z := u8 0) [u8 (0)] (bytesV [0]) rfl rfl rfl Tryz.underlying58 Sz5 Zr5 rfl rfl (by intro v hv; rw [List.mem_singleton.1 hv]; rfl) (by decide) rfl ?_
              intro q49
              refine Tr.appendAcc (z := u8 0) (by' := 1) (bytesV [0]) rfl rfl rfl rfl rfl Tryz.underlying58 Tryz.underlying58 Sz5 Zr5 (by unfold By; kernel_rfl) rfl haz (by repeat (first | exact sg_here | exact sg_end | apply sg_there | apply sg_seg)) (fun w h => SeesP.of (sees_own h (by first | exact mem0 | exact mem1 | exact mem2 | exact mem3 | exact mem4 | exact mem5 | exact mem6 | exact mem7 | (repeat (first | exact List.mem_cons_self | refine List.mem_cons_of_mem _ ?_ | refine mem_seg ?_))))) (fun e => by cases e) (bytesV_cell _) (by omega) (by omega) (by rfl) ?_
              intro s50 bl50 hac50
              refine Tr.assign rfl rfl rfl ?_
              refine Tr.nil ?_
              refine bl_n ?_
              refine at_n ?_
              refine ⟨(z.1 + 1, s50, bl50), ⟨by simp only []; omega, ?_⟩, by simp only []; omega, weak_perm (wk1 rfl (wk1 rfl wk0)) (pm_seg (by repeat (first | exact sg_here | exact sg_end | apply sg_there | apply sg_seg)) pm_nil)⟩
              rw [List.replicate_succ', ← List.append_assoc]
              simpa [bytesV, Nat.add_assoc] using hac50
            ·
              have hz3 : z.1 = padZ F.length := by omega
              rw [hz3] at haz
              refine Sat.exit ?_
              refine at_x ?_
              refine at_x ?_
              refine bl_h ?_
              refine at_n ?_
              refine Sat.seq ?_
              -- region 16
              refine Sat.region ?_
              refine Tr.move rfl rfl rfl ?_
              refine Tr.conv rfl rfl rfl Tryz.underlying3 Tryz.underlying48 (cv_i64_u64 _) ?_
              rw [word_nat (n := F.length) (by omega)]
              refine Tr.callV rfl rfl rfl rfl Body262 (bits_mul8 (UInt64.ofNat F.length) (by rw [ofNat_nat (by omega)]; omega)) (fun _ _ => trivial) ?_
              refine Tr.move rfl rfl rfl ?_
              refine Tr.extract rfl rfl rfl rfl ?_
              refine Tr.extract rfl rfl rfl rfl ?_
              refine Tr.assign rfl rfl rfl ?_
              refine Tr.assign rfl rfl rfl ?_
              refine Tr.nil ?_
              refine at_n ?_
              refine Sat.seq ?_
              refine Sat.seq ?_
              -- region 17
              refine Sat.region ?_
              refine Tr.move rfl rfl rfl ?_
              refine Tr.move rfl rfl rfl ?_
              refine Tr.build (cs := [u64 0, u64 (UInt64.ofNat F.length * 8)]) rfl rfl rfl (fun w => by kernel_rfl) ?_
              refine Tr.move rfl rfl rfl ?_
              refine Tr.nil ?_
              refine at_n ?_
              refine Sat.block ?_
              refine Sat.rounds 3 (SRounds.more ?_)
              refine Sat.seq ?_
              -- region 18
              refine Sat.region ?_
              refine Tr.lss rfl rfl rfl rfl rfl ?_
              refine Tr.nil ?_
              refine at_n ?_
              refine Sat.seq ?_
              refine Sat.cond_t rfl (rfl) ?_
              refine Sat.skip ?_
              refine at_n ?_
              refine Sat.seq ?_
              refine Sat.block ?_
              refine Sat.seq ?_
              -- region 19
              refine Sat.region ?_
              refine Tr.idxA1 rfl rfl rfl rfl Tryz.underlying277 Sz48 Tryz.underlying48 rfl 0 rfl (by omega) rfl ?_
              refine Tr.assign rfl rfl rfl ?_
              refine Tr.nil ?_
              refine at_n ?_
              refine Sat.seq ?_
              -- region 20
              refine Sat.region ?_
              refine Tr.assign rfl rfl rfl ?_
              refine Tr.nil ?_
              refine at_n ?_
              refine Sat.block ?_
              refine Sat.loop (ι := Nat × Sl × List Blk) (fun y => ⟨[(3, i64 (F.length : Int)), (6, y.2.1.v), (12, u64 (0)), (13, i64 (56 - 8 * (y.1 : Int))), (59, agg [u64 0, u64 (UInt64.ofNat F.length * 8)]), (60, i64 0)], (y.2.2 ++ [])⟩) (fun y => y.1 ≤ 8 ∧ Acc y.2.1 y.2.2 (bytesV (F ++ [128] ++ List.replicate (padZ F.length) 0 ++ beUp (0) y.1)) 5 ((F.length + 1 + padZ F.length) + y.1) 1) (fun y => 8 - y.1) ((0, z.2.1, z.2.2)) ?_ ?_ ?_
              · exact ⟨Nat.zero_le _, by simpa [beUp] using haz⟩
              · exact weak_perm (wk1 rfl (wk1 rfl (wk1 rfl (wk1 rfl (wk1 rfl (wk1 rfl wk0)))))) (pm_seg (by repeat (first | exact sg_here | exact sg_end | apply sg_there | apply sg_seg)) pm_nil)
              ·
                rintro y ⟨hy, hay⟩
                refine Sat.seq ?_
                refine Sat.seq ?_
                -- region 21
                refine Sat.region ?_
                refine Tr.move rfl rfl rfl ?_
                refine Tr.geq rfl rfl rfl rfl rfl ?_
                refine Tr.nil ?_
                refine at_n ?_
                first
                  | refine Sat.condP rfl (fun hc4 => ?_) (fun hc4 => ?_)
                  | refine Sat.condNP rfl (fun hc4 => ?_) (fun hc4 => ?_)
                  | refine Sat.cond rfl (fun hc4 => ?_) (fun hc4 => ?_)
                ·
                  have hy3 : y.1 ≤ 7 := by omega
                  refine Sat.skip ?_
                  refine at_n ?_
                  refine Sat.seq ?_
                  refine Sat.block ?_
                  -- region 23
                  refine Sat.region ?_
                  refine Tr.move rfl rfl rfl ?_
                  refine Tr.move rfl rfl rfl ?_
                  refine Tr.move rfl rfl rfl ?_
                  refine Tr.shr_u64 rfl rfl rfl rfl (56 - 8 * y.1) (by omega) (by omega) ?_
                  refine Tr.conv rfl rfl rfl Tryz.underlying48 Tryz.underlying5 (cv_u64_u8 _) ?_
                  refine Tr.mkRow (z := u8 0) [u8 ((shr64 0 (56 - 8 * y.1)).toUInt8)] (bytesV [(shr64 0 (56 - 8 * y.1)).toUInt8]) rfl rfl rfl Tryz.underlying58 Sz5 Zr5 rfl rfl (by intro v hv; rw [List.mem_singleton.1 hv]; rfl) (by decide) rfl ?_
                  intro q72
                  refine Tr.appendAcc (z := u8 0) (by' := 1) (bytesV [(shr64 0 (56 - 8 * y.1)).toUInt8]) rfl rfl rfl rfl rfl Tryz.underlying58 Tryz.underlying58 Sz5 Zr5 (by unfold By; kernel_rfl) rfl hay (by repeat (first | exact sg_here | exact sg_end | apply sg_there | apply sg_seg)) (fun w h => SeesP.of (sees_own h (by first | exact mem0 | exact mem1 | exact mem2 | exact mem3 | exact mem4 | exact mem5 | exact mem6 | exact mem7 | (repeat (first | exact List.mem_cons_self | refine List.mem_cons_of_mem _ ?_ | refine mem_seg ?_))))) (fun e => by cases e) (bytesV_cell _) (by omega) (by omega) (by rfl) ?_
                  intro s73 bl73 hac73
                  refine Tr.assign rfl rfl rfl ?_
                  refine Tr.nil ?_
                  refine bl_n ?_
                  refine at_n ?_
                  -- region 22
                  refine Sat.region ?_
                  refine Tr.move rfl rfl rfl ?_
                  refine Tr.sub_i64 rfl rfl rfl rfl (by omega) ?_
                  refine Tr.assign rfl rfl rfl ?_
                  refine Tr.nil ?_
                  refine at_n ?_
                  refine ⟨(y.1 + 1, s73, bl73), ⟨by simp only []; omega, ?_⟩, by simp only []; omega, weak_perm (wk1 rfl (wk1 rfl (wk1 rfl (wk1 (congrArg (fun z => some (i64 z)) (by omega)) (wk1 rfl (wk1 rfl wk0)))))) (pm_seg (by repeat (first | exact sg_here | exact sg_end | apply sg_there | apply sg_seg)) pm_nil)⟩
                  rw [show beUp (0) (y.1 + 1) = beUp (0) y.1 ++ [(shr64 (0) (56 - 8 * y.1)).toUInt8] from rfl, ← List.append_assoc, bytesV_app]
                  exact hac73
                ·
                  have hy3 : y.1 = 8 := by omega
                  rw [hy3] at hay
                  refine Sat.exit ?_
                  refine at_x ?_
                  refine at_x ?_
                  refine bl_h ?_
                  refine bl_n ?_
                  refine at_n ?_
                  -- region 24
                  refine Sat.region ?_
                  refine Tr.add_i64 rfl rfl rfl rfl (by omega) ?_
                  refine Tr.move rfl rfl rfl ?_
                  refine Tr.nil ?_
                  refine at_n (SRounds.more ?_)
                  refine Sat.seq ?_
                  -- region 18
                  refine Sat.region ?_
                  refine Tr.lss rfl rfl rfl rfl rfl ?_
                  refine Tr.nil ?_
                  refine at_n ?_
                  refine Sat.seq ?_
                  refine Sat.cond_t rfl (rfl) ?_
                  refine Sat.skip ?_
                  refine at_n ?_
                  refine Sat.seq ?_
                  refine Sat.block ?_
                  refine Sat.seq ?_
                  -- region 19
                  refine Sat.region ?_
                  refine Tr.idxA1 rfl rfl rfl rfl Tryz.underlying277 Sz48 Tryz.underlying48 rfl 1 rfl (by omega) rfl ?_
                  refine Tr.assign rfl rfl rfl ?_
                  refine Tr.nil ?_
                  refine at_n ?_
                  refine Sat.seq ?_
                  -- region 20
                  refine Sat.region ?_
                  refine Tr.assign rfl rfl rfl ?_
                  refine Tr.nil ?_
                  refine at_n ?_
                  refine Sat.block ?_
                  refine Sat.loop (ι := Nat × Sl × List Blk) (fun y => ⟨[(3, i64 (F.length : Int)), (6, y.2.1.v), (12, u64 (UInt64.ofNat F.length * 8)), (13, i64 (56 - 8 * (y.1 : Int))), (59, agg [u64 0, u64 (UInt64.ofNat F.length * 8)]), (60, i64 (0 + 1))], (y.2.2 ++ [])⟩) (fun y => y.1 ≤ 8 ∧ Acc y.2.1 y.2.2 (bytesV (F ++ [128] ++ List.replicate (padZ F.length) 0 ++ beUp 0 8 ++ beUp (UInt64.ofNat F.length * 8) y.1)) 5 ((F.length + 1 + padZ F.length + 8) + y.1) 1) (fun y => 8 - y.1) ((0, y.2.1, y.2.2)) ?_ ?_ ?_
                  · exact ⟨Nat.zero_le _, by simpa [beUp] using hay⟩
                  · exact weak_perm (wk1 rfl (wk1 rfl (wk1 rfl (wk1 rfl (wk1 rfl (wk1 rfl wk0)))))) (pm_seg (by repeat (first | exact sg_here | exact sg_end | apply sg_there | apply sg_seg)) pm_nil)
                  ·
                    rintro y ⟨hy, hay⟩
                    refine Sat.seq ?_
                    refine Sat.seq ?_
                    -- region 21
                    refine Sat.region ?_
                    refine Tr.move rfl rfl rfl ?_
                    refine Tr.geq rfl rfl rfl rfl rfl ?_
                    refine Tr.nil ?_
                    refine at_n ?_
                    first
                      | refine Sat.condP rfl (fun hc4 => ?_) (fun hc4 => ?_)
                      | refine Sat.condNP rfl (fun hc4 => ?_) (fun hc4 => ?_)
                      | refine Sat.cond rfl (fun hc4 => ?_) (fun hc4 => ?_)
                    ·
                      have hy3 : y.1 ≤ 7 := by omega
                      refine Sat.skip ?_
                      refine at_n ?_
                      refine Sat.seq ?_
                      refine Sat.block ?_
                      -- region 23
                      refine Sat.region ?_
                      refine Tr.move rfl rfl rfl ?_
                      refine Tr.move rfl rfl rfl ?_
                      refine Tr.move rfl rfl rfl ?_
                      refine Tr.shr_u64 rfl rfl rfl rfl (56 - 8 * y.1) (by omega) (by omega) ?_
                      refine Tr.conv rfl rfl rfl Tryz.underlying48 Tryz.underlying5 (cv_u64_u8 _) ?_
                      refine Tr.mkRow (z := u8 0) [u8 ((shr64 (UInt64.ofNat F.length * 8) (56 - 8 * y.1)).toUInt8)] (bytesV [(shr64 (UInt64.ofNat F.length * 8) (56 - 8 * y.1)).toUInt8]) rfl rfl rfl Tryz.underlying58 Sz5 Zr5 rfl rfl (by intro v hv; rw [List.mem_singleton.1 hv]; rfl) (by decide) rfl ?_
                      intro q72
                      refine Tr.appendAcc (z := u8 0) (by' := 1) (bytesV [(shr64 (UInt64.ofNat F.length * 8) (56 - 8 * y.1)).toUInt8]) rfl rfl rfl rfl rfl Tryz.underlying58 Tryz.underlying58 Sz5 Zr5 (by unfold By; kernel_rfl) rfl hay (by repeat (first | exact sg_here | exact sg_end | apply sg_there | apply sg_seg)) (fun w h => SeesP.of (sees_own h (by first | exact mem0 | exact mem1 | exact mem2 | exact mem3 | exact mem4 | exact mem5 | exact mem6 | exact mem7 | (repeat (first | exact List.mem_cons_self | refine List.mem_cons_of_mem _ ?_ | refine mem_seg ?_))))) (fun e => by cases e) (bytesV_cell _) (by omega) (by omega) (by rfl) ?_
                      intro s73 bl73 hac73
                      refine Tr.assign rfl rfl rfl ?_
                      refine Tr.nil ?_
                      refine bl_n ?_
                      refine at_n ?_
                      -- region 22
                      refine Sat.region ?_
                      refine Tr.move rfl rfl rfl ?_
                      refine Tr.sub_i64 rfl rfl rfl rfl (by omega) ?_
                      refine Tr.assign rfl rfl rfl ?_
                      refine Tr.nil ?_
                      refine at_n ?_
                      refine ⟨(y.1 + 1, s73, bl73), ⟨by simp only []; omega, ?_⟩, by simp only []; omega, weak_perm (wk1 rfl (wk1 rfl (wk1 rfl (wk1 (congrArg (fun z => some (i64 z)) (by omega)) (wk1 rfl (wk1 rfl wk0)))))) (pm_seg (by repeat (first | exact sg_here | exact sg_end | apply sg_there | apply sg_seg)) pm_nil)⟩
                      rw [show beUp (UInt64.ofNat F.length * 8) (y.1 + 1) = beUp (UInt64.ofNat F.length * 8) y.1 ++ [(shr64 (UInt64.ofNat F.length * 8) (56 - 8 * y.1)).toUInt8] from rfl, ← List.append_assoc, bytesV_app]
                      exact hac73
                    ·
                      have hy3 : y.1 = 8 := by omega
                      rw [hy3] at hay
                      refine Sat.exit ?_
                      refine at_x ?_
                      refine at_x ?_
                      refine bl_h ?_
                      refine bl_n ?_
                      refine at_n ?_
                      -- region 24
                      refine Sat.region ?_
                      refine Tr.add_i64 rfl rfl rfl rfl (by omega) ?_
                      refine Tr.move rfl rfl rfl ?_
                      refine Tr.nil ?_
                      refine at_n (SRounds.more ?_)
                      refine Sat.seq ?_
                      -- region 18
                      refine Sat.region ?_
                      refine Tr.lss rfl rfl rfl rfl rfl ?_
                      refine Tr.nil ?_
                      refine at_n ?_
                      refine Sat.seq ?_
                      refine Sat.cond_f rfl (rfl) ?_
                      refine Sat.exit ?_
                      refine at_x ?_
                      refine at_x ?_
                      refine bl_h ?_
                      refine at_n ?_
                      refine Sat.seq ?_
                      -- region 25
                      refine Sat.region ?_
                      refine Tr.move rfl rfl rfl ?_
                      refine Tr.assign rfl rfl rfl ?_
                      refine Tr.nil ?_
                      refine at_n ?_
                      refine Sat.ret ?_
                      refine en_r ?_
                      refine end_perm (out := (y.2.2 ++ [])) (res_tmp rfl rfl) (pm_seg (by repeat (first | exact sg_here | exact sg_end | apply sg_there | apply sg_seg)) pm_nil) ?_
                      refine ⟨y.2.1, rfl, ?_⟩
                      have e8 : UInt64.ofNat F.length * 8 = UInt64.ofNat (8 * F.length) := by
                        apply UInt64.toNat_inj.1
                        rw [mul8_nat (by rw [ofNat_nat (by omega)]; omega), ofNat_nat (by omega), ofNat_nat (by omega)]; omega
                      rw [e8] at hay
                      rw [padB_length, padB]
                      simpa [Nat.add_assoc, Nat.add_comm, Nat.add_left_comm] using hay

end Go.Proofs.YtejjamifnombhaaGreat
end

section
namespace Go.Proofs.YtejjamifnombhaaGreat
open Go Hw
set_option linter.unusedVariables false
set_option linter.unusedSimpArgs false

set_option maxRecDepth 100000 in
set_option maxHeartbeats 1000000 in
theorem mk_chunk (p : Option Addr) (n c : Nat) : Meets Tryz.prog 254 [.slice p n c, i64 128] [] (fun _ => True) (fun v out => ∃ b1 b2, v = .func (.func 261) #[] #[ptr b1 0, ptr b2 0] ∧ out = [⟨b1, [.slice p n c], 58, 1⟩, ⟨b2, [i64 128], 3, 1⟩]) := by
  intro W hW
  refine calls_of (hp0 := []) Tryz.func254 rfl 9 Tryz.ntmps254 rfl (HRep.nil _) ?_
  refine Sat.seq ?_
  -- region 0
  refine Sat.region ?_
  refine Tr.box1 rfl rfl rfl ?_
  intro n2 hn2 hf2
  refine Tr.box1 rfl rfl rfl ?_
  intro n3 hn3 hf3
  refine Tr.assign rfl rfl rfl ?_
  refine Tr.nil ?_
  refine at_n ?_
  refine Sat.seq ?_
  refine Sat.seq ?_
  -- region 1
  refine Sat.region ?_
  refine Tr.load1 rfl rfl rfl Tryz.underlying3 rfl (by first | exact mem0 | exact mem1 | exact mem2 | exact mem3 | exact mem4 | exact mem5 | exact mem6 | exact mem7 | (repeat (first | exact List.mem_cons_self | refine List.mem_cons_of_mem _ ?_ | refine mem_seg ?_))) (by first | rfl | exact get_words (by first | omega | (simp; done) | (simp; omega)) | exact get_bytes (by first | omega | (simp; done) | (simp; omega)) | exact get_ints (by first | omega | (simp; done) | (simp; omega))) ?_
  refine Tr.lss rfl rfl rfl rfl rfl ?_
  refine Tr.nil ?_
  refine at_n ?_
  refine Sat.cond_f rfl (by decide) ?_
  refine Sat.skip ?_
  refine at_n ?_
  refine Sat.seq ?_
  -- region 3
  refine Sat.region ?_
  refine Tr.makeFunc rfl rfl rfl rfl ?_
  refine Tr.assign rfl rfl rfl ?_
  refine Tr.nil ?_
  refine at_n ?_
  refine Sat.ret ?_
  refine en_r ?_
  refine end_perm (out := (⟨n2, [.slice p n c], 58, 1⟩ :: (⟨n3, [i64 128], 3, 1⟩ :: []))) (res_tmp rfl rfl) (pm_cons (by repeat (first | exact rem_here | apply rem_there | apply rem_seg)) (pm_cons (by repeat (first | exact rem_here | apply rem_there | apply rem_seg)) pm_nil)) ?_
  exact ⟨n2, n3, rfl, by simp⟩


/-- a chunk of 128 bytes -/
def encC (q i : Nat) : Value := .slice (some ⟨q, 128 * i, none⟩) 128 128
theorem encC_eq (q i : Nat) : (.slice (some ⟨q, if 128 * i + 128 = 128 * i then 0 else 0 + 128 * i * 1, none⟩) (128 * i + 128 - 128 * i) (128 * i + 128 - 128 * i) : Value) = encC q i := by
  have e1 : 128 * i + 128 - 128 * i = 128 := by omega
  have e2 : 0 + 128 * i * 1 = 128 * i := by omega
  rw [if_neg (by omega), e1, e2]; rfl


set_option maxRecDepth 100000 in
set_option maxHeartbeats 2000000 in
theorem chunk_iter (l b1 b2 q n c K : Nat) (X : Nat → List Blk) (names : List Nat) (hnk : n = 128 * K) (hnc : n ≤ c) (hbig : n ≤ 1000000) : Meets Tryz.prog 261 [.func (.yield l) #[] #[], ptr b1 0, ptr b2 0] names (fun W => HRep ⟨Tryz.prog, W, 0, names, [], []⟩ (⟨b1, [.slice (some ⟨q, 0, none⟩) n c], 58, 1⟩ :: ⟨b2, [i64 128], 3, 1⟩ :: X 0) W ∧ ∀ i, i < K → ∀ W2, HRep ⟨Tryz.prog, W, 0, names, [], []⟩ (⟨b1, [.slice (some ⟨q, 0, none⟩) n c], 58, 1⟩ :: ⟨b2, [i64 128], 3, 1⟩ :: X i) W2 → YieldAt Fence.wide 0 Tryz.prog l #[encC q i] W2 fun e W3 => e = .returned (.bool true) ∧ HRep ⟨Tryz.prog, W, 0, names, [], []⟩ (⟨b1, [.slice (some ⟨q, 0, none⟩) n c], 58, 1⟩ :: ⟨b2, [i64 128], 3, 1⟩ :: X (i + 1)) W3) (fun v out => v = .tuple #[] ∧ out = ⟨b1, [.slice (some ⟨q, 0, none⟩) n c], 58, 1⟩ :: ⟨b2, [i64 128], 3, 1⟩ :: X K) := by
  intro W hW
  refine calls_of (hp0 := ⟨b1, [.slice (some ⟨q, 0, none⟩) n c], 58, 1⟩ :: ⟨b2, [i64 128], 3, 1⟩ :: X 0) Tryz.func261 rfl 31 Tryz.ntmps261 rfl (HRep.reN hW.1) ?_
  refine Sat.seq ?_
  -- region 0
  refine Sat.region ?_
  refine Tr.assign rfl rfl rfl ?_
  refine Tr.nil ?_
  refine at_n ?_
  refine Sat.block ?_
  refine Sat.loop (ι := Nat) (fun i => ⟨[(0, .func (.yield l) #[] #[]), (1, ptr b1 0), (2, ptr b2 0), (4, i64 (128 * (i : Int)))], (⟨b1, [.slice (some ⟨q, 0, none⟩) n c], 58, 1⟩ :: (⟨b2, [i64 128], 3, 1⟩ :: (X i ++ [])))⟩) (fun i => i ≤ K) (fun i => K - i) (0) ?_ ?_ ?_
  · exact Nat.zero_le _
  · exact weak_perm (wk1 rfl (wk1 rfl (wk1 rfl (wk1 rfl wk0)))) (pm_cons (by repeat (first | exact rem_here | apply rem_there | apply rem_seg)) (pm_cons (by repeat (first | exact rem_here | apply rem_there | apply rem_seg)) (pm_seg (by repeat (first | exact sg_here | exact sg_end | apply sg_there | apply sg_seg)) pm_nil)))
  ·
    rintro i hi
    refine Sat.seq ?_
    refine Sat.seq ?_
    -- region 1
    refine Sat.region ?_
    refine Tr.move rfl rfl rfl ?_
    refine Tr.load1 rfl rfl rfl Tryz.underlying58 rfl (by first | exact mem0 | exact mem1 | exact mem2 | exact mem3 | exact mem4 | exact mem5 | exact mem6 | exact mem7 | (repeat (first | exact List.mem_cons_self | refine List.mem_cons_of_mem _ ?_ | refine mem_seg ?_))) (by first | rfl | exact get_words (by first | omega | (simp; done) | (simp; omega)) | exact get_bytes (by first | omega | (simp; done) | (simp; omega)) | exact get_ints (by first | omega | (simp; done) | (simp; omega))) ?_
    refine Tr.lenSl rfl rfl rfl Tryz.underlying58 ?_
    refine Tr.lss rfl rfl rfl rfl rfl ?_
    refine Tr.nil ?_
    refine at_n ?_
    first
      | refine Sat.condP rfl (fun hc0 => ?_) (fun hc0 => ?_)
      | refine Sat.condNP rfl (fun hc0 => ?_) (fun hc0 => ?_)
      | refine Sat.cond rfl (fun hc0 => ?_) (fun hc0 => ?_)
    ·
      have hi3 : i < K := by omega
      refine Sat.skip ?_
      refine at_n ?_
      refine Sat.seq ?_
      refine Sat.block ?_
      refine Sat.seq ?_
      -- region 3
      refine Sat.draw [(1, 0), (1, 1), (0, 2), (0, 3), (0, 4), (0, 5), (0, 6)] Mixed (by kernel_rfl) ?_
      refine Tr.load1 rfl rfl rfl Tryz.underlying3 rfl (by first | exact mem0 | exact mem1 | exact mem2 | exact mem3 | exact mem4 | exact mem5 | exact mem6 | exact mem7 | (repeat (first | exact List.mem_cons_self | refine List.mem_cons_of_mem _ ?_ | refine mem_seg ?_))) (by first | rfl | exact get_words (by first | omega | (simp; done) | (simp; omega)) | exact get_bytes (by first | omega | (simp; done) | (simp; omega)) | exact get_ints (by first | omega | (simp; done) | (simp; omega))) ?_
      refine Tr.load1 rfl rfl rfl Tryz.underlying58 rfl (by first | exact mem0 | exact mem1 | exact mem2 | exact mem3 | exact mem4 | exact mem5 | exact mem6 | exact mem7 | (repeat (first | exact List.mem_cons_self | refine List.mem_cons_of_mem _ ?_ | refine mem_seg ?_))) (by first | rfl | exact get_words (by first | omega | (simp; done) | (simp; omega)) | exact get_bytes (by first | omega | (simp; done) | (simp; omega)) | exact get_ints (by first | omega | (simp; done) | (simp; omega))) ?_
      refine Tr.move rfl rfl rfl ?_
      refine Tr.sliceLoN (128*i) rfl rfl rfl rfl (by omega) (by omega) (by omega) Tryz.underlying58 Sz5 ?_
      refine Tr.lenSl rfl rfl rfl Tryz.underlying58 ?_
      refine Tr.min2 rfl rfl rfl rfl (show Value.int .i64 (if ((n - 128 * i : Nat) : Int) < (128 : Int) then ((n - 128 * i : Nat) : Int) else (128 : Int)) = i64 128 from by rw [if_neg (by omega)]) ?_
      refine Tr.assign rfl rfl rfl ?_
      refine Tr.nil ?_
      refine at_n ?_
      refine Sat.seq ?_
      -- region 4
      refine Sat.regionY 10 rfl (by kernel_rfl) ?_
      refine Tr.move rfl rfl rfl ?_
      refine Tr.load1 rfl rfl rfl Tryz.underlying58 rfl (by first | exact mem0 | exact mem1 | exact mem2 | exact mem3 | exact mem4 | exact mem5 | exact mem6 | exact mem7 | (repeat (first | exact List.mem_cons_self | refine List.mem_cons_of_mem _ ?_ | refine mem_seg ?_))) (by first | rfl | exact get_words (by first | omega | (simp; done) | (simp; omega)) | exact get_bytes (by first | omega | (simp; done) | (simp; omega)) | exact get_ints (by first | omega | (simp; done) | (simp; omega))) ?_
      refine Tr.move rfl rfl rfl ?_
      refine Tr.move rfl rfl rfl ?_
      refine Tr.move rfl rfl rfl ?_
      refine Tr.add_i64 rfl rfl rfl rfl (by omega) ?_
      refine Tr.move rfl rfl rfl ?_
      refine Tr.move rfl rfl rfl ?_
      refine Tr.add_i64 rfl rfl rfl rfl (by omega) ?_
      refine Tr.slice3 (128*i) (128*i+128) (128*i+128) rfl rfl rfl rfl rfl rfl (by omega) (by omega) (by omega) (by omega) (by omega) (by omega) Tryz.underlying58 Sz5 ?_
      refine Tr.nil ?_
      refine yop rfl rfl (congrArg some (encC_eq q i)) (fun w h => hW.2 i hi3 w (by rw [List.append_nil] at h; exact h)) ?_
      refine Tr.not rfl rfl rfl ?_
      refine Tr.nil ?_
      refine at_n ?_
      refine Sat.cond_f rfl (rfl) ?_
      refine Sat.skip ?_
      refine bl_n ?_
      refine at_n ?_
      -- region 2
      refine Sat.region ?_
      refine Tr.move rfl rfl rfl ?_
      refine Tr.load1 rfl rfl rfl Tryz.underlying3 rfl (by first | exact mem0 | exact mem1 | exact mem2 | exact mem3 | exact mem4 | exact mem5 | exact mem6 | exact mem7 | (repeat (first | exact List.mem_cons_self | refine List.mem_cons_of_mem _ ?_ | refine mem_seg ?_))) (by first | rfl | exact get_words (by first | omega | (simp; done) | (simp; omega)) | exact get_bytes (by first | omega | (simp; done) | (simp; omega)) | exact get_ints (by first | omega | (simp; done) | (simp; omega))) ?_
      refine Tr.add_i64 rfl rfl rfl rfl (by omega) ?_
      refine Tr.assign rfl rfl rfl ?_
      refine Tr.nil ?_
      refine at_n ?_
      exact ⟨i + 1, by omega, by omega, weak_perm (wk1 rfl (wk1 rfl (wk1 rfl (wk1 (congrArg (fun z => some (i64 z)) (by omega)) wk0)))) (pm_cons (by repeat (first | exact rem_here | apply rem_there | apply rem_seg)) (pm_cons (by repeat (first | exact rem_here | apply rem_there | apply rem_seg)) (pm_seg (by repeat (first | exact sg_here | exact sg_end | apply sg_there | apply sg_seg)) pm_nil)))⟩
    ·
      have hi3 : i = K := by omega
      refine Sat.exit ?_
      refine at_x ?_
      refine at_x ?_
      refine bl_h ?_
      refine en_n ?_
      refine end_perm (out := (⟨b1, [.slice (some ⟨q, 0, none⟩) n c], 58, 1⟩ :: (⟨b2, [i64 128], 3, 1⟩ :: (X i ++ [])))) (res_none rfl) (pm_cons (by repeat (first | exact rem_here | apply rem_there | apply rem_seg)) (pm_cons (by repeat (first | exact rem_here | apply rem_there | apply rem_seg)) (pm_seg (by repeat (first | exact sg_here | exact sg_end | apply sg_there | apply sg_seg)) pm_nil))) ?_
      rw [hi3]; exact ⟨rfl, by simp⟩


theorem chunk_seq {l b1 b2 q n c K : Nat} {X : Nat → List Blk} {names : List Nat} (hnk : n = 128 * K) (hnc : n ≤ c) (hbig : n ≤ 1000000) (hnm : ∀ i, (⟨b1, [.slice (some ⟨q, 0, none⟩) n c], 58, 1⟩ :: ⟨b2, [i64 128], 3, 1⟩ :: X i).map (·.n) = names) (w1 : World) (hh : HRep ⟨Tryz.prog, w1, 0, names, [], []⟩ (⟨b1, [.slice (some ⟨q, 0, none⟩) n c], 58, 1⟩ :: ⟨b2, [i64 128], 3, 1⟩ :: X 0) w1)
    (hy : ∀ i, i < K → ∀ W2, HRep ⟨Tryz.prog, w1, 0, names, [], []⟩ (⟨b1, [.slice (some ⟨q, 0, none⟩) n c], 58, 1⟩ :: ⟨b2, [i64 128], 3, 1⟩ :: X i) W2 → YieldAt Fence.wide 0 Tryz.prog l #[encC q i] W2 fun e W3 => e = .returned (.bool true) ∧ HRep ⟨Tryz.prog, w1, 0, names, [], []⟩ (⟨b1, [.slice (some ⟨q, 0, none⟩) n c], 58, 1⟩ :: ⟨b2, [i64 128], 3, 1⟩ :: X (i + 1)) W3) :
    CallsIn Fence.wide 0 Tryz.prog 261 (#[.func (.yield l) #[] #[]] ++ #[ptr b1 0, ptr b2 0]) w1 fun e W' => (∃ v, e = .returned v) ∧ HRep ⟨Tryz.prog, w1, 0, names, [], []⟩ (⟨b1, [.slice (some ⟨q, 0, none⟩) n c], 58, 1⟩ :: ⟨b2, [i64 128], 3, 1⟩ :: X K) W' :=
  callsIn_wide.2 ((chunk_iter l b1 b2 q n c K X names hnk hnc hbig w1 ⟨hh, hy⟩).mono fun e W' ⟨v, out, he, ⟨_, ho⟩, hr⟩ => ⟨⟨v, he⟩, by subst ho; exact HRep.ofRet hr (hnm K)⟩)
theorem take_len {xs : List UInt8} {i K : Nat} (h : xs.length = 128 * K) (hi : i < K) : ((xs.drop (128 * i)).take 128).length = 128 := by simp; omega


set_option maxRecDepth 100000 in
set_option maxHeartbeats 4000000 in
theorem sha_whole (st : List UInt64) (hst : st.length = 8) (k : List UInt64) (hk : Hid (kW = k)) (hk80 : k.length = 80) (p : Option Addr) (n c : Nat) (ss : List Sl) (ls : List (List UInt8)) (hss : ss.length = n) (hls : ls.length = n) (hsl : ∀ j, j < n → (ss.getD j Sl.nil).n = (ls.getD j []).length ∧ ((ss.getD j Sl.nil).p = none → (ss.getD j Sl.nil).n = 0)) (F : List UInt8) (hF : ls.flatten = F) (htot : F.length ≤ 90000) (hn : n ≤ 1000000)  : Meets Tryz.prog 246 [agg (wordsV st), .slice p n c] [] (fun W => SeesP W p (ss.map Sl.v) ∧ ∀ j, j < n → SeesP W (ss.getD j Sl.nil).p (bytesV (ls.getD j []))) (fun v out => v = agg (wordsV (allW k st F)) ∧ out = []) := by
  intro W hW
  have hpl := padB_length F
  have hpz := padZ_lt F.length
  have hpm := padB_mod F
  have hst2 : (runW k st (padB F) ((padB F).length / 128)).length = 8 := by rw [runW_length]; exact hst
  refine calls_range Tryz.func246 rfl 16 Tryz.ntmps246 rfl ?_
  -- region 0
  refine Sat.region ?_
  refine Tr.boxA rfl rfl ?_
  intro n2 hn2 hf2
  refine Tr.alloc (cs := (wordsV (List.replicate 8 0))) rfl Zr263 rfl ?_
  intro n4 hn4 hf4
  refine Tr.nil ?_
  refine at_n ?_
  -- region 1
  refine Sat.region ?_
  refine Tr.move rfl rfl rfl ?_
  refine Tr.call4 rfl rfl rfl rfl rfl Body255 (sha_padded p n c ss ls hss hls hsl F hF htot hn) (fun w h => ⟨seesP_ext h rfl hW.1, fun j hj => seesP_ext h rfl (hW.2 j hj)⟩) ?_
  rintro v7 out7 ⟨s7, rfl, hac7⟩
  obtain ⟨q7, c7, rfl, hc7, rfl⟩ := acc_pos hac7 (by omega)
  refine Tr.call4 rfl rfl rfl rfl rfl Body254 (mk_chunk (some ⟨q7, 0, none⟩) (padB F).length c7) (fun _ _ => trivial) ?_
  rintro v8 out8 ⟨b1, b2, rfl, rfl⟩
  refine Tr.nil ?_
  refine at_n ?_
  refine ⟨_, _, fun i => ⟨b1, [.slice (some ⟨q7, 0, none⟩) (padB F).length c7], 58, 1⟩ :: ⟨b2, [i64 128], 3, 1⟩ :: [⟨q7, bytesV (padB F), 5, c7 * 1⟩, ⟨n4, wordsV (List.replicate 8 0), 263, (wordsV (List.replicate 8 0)).length⟩, ⟨n2, wordsV (runW k st (padB F) i), 263, (wordsV st).length⟩], [b1, b2, q7, n4, n2], encC q7, ((padB F).length / 128), fun sl i => (5, encC q7 i) :: (9, encC q7 i) :: sl, rfl, rfl, Body261, (by decide), fun _ => rfl, ?_, ?_, ?_, ?_⟩
  ·
    intro l w1 hh hy
    exact chunk_seq (X := fun i => [⟨q7, bytesV (padB F), 5, c7 * 1⟩, ⟨n4, wordsV (List.replicate 8 0), 263, (wordsV (List.replicate 8 0)).length⟩, ⟨n2, wordsV (runW k st (padB F) i), 263, (wordsV st).length⟩]) hpm hc7 (by omega) (fun _ => rfl) w1 hh hy
  ·
    intro i hi l W2 hh
    -- region 2
    refine SatI.region (by kernel_rfl) ?_
    refine Tr.assign rfl rfl rfl ?_
    refine Tr.nil ?_
    exact ⟨rfl, rfl⟩
  ·
    intro i hi l W2 hh
    obtain ⟨A, hA⟩ : ∃ A, Hid (schA ((padB F).drop (128 * i) |>.take 128) 128 = A) := ⟨_, ⟨rfl⟩⟩
    obtain ⟨w, hwp⟩ : ∃ w, Hid (schB A 64 = w) := ⟨_, ⟨rfl⟩⟩
    obtain ⟨R, hR⟩ : ∃ R, Hid (rnds k w (W8.of (runW k st (padB F) i)) 80 = R) := ⟨_, ⟨rfl⟩⟩
    have hw : w.length = 80 := by rw [← hwp.out, schB_length, ← hA.out]; exact schA_length _ 128
    have e1 : addUp (runW k st (padB F) i) R.l 8 = runW k st (padB F) (i + 1) := by rw [runW, pieceW, schW, hA.out, hwp.out, hR.out]
    refine SatI.block ?_
    -- region 3
    refine SatI.draw [(1, 0), (0, 1), (0, 2), (1, 3), (3, 4), (4, 5)] Mixed (by kernel_rfl) (by kernel_rfl) ?_
    refine Tr.loadAll rfl rfl rfl Tryz.underlying263 rfl Sz263 (by first | exact mem0 | exact mem1 | exact mem2 | exact mem3 | exact mem4 | exact mem5 | exact mem6 | exact mem7 | (repeat (first | exact List.mem_cons_self | refine List.mem_cons_of_mem _ ?_ | refine mem_seg ?_))) (by rw [List.length_map, runW_length]; exact hst) ?_
    refine Tr.move rfl rfl rfl ?_
    refine Tr.s2a rfl rfl rfl Tryz.underlying274 (by omega) ?_
    refine Tr.loadN (bytesV ((padB F).drop (128 * i) |>.take 128)) rfl rfl rfl Tryz.underlying274 rfl Sz274 (by first | exact mem0 | exact mem1 | exact mem2 | exact mem3 | exact mem4 | exact mem5 | exact mem6 | exact mem7 | (repeat (first | exact List.mem_cons_self | refine List.mem_cons_of_mem _ ?_ | refine mem_seg ?_))) (by rw [← List.map_drop, ← List.map_take]) (by rw [List.length_map]; exact take_len hpm hi) ?_
    refine Tr.callV rfl rfl rfl rfl Body256 (sha_Piece (runW k st (padB F) i) (by rw [runW_length]; exact hst) ((padB F).drop (128 * i) |>.take 128) (take_len hpm hi) A w k R hA hwp hw hk hk80 hR) (fun _ _ => trivial) ?_
    refine Tr.storeAll rfl rfl rfl rfl (by simp [isCell]) Sz263 (by first | (rw [List.length_map, addUp_length, runW_length]; exact hst) | (rw [List.length_map, runW_length]; exact hst) | (rw [runW_length]; exact hst)) (by first | exact mem0 | exact mem1 | exact mem2 | exact mem3 | exact mem4 | exact mem5 | exact mem6 | exact mem7 | (repeat (first | exact List.mem_cons_self | refine List.mem_cons_of_mem _ ?_ | refine mem_seg ?_))) (by first | (rw [List.length_map, addUp_length, runW_length]; exact hst) | (rw [List.length_map, runW_length]; exact hst)) (by first | exact upd0 | exact upd1 | exact upd2 | exact upd3 | exact upd4 | exact upd5 | exact upd6 | exact upd7 | (repeat (first | exact upd0 | apply Upd.tail | apply Upd.seg))) ?_
    refine Tr.nil ?_
    rw [e1]
  ·
    intro D W2
    refine Sat.seq ?_
    -- region 4
    refine Sat.region ?_
    first
      | refine Tr.loadAll rfl rfl rfl Tryz.underlying263 rfl Sz263 (by first | exact mem0 | exact mem1 | exact mem2 | exact mem3 | exact mem4 | exact mem5 | exact mem6 | exact mem7 | (repeat (first | exact List.mem_cons_self | refine List.mem_cons_of_mem _ ?_ | refine mem_seg ?_))) (by first | assumption | (simp [hst, hst2]; done) | (rw [bytesV, List.length_map]; assumption)) ?_
      | refine Tr.loadN _ rfl rfl rfl Tryz.underlying263 rfl Sz263 (by first | exact mem0 | exact mem1 | exact mem2 | exact mem3 | exact mem4 | exact mem5 | exact mem6 | exact mem7 | (repeat (first | exact List.mem_cons_self | refine List.mem_cons_of_mem _ ?_ | refine mem_seg ?_))) (by exact rfl) (by first | assumption | (simp [hst, hst2]; done) | (rw [bytesV, List.length_map]; assumption)) ?_
    first
      | refine Tr.storeAll rfl rfl rfl rfl (by first | exact bytesV_cell _ | simp [isCell]) Sz263 (by first | assumption | (simp [hst, hst2]; done) | (rw [bytesV, List.length_map]; assumption)) (by first | exact mem0 | exact mem1 | exact mem2 | exact mem3 | exact mem4 | exact mem5 | exact mem6 | exact mem7 | (repeat (first | exact List.mem_cons_self | refine List.mem_cons_of_mem _ ?_ | refine mem_seg ?_))) (by first | assumption | (simp [hst, hst2]; done) | (rw [bytesV, List.length_map]; assumption)) (by first | exact upd0 | exact upd1 | exact upd2 | exact upd3 | exact upd4 | exact upd5 | exact upd6 | exact upd7 | (repeat (first | exact upd0 | apply Upd.tail | apply Upd.seg))) ?_
      | refine Tr.storeN _ rfl rfl rfl rfl rfl (by first | exact bytesV_cell _ | simp [isCell]) Sz263 (by first | assumption | (simp [hst, hst2]; done) | (rw [bytesV, List.length_map]; assumption)) (by first | exact mem0 | exact mem1 | exact mem2 | exact mem3 | exact mem4 | exact mem5 | exact mem6 | exact mem7 | (repeat (first | exact List.mem_cons_self | refine List.mem_cons_of_mem _ ?_ | refine mem_seg ?_))) (by first | assumption | (simp [hst, hst2]; done) | (rw [bytesV, List.length_map]; assumption)) (by exact rfl) (by first | exact upd0 | exact upd1 | exact upd2 | exact upd3 | exact upd4 | exact upd5 | exact upd6 | exact upd7 | (repeat (first | exact upd0 | apply Upd.tail | apply Upd.seg))) ?_
    refine Tr.nil ?_
    refine at_n ?_
    refine Sat.ret ?_
    refine enA_r ?_
    refine ⟨_, [], fun W names => res_cell rfl rfl Tryz.underlying263 rfl Sz263 (by first | exact mem0 | exact mem1 | exact mem2 | exact mem3 | exact mem4 | exact mem5 | exact mem6 | exact mem7 | (repeat (first | exact List.mem_cons_self | refine List.mem_cons_of_mem _ ?_ | refine mem_seg ?_))) (by simp [hst, hst2]), (by simp), (by simp), ?_⟩
    exact ⟨rfl, rfl⟩


theorem startW_length : startW.length = 8 := rfl
def xorUp : Nat → List UInt64
  | 0 => startW
  | i + 1 => (xorUp i).set i ((xorUp i).getD i 0 ^^^ 11936128518282651045)
theorem xorUp_length : ∀ i, (xorUp i).length = 8
  | 0 => rfl
  | i + 1 => by rw [xorUp, List.length_set, xorUp_length i]
/-- the bytes of 'SHA-512/256' -/
def shaTag : List UInt8 := [83, 72, 65, 45, 53, 49, 50, 47, 50, 53, 54]
def shaI : List UInt64 := allW kW (xorUp 8) shaTag
/-- SHA-512/256 -/
def sha256 (l : List UInt8) : List UInt8 := (sumUp (allW kW shaI l) 64).take 32
theorem sha256_length (l : List UInt8) : (sha256 l).length = 32 := by rw [sha256, List.length_take, sumUp_length]; rfl


set_option maxRecDepth 100000 in
set_option maxHeartbeats 4000000 in
theorem sha_StartShort (k s0 i0 : List UInt64) (G : List UInt8) (hk : Hid (kW = k)) (hk80 : k.length = 80) (hs0 : Hid (xorUp 8 = s0)) (hs8 : s0.length = 8) (hG : Hid (shaTag = G)) (hGl : G.length = 11) (hi0 : Hid (allW k s0 G = i0)) (hi8 : i0.length = 8)  : Meets Tryz.prog 247 [] [] (fun _ => True) (fun v out => v = agg (wordsV i0) ∧ out = []) := by
  intro W hW
  refine calls_of (hp0 := []) Tryz.func247 rfl 18 Tryz.ntmps247 rfl (HRep.nil _) ?_
  refine Sat.seq ?_
  -- region 0
  refine Sat.region ?_
  refine Tr.alloc (cs := (wordsV (List.replicate 8 0))) rfl Zr263 rfl ?_
  intro n0 hn0 hf0
  refine Tr.nil ?_
  refine at_n ?_
  refine Sat.seq ?_
  -- region 1
  refine Sat.region ?_
  refine Tr.callV rfl rfl rfl rfl Body257 (sha_Start) (fun _ _ => trivial) ?_
  refine Tr.alloc (cs := (wordsV (List.replicate 8 0))) rfl Zr263 rfl ?_
  intro n1 hn1 hf1
  first
    | refine Tr.storeAll rfl rfl rfl rfl (by first | exact bytesV_cell _ | simp [isCell]) Sz263 (by first | assumption | (simp [xorUp_length, hs8, hi8, startW_length]; done) | (rw [bytesV, List.length_map]; assumption)) (by first | exact mem0 | exact mem1 | exact mem2 | exact mem3 | exact mem4 | exact mem5 | exact mem6 | exact mem7 | (repeat (first | exact List.mem_cons_self | refine List.mem_cons_of_mem _ ?_ | refine mem_seg ?_))) (by first | assumption | (simp [xorUp_length, hs8, hi8, startW_length]; done) | (rw [bytesV, List.length_map]; assumption)) (by first | exact upd0 | exact upd1 | exact upd2 | exact upd3 | exact upd4 | exact upd5 | exact upd6 | exact upd7 | (repeat (first | exact upd0 | apply Upd.tail | apply Upd.seg))) ?_
    | refine Tr.storeN _ rfl rfl rfl rfl rfl (by first | exact bytesV_cell _ | simp [isCell]) Sz263 (by first | assumption | (simp [xorUp_length, hs8, hi8, startW_length]; done) | (rw [bytesV, List.length_map]; assumption)) (by first | exact mem0 | exact mem1 | exact mem2 | exact mem3 | exact mem4 | exact mem5 | exact mem6 | exact mem7 | (repeat (first | exact List.mem_cons_self | refine List.mem_cons_of_mem _ ?_ | refine mem_seg ?_))) (by first | assumption | (simp [xorUp_length, hs8, hi8, startW_length]; done) | (rw [bytesV, List.length_map]; assumption)) (by exact rfl) (by first | exact upd0 | exact upd1 | exact upd2 | exact upd3 | exact upd4 | exact upd5 | exact upd6 | exact upd7 | (repeat (first | exact upd0 | apply Upd.tail | apply Upd.seg))) ?_
  refine Tr.nil ?_
  refine at_n ?_
  refine Sat.seq ?_
  refine Sat.seq ?_
  -- region 2
  refine Sat.region ?_
  refine Tr.move rfl rfl rfl ?_
  refine Tr.nil ?_
  refine at_n ?_
  refine Sat.block ?_
  refine Sat.loop (ι := Nat) (fun j => ⟨[(0, ptr n0 0), (1, ptr n1 0), (4, i64 (j : Int))], [⟨n1, wordsV (xorUp j), 263, 8⟩, ⟨n0, wordsV (List.replicate 8 0), 263, 8⟩]⟩) (fun j => j ≤ 8) (fun j => 8 - j) (0) ?_ ?_ ?_
  · omega
  · exact weak_perm (wk1 rfl (wk1 rfl (wk1 rfl wk0))) (pm_cons (by repeat (first | exact rem_here | apply rem_there | apply rem_seg)) (pm_cons (by repeat (first | exact rem_here | apply rem_there | apply rem_seg)) pm_nil))
  ·
    rintro j hi
    have hlj := xorUp_length j
    refine Sat.seq ?_
    -- region 3
    refine Sat.region ?_
    refine Tr.lss rfl rfl rfl rfl rfl ?_
    refine Tr.nil ?_
    refine at_n ?_
    refine Sat.seq ?_
    first
      | refine Sat.condP rfl (fun hc0 => ?_) (fun hc0 => ?_)
      | refine Sat.condNP rfl (fun hc0 => ?_) (fun hc0 => ?_)
      | refine Sat.cond rfl (fun hc0 => ?_) (fun hc0 => ?_)
    ·
      refine Sat.skip ?_
      refine at_n ?_
      refine Sat.seq ?_
      refine Sat.block ?_
      refine Sat.seq ?_
      -- region 4
      refine Sat.region ?_
      refine Tr.move rfl rfl rfl ?_
      refine Tr.assign rfl rfl rfl ?_
      refine Tr.nil ?_
      refine at_n ?_
      -- region 5
      refine Sat.region ?_
      refine Tr.move rfl rfl rfl ?_
      first
        | refine Tr.idxArr1 rfl rfl rfl rfl Tryz.underlying263 Sz48 _ rfl (by omega) ?_
        | refine Tr.idxArrO rfl rfl rfl rfl Tryz.underlying263 Sz48 _ rfl (by omega) ?_
        | refine Tr.idxArr1 rfl rfl rfl rfl Tryz.underlying263 Sz48 _ (toNat_back (by omega)) (by omega) ?_
        | refine Tr.idxArrO rfl rfl rfl rfl Tryz.underlying263 Sz48 _ (toNat_back (by omega)) (by omega) ?_
      refine Tr.load1 rfl rfl rfl Tryz.underlying48 rfl (by first | exact mem0 | exact mem1 | exact mem2 | exact mem3 | exact mem4 | exact mem5 | exact mem6 | exact mem7 | (repeat (first | exact List.mem_cons_self | refine List.mem_cons_of_mem _ ?_ | refine mem_seg ?_))) (by first | rfl | exact get_words (by first | omega | (simp [xorUp_length, hs8, hi8, startW_length]; done) | (simp [xorUp_length, hs8, hi8, startW_length]; omega)) | exact get_bytes (by first | omega | (simp [xorUp_length, hs8, hi8, startW_length]; done) | (simp [xorUp_length, hs8, hi8, startW_length]; omega)) | exact get_ints (by first | omega | (simp [xorUp_length, hs8, hi8, startW_length]; done) | (simp [xorUp_length, hs8, hi8, startW_length]; omega))) ?_
      refine Tr.xor_u64 rfl rfl rfl (show evIn _ _ = some (u64 11936128518282651045) from rfl) ?_
      first
        | refine Tr.idxArr1 rfl rfl rfl rfl Tryz.underlying263 Sz48 _ rfl (by omega) ?_
        | refine Tr.idxArrO rfl rfl rfl rfl Tryz.underlying263 Sz48 _ rfl (by omega) ?_
        | refine Tr.idxArr1 rfl rfl rfl rfl Tryz.underlying263 Sz48 _ (toNat_back (by omega)) (by omega) ?_
        | refine Tr.idxArrO rfl rfl rfl rfl Tryz.underlying263 Sz48 _ (toNat_back (by omega)) (by omega) ?_
      refine Tr.store1 rfl rfl rfl rfl rfl Sz48 (by first | exact mem0 | exact mem1 | exact mem2 | exact mem3 | exact mem4 | exact mem5 | exact mem6 | exact mem7 | (repeat (first | exact List.mem_cons_self | refine List.mem_cons_of_mem _ ?_ | refine mem_seg ?_))) (by first | (simp [xorUp_length, hs8, hi8, startW_length]; done) | (simp [xorUp_length, hs8, hi8, startW_length]; omega)) (by first | exact set_words _ _ _ | exact set_bytes _ _ _ | exact set_ints _ _ _ | rfl) (by first | exact upd0 | exact upd1 | exact upd2 | exact upd3 | exact upd4 | exact upd5 | exact upd6 | exact upd7 | (repeat (first | exact upd0 | apply Upd.tail | apply Upd.seg))) ?_
      refine Tr.nil ?_
      refine bl_n ?_
      refine at_n ?_
      -- region 6
      refine Sat.region ?_
      refine Tr.add_i64 rfl rfl rfl rfl (by omega) ?_
      refine Tr.move rfl rfl rfl ?_
      refine Tr.nil ?_
      refine at_n ?_
      exact ⟨j + 1, by omega, by omega, weak_perm (wk1 rfl (wk1 rfl (wk1 rfl wk0))) (pm_cons (by repeat (first | exact rem_here | apply rem_there | apply rem_seg)) (pm_cons (by repeat (first | exact rem_here | apply rem_there | apply rem_seg)) pm_nil))⟩
    ·
      obtain rfl : j = 8 := by omega
      rw [hs0.out]
      clear hlj
      refine Sat.exit ?_
      refine at_x ?_
      refine at_x ?_
      refine bl_h ?_
      refine at_n ?_
      refine Sat.seq ?_
      -- region 7
      refine Sat.region ?_
      first
        | refine Tr.loadAll rfl rfl rfl Tryz.underlying263 rfl Sz263 (by first | exact mem0 | exact mem1 | exact mem2 | exact mem3 | exact mem4 | exact mem5 | exact mem6 | exact mem7 | (repeat (first | exact List.mem_cons_self | refine List.mem_cons_of_mem _ ?_ | refine mem_seg ?_))) (by first | assumption | (simp [xorUp_length, hs8, hi8, startW_length]; done) | (rw [bytesV, List.length_map]; assumption)) ?_
        | refine Tr.loadN _ rfl rfl rfl Tryz.underlying263 rfl Sz263 (by first | exact mem0 | exact mem1 | exact mem2 | exact mem3 | exact mem4 | exact mem5 | exact mem6 | exact mem7 | (repeat (first | exact List.mem_cons_self | refine List.mem_cons_of_mem _ ?_ | refine mem_seg ?_))) (by exact rfl) (by first | assumption | (simp [xorUp_length, hs8, hi8, startW_length]; done) | (rw [bytesV, List.length_map]; assumption)) ?_
      refine Tr.mkRow (z := u8 0) [u8 83, u8 72, u8 65, u8 45, u8 53, u8 49, u8 50, u8 47, u8 50, u8 53, u8 54] (bytesV shaTag) rfl rfl rfl Tryz.underlying58 Sz5 Zr5 rfl rfl (by intro v hv; simp only [List.mem_cons, List.not_mem_nil, or_false] at hv; rcases hv with rfl | rfl | rfl | rfl | rfl | rfl | rfl | rfl | rfl | rfl | rfl <;> rfl) (by decide) rfl ?_
      intro q14
      rw [hG.out]
      refine Tr.constB rfl rfl rfl rfl Tryz.underlying58 Tryz.underlying5 (by first | exact mem0 | exact mem1 | exact mem2 | exact mem3 | exact mem4 | exact mem5 | exact mem6 | exact mem7 | (repeat (first | exact List.mem_cons_self | refine List.mem_cons_of_mem _ ?_ | refine mem_seg ?_))) ?_
      refine Tr.mkRow (z := .slice none 0 0) [.slice (some ⟨q14, 0, none⟩) 11 11] [.slice (some ⟨q14, 0, none⟩) 11 11] rfl rfl rfl Tryz.underlying91 Sz58 Zr58 rfl rfl (by intro v hv; rw [List.mem_singleton.1 hv]; rfl) (by decide) rfl ?_
      intro q16
      refine Tr.callV rfl rfl rfl rfl Body246 (sha_whole s0 hs8 k hk hk80 (some ⟨q16, 0, none⟩) 1 1 [⟨some ⟨q14, 0, none⟩, 11, 11⟩] [G] rfl rfl (fun j hj => (by obtain rfl : j = 0 := (by omega); exact ⟨by simp [hGl], fun e => by cases e⟩)) G (by simp) (by omega) (by decide)) (fun w h => ⟨SeesP.of (sees_own h (by first | exact mem0 | exact mem1 | exact mem2 | exact mem3 | exact mem4 | exact mem5 | exact mem6 | exact mem7 | (repeat (first | exact List.mem_cons_self | refine List.mem_cons_of_mem _ ?_ | refine mem_seg ?_)))), fun j hj => (by obtain rfl : j = 0 := (by omega); exact SeesP.of (sees_own h (by first | exact mem0 | exact mem1 | exact mem2 | exact mem3 | exact mem4 | exact mem5 | exact mem6 | exact mem7 | (repeat (first | exact List.mem_cons_self | refine List.mem_cons_of_mem _ ?_ | refine mem_seg ?_)))))⟩) ?_
      rw [hi0.out]
      first
        | refine Tr.storeAll rfl rfl rfl rfl (by first | exact bytesV_cell _ | simp [isCell]) Sz263 (by first | assumption | (simp [xorUp_length, hs8, hi8, startW_length]; done) | (rw [bytesV, List.length_map]; assumption)) (by first | exact mem0 | exact mem1 | exact mem2 | exact mem3 | exact mem4 | exact mem5 | exact mem6 | exact mem7 | (repeat (first | exact List.mem_cons_self | refine List.mem_cons_of_mem _ ?_ | refine mem_seg ?_))) (by first | assumption | (simp [xorUp_length, hs8, hi8, startW_length]; done) | (rw [bytesV, List.length_map]; assumption)) (by first | exact upd0 | exact upd1 | exact upd2 | exact upd3 | exact upd4 | exact upd5 | exact upd6 | exact upd7 | (repeat (first | exact upd0 | apply Upd.tail | apply Upd.seg))) ?_
        | refine Tr.storeN _ rfl rfl rfl rfl rfl (by first | exact bytesV_cell _ | simp [isCell]) Sz263 (by first | assumption | (simp [xorUp_length, hs8, hi8, startW_length]; done) | (rw [bytesV, List.length_map]; assumption)) (by first | exact mem0 | exact mem1 | exact mem2 | exact mem3 | exact mem4 | exact mem5 | exact mem6 | exact mem7 | (repeat (first | exact List.mem_cons_self | refine List.mem_cons_of_mem _ ?_ | refine mem_seg ?_))) (by first | assumption | (simp [xorUp_length, hs8, hi8, startW_length]; done) | (rw [bytesV, List.length_map]; assumption)) (by exact rfl) (by first | exact upd0 | exact upd1 | exact upd2 | exact upd3 | exact upd4 | exact upd5 | exact upd6 | exact upd7 | (repeat (first | exact upd0 | apply Upd.tail | apply Upd.seg))) ?_
      refine Tr.nil ?_
      refine at_n ?_
      refine Sat.ret ?_
      refine en_r ?_
      refine ⟨_, [], res_cell rfl rfl Tryz.underlying263 rfl Sz263 (by first | exact mem0 | exact mem1 | exact mem2 | exact mem3 | exact mem4 | exact mem5 | exact mem6 | exact mem7 | (repeat (first | exact List.mem_cons_self | refine List.mem_cons_of_mem _ ?_ | refine mem_seg ?_))) (by simp [xorUp_length, hs8, hi8, startW_length]), (by simp), (by simp), ?_, rfl⟩
      rfl

set_option maxRecDepth 100000 in
set_option maxHeartbeats 4000000 in
theorem sha_Sum (k s0 i0 : List UInt64) (G : List UInt8) (hk : Hid (kW = k)) (hk80 : k.length = 80) (hs0 : Hid (xorUp 8 = s0)) (hs8 : s0.length = 8) (hG : Hid (shaTag = G)) (hGl : G.length = 11) (hi0 : Hid (allW k s0 G = i0)) (hi8 : i0.length = 8) (p : Option Addr) (n c : Nat) (ss : List Sl) (ls : List (List UInt8)) (hss : ss.length = n) (hls : ls.length = n) (hsl : ∀ j, j < n → (ss.getD j Sl.nil).n = (ls.getD j []).length ∧ ((ss.getD j Sl.nil).p = none → (ss.getD j Sl.nil).n = 0)) (F : List UInt8) (hF : ls.flatten = F) (htot : F.length ≤ 90000) (hn : n ≤ 1000000) (r : List UInt64) (hr : Hid (allW k i0 F = r)) (s : List UInt8) (hs : Hid (sumUp r 64 = s))  : Meets Tryz.prog 215 [.slice p n c] [] (fun W => SeesP W p (ss.map Sl.v) ∧ ∀ j, j < n → SeesP W (ss.getD j Sl.nil).p (bytesV (ls.getD j []))) (fun v out => v = agg (bytesV (s.take 32)) ∧ out = []) := by
  intro W hW
  have hr8 : r.length = 8 := by rw [← hr.out, allW_length]; exact hi8
  have hs64 : s.length = 64 := by rw [← hs.out]; exact sumUp_length r 64
  have hs32 : (s.take 32).length = 32 := by rw [List.length_take, hs64]; rfl
  refine calls_of (hp0 := []) Tryz.func215 rfl 11 Tryz.ntmps215 rfl (HRep.nil _) ?_
  refine Sat.seq ?_
  -- region 0
  refine Sat.region ?_
  refine Tr.alloc (cs := (bytesV (List.replicate 32 0))) rfl Zr50 rfl ?_
  intro n2 hn2 hf2
  refine Tr.nil ?_
  refine at_n ?_
  refine Sat.seq ?_
  -- region 1
  refine Sat.region ?_
  refine Tr.callV rfl rfl rfl rfl Body247 (sha_StartShort k s0 i0 G hk hk80 hs0 hs8 hG hGl hi0 hi8) (fun _ _ => trivial) ?_
  refine Tr.move rfl rfl rfl ?_
  refine Tr.callV rfl rfl rfl rfl Body246 (sha_whole i0 hi8 k hk hk80 p n c ss ls hss hls hsl F hF htot hn) (fun w h => ⟨seesP_ext h rfl hW.1, fun j hj => seesP_ext h rfl (hW.2 j hj)⟩) ?_
  rw [hr.out]
  refine Tr.callV rfl rfl rfl rfl Body245 (sha_sum r hr8 s hs) (fun _ _ => trivial) ?_
  refine Tr.alloc (cs := (bytesV (List.replicate 64 0))) rfl Zr76 rfl ?_
  intro n3 hn3 hf3
  first
    | refine Tr.storeAll rfl rfl rfl rfl (by first | exact bytesV_cell _ | simp [isCell]) Sz76 (by first | assumption | (simp [hs64, hs32]; done) | (rw [bytesV, List.length_map]; assumption)) (by first | exact mem0 | exact mem1 | exact mem2 | exact mem3 | exact mem4 | exact mem5 | exact mem6 | exact mem7 | (repeat (first | exact List.mem_cons_self | refine List.mem_cons_of_mem _ ?_ | refine mem_seg ?_))) (by first | assumption | (simp [hs64, hs32]; done) | (rw [bytesV, List.length_map]; assumption)) (by first | exact upd0 | exact upd1 | exact upd2 | exact upd3 | exact upd4 | exact upd5 | exact upd6 | exact upd7 | (repeat (first | exact upd0 | apply Upd.tail | apply Upd.seg))) ?_
    | refine Tr.storeN _ rfl rfl rfl rfl rfl (by first | exact bytesV_cell _ | simp [isCell]) Sz76 (by first | assumption | (simp [hs64, hs32]; done) | (rw [bytesV, List.length_map]; assumption)) (by first | exact mem0 | exact mem1 | exact mem2 | exact mem3 | exact mem4 | exact mem5 | exact mem6 | exact mem7 | (repeat (first | exact List.mem_cons_self | refine List.mem_cons_of_mem _ ?_ | refine mem_seg ?_))) (by first | assumption | (simp [hs64, hs32]; done) | (rw [bytesV, List.length_map]; assumption)) (by exact rfl) (by first | exact upd0 | exact upd1 | exact upd2 | exact upd3 | exact upd4 | exact upd5 | exact upd6 | exact upd7 | (repeat (first | exact upd0 | apply Upd.tail | apply Upd.seg))) ?_
  refine Tr.nil ?_
  refine at_n ?_
  refine Sat.seq ?_
  -- region 2
  refine Sat.region ?_
  refine Tr.sliceArrHi 32 rfl rfl rfl rfl rfl (by decide) (by decide) Tryz.underlying76 Sz5 ?_
  refine Tr.s2a rfl rfl rfl Tryz.underlying50 (by omega) ?_
  refine Tr.loadN (bytesV (s.take 32)) rfl rfl rfl Tryz.underlying50 rfl Sz50 (by first | exact mem0 | exact mem1 | exact mem2 | exact mem3 | exact mem4 | exact mem5 | exact mem6 | exact mem7 | (repeat (first | exact List.mem_cons_self | refine List.mem_cons_of_mem _ ?_ | refine mem_seg ?_))) (by rw [List.drop_zero, ← List.map_take]) (by rw [List.length_map]; exact hs32) ?_
  first
    | refine Tr.storeAll rfl rfl rfl rfl (by first | exact bytesV_cell _ | simp [isCell]) Sz50 (by first | assumption | (simp [hs64, hs32]; done) | (rw [bytesV, List.length_map]; assumption)) (by first | exact mem0 | exact mem1 | exact mem2 | exact mem3 | exact mem4 | exact mem5 | exact mem6 | exact mem7 | (repeat (first | exact List.mem_cons_self | refine List.mem_cons_of_mem _ ?_ | refine mem_seg ?_))) (by first | assumption | (simp [hs64, hs32]; done) | (rw [bytesV, List.length_map]; assumption)) (by first | exact upd0 | exact upd1 | exact upd2 | exact upd3 | exact upd4 | exact upd5 | exact upd6 | exact upd7 | (repeat (first | exact upd0 | apply Upd.tail | apply Upd.seg))) ?_
    | refine Tr.storeN _ rfl rfl rfl rfl rfl (by first | exact bytesV_cell _ | simp [isCell]) Sz50 (by first | assumption | (simp [hs64, hs32]; done) | (rw [bytesV, List.length_map]; assumption)) (by first | exact mem0 | exact mem1 | exact mem2 | exact mem3 | exact mem4 | exact mem5 | exact mem6 | exact mem7 | (repeat (first | exact List.mem_cons_self | refine List.mem_cons_of_mem _ ?_ | refine mem_seg ?_))) (by first | assumption | (simp [hs64, hs32]; done) | (rw [bytesV, List.length_map]; assumption)) (by exact rfl) (by first | exact upd0 | exact upd1 | exact upd2 | exact upd3 | exact upd4 | exact upd5 | exact upd6 | exact upd7 | (repeat (first | exact upd0 | apply Upd.tail | apply Upd.seg))) ?_
  refine Tr.nil ?_
  refine at_n ?_
  refine Sat.ret ?_
  refine en_r ?_
  refine ⟨_, [], res_cell rfl rfl Tryz.underlying50 rfl Sz50 (by first | exact mem0 | exact mem1 | exact mem2 | exact mem3 | exact mem4 | exact mem5 | exact mem6 | exact mem7 | (repeat (first | exact List.mem_cons_self | refine List.mem_cons_of_mem _ ?_ | refine mem_seg ?_))) (by simp [hs64, hs32]), (by simp), (by simp), ?_, rfl⟩
  rfl

end Go.Proofs.YtejjamifnombhaaGreat
end

section
namespace Go.Proofs.YtejjamifnombhaaGreat
open Go Hw
set_option linter.unusedVariables false
set_option linter.unusedSimpArgs false


theorem DB.head_small {D : DB} (h : D.check = 0) : D.ls.length ≤ 16 ∧ D.ds.length ≤ 512 := by
  unfold DB.check at h
  by_cases h1 : D.head = true
  · rw [if_pos h1] at h; cases h
  · unfold DB.head at h1
    simp at h1
    omega
theorem DB.bytes_small {D : DB} (h : D.check = 0) (hd : D.ok) : D.bytes.length ≤ 5000 := by
  have hs := D.head_small h
  have hz1 := szN_pos D.seq.toNat
  have hz2 := szN_pos (UInt64.ofNat D.ls.length).toNat
  have hz3 := szN_pos (UInt64.ofNat D.ds.length).toNat
  have hfl := flatten_take_len hd.ls (Nat.le_refl D.ls.length)
  rw [List.take_length] at hfl
  simp only [DB.bytes, DB.body, List.length_append, numB_length, hd.w, hd.prev, hd.sg, hfl]
  omega
theorem db_check (B : Block) (D : DB) : Meets Tryz.prog 87 [agg B.cells] [] (fun W => BlockIs W B D) (fun v out => v = i64 D.check ∧ out = []) :=
  fun W hW => by rw [← hW.check]; exact block_check B hW.ok D.ls W hW.ls
theorem BlockIs.ext {C : Cx} {hp : List Blk} {w : World} {B : Block} {D : DB} (hh : HRep C hp w) (hl : C.lent = []) (h : BlockIs C.W0 B D) : BlockIs w B D :=
  ⟨h.ok, h.w, h.seq, h.prev, rows_ext hh hl h.ls, bytes_ext hh hl h.ds, h.sg⟩


end Go.Proofs.YtejjamifnombhaaGreat
end

section
namespace Go.Proofs.YtejjamifnombhaaGreat
open Go Hw
set_option linter.unusedSimpArgs false
set_option linter.unusedVariables false
set_option maxRecDepth 100000
/-- a vote is its own data -/
structure VoteIs (W : World) (x : Vote) (d : Vote) : Prop where
  ok : x.ok
  eq : x = d
  wf : (Lit.int .i64 d.fPhase).wf = true
theorem VoteIs.ext {C : Cx} {hp : List Blk} {w : World} {x d : Vote} (h : VoteIs C.W0 x d) (hh : HRep C hp w) (hl : C.lent = []) : VoteIs w x d := ⟨h.ok, h.eq, h.wf⟩
/-- a slice of slices of bytes -/
def ListsAt (W : World) (s : Sl) (ds : List (List UInt8)) : Prop := ∃ rs, SeqIs (fun x : Sl => [Sl.v x]) 1 BytesAt W s rs ds
theorem lists_ext {C : Cx} {hp : List Blk} {w : World} {s : Sl} {ds : List (List UInt8)} (hh : HRep C hp w) (hl : C.lent = []) (h : ListsAt C.W0 s ds) : ListsAt w s ds := by
  obtain ⟨rs, h⟩ := h
  exact ⟨rs, h.ext hh hl fun r d hd => bytes_ext hh hl hd⟩
section
variable {H : Type} {enc : TypeId × Value → H} {P : Program} {W : World} {base : Nat} {sp : Nat → Bool} {held : Bool}
end
section
variable {H : Type} {enc : TypeId × Value → H} {W : World} {base : Nat} {sp : Nat → Bool} {held : Bool}
end
section
variable {H : Type} {enc : TypeId × Value → H} {W : World} {base : Nat} {sp : Nat → Bool} {held : Bool}
end
/-- a slice of them -/
def VotesAt (W : World) (s : Sl) (ds : List Vote) : Prop := ∃ rs, SeqIs Vote.cells 132 VoteIs W s rs ds
theorem Votes_ext {C : Cx} {hp : List Blk} {w : World} {s : Sl} {ds : List Vote} (hh : HRep C hp w) (hl : C.lent = []) (h : VotesAt C.W0 s ds) : VotesAt w s ds := by
  obtain ⟨rs, h⟩ := h
  exact ⟨rs, h.ext hh hl fun r d hd => hd.ext hh hl⟩
section
variable {H : Type} {enc : TypeId × Value → H} {W : World} {base : Nat} {sp : Nat → Bool} {held : Bool}
end
section
variable {H : Type} {enc : TypeId × Value → H} {W : World} {base : Nat} {sp : Nat → Bool} {held : Bool}
end
/-- a slice of them -/
def BlocksAt (W : World) (s : Sl) (ds : List DB) : Prop := ∃ rs, SeqIs Block.cells 131 BlockIs W s rs ds
theorem Blocks_ext {C : Cx} {hp : List Blk} {w : World} {s : Sl} {ds : List DB} (hh : HRep C hp w) (hl : C.lent = []) (h : BlocksAt C.W0 s ds) : BlocksAt w s ds := by
  obtain ⟨rs, h⟩ := h
  exact ⟨rs, h.ext hh hl fun r d hd => hd.ext hh hl⟩
section
variable {H : Type} {enc : TypeId × Value → H} {W : World} {base : Nat} {sp : Nat → Bool} {held : Bool}
end
structure DCut where
  dHeight : UInt64
  dPrev : List UInt8
  dHeads : List (List UInt8)
structure CutIs (W : World) (x : Cut) (d : DCut) : Prop where
  ok : x.ok
  fHeight : x.fHeight = d.dHeight
  fPrev : x.fPrev = d.dPrev
  fHeads : RowsAt W x.fHeads 32 d.dHeads
theorem CutIs.ext {C : Cx} {hp : List Blk} {w : World} {x : Cut} {d : DCut} (h : CutIs C.W0 x d) (hh : HRep C hp w) (hl : C.lent = []) : CutIs w x d := ⟨h.ok, h.fHeight, h.fPrev, rows_ext hh hl h.fHeads⟩
section
variable {H : Type} {enc : TypeId × Value → H} {W : World} {base : Nat} {sp : Nat → Bool} {held : Bool}
end
section
variable {H : Type} {enc : TypeId × Value → H} {W : World} {base : Nat} {sp : Nat → Bool} {held : Bool}
end
/-- a slice of them -/
def CutsAt (W : World) (s : Sl) (ds : List DCut) : Prop := ∃ rs, SeqIs Cut.cells 34 CutIs W s rs ds
theorem Cuts_ext {C : Cx} {hp : List Blk} {w : World} {s : Sl} {ds : List DCut} (hh : HRep C hp w) (hl : C.lent = []) (h : CutsAt C.W0 s ds) : CutsAt w s ds := by
  obtain ⟨rs, h⟩ := h
  exact ⟨rs, h.ext hh hl fun r d hd => hd.ext hh hl⟩
section
variable {H : Type} {enc : TypeId × Value → H} {W : World} {base : Nat} {sp : Nat → Bool} {held : Bool}
end
structure DCert where
  dCut : DCut
  dVotes : List Vote
structure CertIs (W : World) (x : Cert) (d : DCert) : Prop where
  ok : x.ok
  fCut : CutIs W x.fCut d.dCut
  fVotes : VotesAt W x.fVotes d.dVotes
theorem CertIs.ext {C : Cx} {hp : List Blk} {w : World} {x : Cert} {d : DCert} (h : CertIs C.W0 x d) (hh : HRep C hp w) (hl : C.lent = []) : CertIs w x d := ⟨h.ok, (h.fCut.ext hh hl), Votes_ext hh hl h.fVotes⟩
section
variable {H : Type} {enc : TypeId × Value → H} {W : World} {base : Nat} {sp : Nat → Bool} {held : Bool}
end
section
variable {H : Type} {enc : TypeId × Value → H} {W : World} {base : Nat} {sp : Nat → Bool} {held : Bool}
end
/-- a slice of them -/
def CertsAt (W : World) (s : Sl) (ds : List DCert) : Prop := ∃ rs, SeqIs Cert.cells 35 CertIs W s rs ds
theorem Certs_ext {C : Cx} {hp : List Blk} {w : World} {s : Sl} {ds : List DCert} (hh : HRep C hp w) (hl : C.lent = []) (h : CertsAt C.W0 s ds) : CertsAt w s ds := by
  obtain ⟨rs, h⟩ := h
  exact ⟨rs, h.ext hh hl fun r d hd => hd.ext hh hl⟩
section
variable {H : Type} {enc : TypeId × Value → H} {W : World} {base : Nat} {sp : Nat → Bool} {held : Bool}
end
structure DMsg where
  dKind : Int
  dHeight : UInt64
  dHeads : List (List UInt8)
  dWant : List (List UInt8)
  dBlocks : List DB
  dVotes : List Vote
  dCuts : List DCut
  dCerts : List DCert
structure MsgIs (W : World) (x : Msg) (d : DMsg) : Prop where
  ok : x.ok
  fKind : x.fKind = d.dKind
  wKind : (Lit.int .i64 d.dKind).wf = true
  fHeight : x.fHeight = d.dHeight
  fHeads : RowsAt W x.fHeads 32 d.dHeads
  fWant : RowsAt W x.fWant 32 d.dWant
  fBlocks : BlocksAt W x.fBlocks d.dBlocks
  fVotes : VotesAt W x.fVotes d.dVotes
  fCuts : CutsAt W x.fCuts d.dCuts
  fCerts : CertsAt W x.fCerts d.dCerts
theorem MsgIs.ext {C : Cx} {hp : List Blk} {w : World} {x : Msg} {d : DMsg} (h : MsgIs C.W0 x d) (hh : HRep C hp w) (hl : C.lent = []) : MsgIs w x d := ⟨h.ok, h.fKind, h.wKind, h.fHeight, rows_ext hh hl h.fHeads, rows_ext hh hl h.fWant, Blocks_ext hh hl h.fBlocks, Votes_ext hh hl h.fVotes, Cuts_ext hh hl h.fCuts, Certs_ext hh hl h.fCerts⟩
section
variable {H : Type} {enc : TypeId × Value → H} {W : World} {base : Nat} {sp : Nat → Bool} {held : Bool}
end
section
variable {H : Type} {enc : TypeId × Value → H} {W : World} {base : Nat} {sp : Nat → Bool} {held : Bool}
end
section
variable {H : Type} {enc : TypeId × Value → H} {W : World} {base : Nat} {sp : Nat → Bool} {held : Bool}
end
structure DInbox where
  dList : List (List UInt8)
structure InboxIs (W : World) (x : Inbox) (d : DInbox) : Prop where
  ok : x.ok
  fList : ListsAt W x.fList d.dList
theorem InboxIs.ext {C : Cx} {hp : List Blk} {w : World} {x : Inbox} {d : DInbox} (h : InboxIs C.W0 x d) (hh : HRep C hp w) (hl : C.lent = []) : InboxIs w x d := ⟨h.ok, lists_ext hh hl h.fList⟩
section
variable {H : Type} {enc : TypeId × Value → H} {W : World} {base : Nat} {sp : Nat → Bool} {held : Bool}
end
section
variable {H : Type} {enc : TypeId × Value → H} {W : World} {base : Nat} {sp : Nat → Bool} {held : Bool}
end
section
variable {H : Type} {enc : TypeId × Value → H} {W : World} {base : Nat} {sp : Nat → Bool} {held : Bool}
end
structure DRecord where
  dKind : UInt8
  dData : List UInt8
structure RecordIs (W : World) (x : Record) (d : DRecord) : Prop where
  ok : x.ok
  fKind : x.fKind = d.dKind
  fData : BytesAt W x.fData d.dData
theorem RecordIs.ext {C : Cx} {hp : List Blk} {w : World} {x : Record} {d : DRecord} (h : RecordIs C.W0 x d) (hh : HRep C hp w) (hl : C.lent = []) : RecordIs w x d := ⟨h.ok, h.fKind, bytes_ext hh hl h.fData⟩
section
variable {H : Type} {enc : TypeId × Value → H} {W : World} {base : Nat} {sp : Nat → Bool} {held : Bool}
end
section
variable {H : Type} {enc : TypeId × Value → H} {W : World} {base : Nat} {sp : Nat → Bool} {held : Bool}
end
section
variable {H : Type} {enc : TypeId × Value → H} {W : World} {base : Nat} {sp : Nat → Bool} {held : Bool}
end
structure DKept where
  dBlocks : List DB
  dCerts : List DCert
  dVotes : List Vote
  dCuts : List DCut
structure KeptIs (W : World) (x : Kept) (d : DKept) : Prop where
  ok : x.ok
  fBlocks : BlocksAt W x.fBlocks d.dBlocks
  fCerts : CertsAt W x.fCerts d.dCerts
  fVotes : VotesAt W x.fVotes d.dVotes
  fCuts : CutsAt W x.fCuts d.dCuts
theorem KeptIs.ext {C : Cx} {hp : List Blk} {w : World} {x : Kept} {d : DKept} (h : KeptIs C.W0 x d) (hh : HRep C hp w) (hl : C.lent = []) : KeptIs w x d := ⟨h.ok, Blocks_ext hh hl h.fBlocks, Certs_ext hh hl h.fCerts, Votes_ext hh hl h.fVotes, Cuts_ext hh hl h.fCuts⟩
section
variable {H : Type} {enc : TypeId × Value → H} {W : World} {base : Nat} {sp : Nat → Bool} {held : Bool}
end
section
variable {H : Type} {enc : TypeId × Value → H} {W : World} {base : Nat} {sp : Nat → Bool} {held : Bool}
end
section
variable {H : Type} {enc : TypeId × Value → H} {W : World} {base : Nat} {sp : Nat → Bool} {held : Bool}
end
end Go.Proofs.YtejjamifnombhaaGreat
end

section
namespace Go.Proofs.YtejjamifnombhaaGreat
open Go Hw
set_option linter.unusedVariables false
set_option linter.unusedSimpArgs false


def vheadB (V : Vote) : Bool := decide ((V.fHeight.toNat : Int) < 1) || (decide ((4294967295 : Int) < (V.fHeight.toNat : Int)) || decide ((20 : Int) < (V.fRound.toNat : Int)))
def vokB (V : Vote) : Bool := if V.fPhase = 1 then (!decide (V.fValue = List.replicate 32 0)) && decide ((V.fProof.toNat : Int) ≤ (V.fRound.toNat : Int)) else if V.fPhase = 2 ∨ V.fPhase = 3 then decide ((V.fProof.toNat : Int) = 0) else false
def vcheck (V : Vote) : Int := if vheadB V = true then 2 else if vokB V = true then 0 else 2


set_option maxRecDepth 100000 in
set_option maxHeartbeats 4000000 in
theorem vote_check (V : Vote) (hV : V.ok) : Meets Tryz.prog 90 [agg V.cells] [] (fun _ => True) (fun v out => v = i64 (vcheck V) ∧ out = []) := by
  intro W hW
  refine calls_of (hp0 := []) Tryz.func90 rfl 40 Tryz.ntmps90 rfl (HRep.nil _) ?_
  refine Sat.seq ?_
  -- region 0
  refine Sat.region ?_
  refine Tr.boxA rfl rfl ?_
  intro n1 hn1 hf1
  refine Tr.assign rfl rfl rfl ?_
  refine Tr.nil ?_
  refine at_n ?_
  refine Sat.seq ?_
  refine Sat.seq ?_
  -- region 1
  refine Sat.region ?_
  refine Tr.fld rfl rfl rfl Tryz.underlying81 rfl Sz48 (by decide) _ rfl ?_
  refine Tr.load1 rfl rfl rfl Tryz.underlying48 rfl (by first | exact mem0 | exact mem1 | exact mem2 | exact mem3 | exact mem4 | exact mem5 | exact mem6 | exact mem7 | (repeat (first | exact List.mem_cons_self | refine List.mem_cons_of_mem _ ?_ | refine mem_seg ?_))) (by first | exact Vote.get_fHeight (by first | assumption | (simp [hV.l_fValue]; done) | exact Block.zero_ok | exact Vote.zero_ok | exact Reader.zero_ok | exact Cut.zero_ok | exact Cert.zero_ok | exact Msg.zero_ok | exact Inbox.zero_ok | exact Record.zero_ok | exact Kept.zero_ok  | exact hV) | exact (by first | rfl | exact get_words (by first | omega | (simp [hV.l_fValue]; done) | (simp [hV.l_fValue]; omega)) | exact get_bytes (by first | omega | (simp [hV.l_fValue]; done) | (simp [hV.l_fValue]; omega)) | exact get_ints (by first | omega | (simp [hV.l_fValue]; done) | (simp [hV.l_fValue]; omega)))) ?_
  refine two (fun r hr k => Tr.lss rfl rfl rfl rfl hr k) (fun hs1_20 => ?_) (fun hs1_20 => ?_)
  ·
    first | have hs1_2 := of_decide_eq_true hs1_20 | have hs1_2 := of_decide_eq_false hs1_20 | have hs1_2 := nd_t hs1_20 | have hs1_2 := nd_f hs1_20 | have hs1_2 := hs1_20
    refine Tr.move rfl rfl rfl ?_
    refine Tr.skp rfl rfl ?_
    refine Tr.skp rfl rfl ?_
    refine Tr.skp rfl rfl ?_
    refine Tr.pick rfl rfl rfl rfl rfl rfl ?_
    refine Tr.move rfl rfl rfl ?_
    refine Tr.skp rfl rfl ?_
    refine Tr.skp rfl rfl ?_
    refine Tr.skp rfl rfl ?_
    refine Tr.pick rfl rfl rfl rfl rfl rfl ?_
    refine Tr.nil ?_
    refine at_n ?_
    refine Sat.cond_t rfl rfl ?_
    refine Sat.seq ?_
    -- region 2
    refine Sat.region ?_
    refine Tr.assign rfl rfl rfl ?_
    refine Tr.nil ?_
    refine at_n ?_
    refine Sat.ret ?_
    refine at_r ?_
    refine en_r ?_
    refine ⟨_, [], res_tmp rfl rfl, (by simp), (by simp), ?_, rfl⟩
    first
      | (unfold vcheck vheadB vokB; simp_all; done)
      | (unfold vcheck vheadB vokB; simp_all; omega)
  ·
    first | have hs1_2 := of_decide_eq_true hs1_20 | have hs1_2 := of_decide_eq_false hs1_20 | have hs1_2 := nd_t hs1_20 | have hs1_2 := nd_f hs1_20 | have hs1_2 := hs1_20
    refine Tr.move rfl rfl rfl ?_
    refine Tr.fld rfl rfl rfl Tryz.underlying81 rfl Sz48 (by decide) _ rfl ?_
    refine Tr.load1 rfl rfl rfl Tryz.underlying48 rfl (by first | exact mem0 | exact mem1 | exact mem2 | exact mem3 | exact mem4 | exact mem5 | exact mem6 | exact mem7 | (repeat (first | exact List.mem_cons_self | refine List.mem_cons_of_mem _ ?_ | refine mem_seg ?_))) (by first | exact Vote.get_fHeight (by first | assumption | (simp [hV.l_fValue]; done) | exact Block.zero_ok | exact Vote.zero_ok | exact Reader.zero_ok | exact Cut.zero_ok | exact Cert.zero_ok | exact Msg.zero_ok | exact Inbox.zero_ok | exact Record.zero_ok | exact Kept.zero_ok  | exact hV) | exact (by first | rfl | exact get_words (by first | omega | (simp [hV.l_fValue]; done) | (simp [hV.l_fValue]; omega)) | exact get_bytes (by first | omega | (simp [hV.l_fValue]; done) | (simp [hV.l_fValue]; omega)) | exact get_ints (by first | omega | (simp [hV.l_fValue]; done) | (simp [hV.l_fValue]; omega)))) ?_
    refine two (fun r hr k => Tr.gtr rfl rfl rfl rfl hr k) (fun hs1_60 => ?_) (fun hs1_60 => ?_)
    ·
      first | have hs1_6 := of_decide_eq_true hs1_60 | have hs1_6 := of_decide_eq_false hs1_60 | have hs1_6 := nd_t hs1_60 | have hs1_6 := nd_f hs1_60 | have hs1_6 := hs1_60
      refine Tr.pick rfl rfl rfl rfl rfl rfl ?_
      refine Tr.move rfl rfl rfl ?_
      refine Tr.skp rfl rfl ?_
      refine Tr.skp rfl rfl ?_
      refine Tr.skp rfl rfl ?_
      refine Tr.pick rfl rfl rfl rfl rfl rfl ?_
      refine Tr.nil ?_
      refine at_n ?_
      refine Sat.cond_t rfl rfl ?_
      refine Sat.seq ?_
      -- region 2
      refine Sat.region ?_
      refine Tr.assign rfl rfl rfl ?_
      refine Tr.nil ?_
      refine at_n ?_
      refine Sat.ret ?_
      refine at_r ?_
      refine en_r ?_
      refine ⟨_, [], res_tmp rfl rfl, (by simp), (by simp), ?_, rfl⟩
      first
        | (unfold vcheck vheadB vokB; simp_all; done)
        | (unfold vcheck vheadB vokB; simp_all; omega)
    ·
      first | have hs1_6 := of_decide_eq_true hs1_60 | have hs1_6 := of_decide_eq_false hs1_60 | have hs1_6 := nd_t hs1_60 | have hs1_6 := nd_f hs1_60 | have hs1_6 := hs1_60
      refine Tr.pick rfl rfl rfl rfl rfl rfl ?_
      refine Tr.move rfl rfl rfl ?_
      refine Tr.fld rfl rfl rfl Tryz.underlying81 rfl Sz48 (by decide) _ rfl ?_
      refine Tr.load1 rfl rfl rfl Tryz.underlying48 rfl (by first | exact mem0 | exact mem1 | exact mem2 | exact mem3 | exact mem4 | exact mem5 | exact mem6 | exact mem7 | (repeat (first | exact List.mem_cons_self | refine List.mem_cons_of_mem _ ?_ | refine mem_seg ?_))) (by first | exact Vote.get_fRound (by first | assumption | (simp [hV.l_fValue]; done) | exact Block.zero_ok | exact Vote.zero_ok | exact Reader.zero_ok | exact Cut.zero_ok | exact Cert.zero_ok | exact Msg.zero_ok | exact Inbox.zero_ok | exact Record.zero_ok | exact Kept.zero_ok  | exact hV) | exact (by first | rfl | exact get_words (by first | omega | (simp [hV.l_fValue]; done) | (simp [hV.l_fValue]; omega)) | exact get_bytes (by first | omega | (simp [hV.l_fValue]; done) | (simp [hV.l_fValue]; omega)) | exact get_ints (by first | omega | (simp [hV.l_fValue]; done) | (simp [hV.l_fValue]; omega)))) ?_
      refine Tr.gtr rfl rfl rfl rfl rfl ?_
      refine Tr.pick rfl rfl rfl rfl rfl rfl ?_
      refine Tr.nil ?_
      refine at_n ?_
      first
        | refine Sat.condP rfl (fun hc0 => ?_) (fun hc0 => ?_)
        | refine Sat.condNP rfl (fun hc0 => ?_) (fun hc0 => ?_)
        | refine Sat.cond rfl (fun hc0 => ?_) (fun hc0 => ?_)
      ·
        refine Sat.seq ?_
        -- region 2
        refine Sat.region ?_
        refine Tr.assign rfl rfl rfl ?_
        refine Tr.nil ?_
        refine at_n ?_
        refine Sat.ret ?_
        refine at_r ?_
        refine en_r ?_
        refine ⟨_, [], res_tmp rfl rfl, (by simp), (by simp), ?_, rfl⟩
        first
          | (unfold vcheck vheadB vokB; simp_all; done)
          | (unfold vcheck vheadB vokB; simp_all; omega)
      ·
        refine Sat.skip ?_
        refine at_n ?_
        refine Sat.seq ?_
        -- region 3
        refine Sat.region ?_
        refine Tr.assign rfl rfl rfl ?_
        refine Tr.nil ?_
        refine at_n ?_
        refine Sat.seq ?_
        refine Sat.seq ?_
        -- region 4
        refine Sat.region ?_
        refine Tr.fld rfl rfl rfl Tryz.underlying81 rfl Sz3 (by decide) _ rfl ?_
        refine Tr.load1 rfl rfl rfl Tryz.underlying3 rfl (by first | exact mem0 | exact mem1 | exact mem2 | exact mem3 | exact mem4 | exact mem5 | exact mem6 | exact mem7 | (repeat (first | exact List.mem_cons_self | refine List.mem_cons_of_mem _ ?_ | refine mem_seg ?_))) (by first | exact Vote.get_fPhase (by first | assumption | (simp [hV.l_fValue]; done) | exact Block.zero_ok | exact Vote.zero_ok | exact Reader.zero_ok | exact Cut.zero_ok | exact Cert.zero_ok | exact Msg.zero_ok | exact Inbox.zero_ok | exact Record.zero_ok | exact Kept.zero_ok  | exact hV) | exact (by first | rfl | exact get_words (by first | omega | (simp [hV.l_fValue]; done) | (simp [hV.l_fValue]; omega)) | exact get_bytes (by first | omega | (simp [hV.l_fValue]; done) | (simp [hV.l_fValue]; omega)) | exact get_ints (by first | omega | (simp [hV.l_fValue]; done) | (simp [hV.l_fValue]; omega)))) ?_
        refine Tr.nil ?_
        refine at_n ?_
        refine Sat.block ?_
        refine Sat.seq ?_
        -- region 5
        refine Sat.region ?_
        refine Tr.eqi rfl rfl rfl rfl rfl ?_
        refine Tr.assign rfl rfl rfl ?_
        refine Tr.nil ?_
        refine at_n ?_
        first
          | refine Sat.condP rfl (fun hc1 => ?_) (fun hc1 => ?_)
          | refine Sat.condNP rfl (fun hc1 => ?_) (fun hc1 => ?_)
          | refine Sat.cond rfl (fun hc1 => ?_) (fun hc1 => ?_)
        ·
          -- region 6
          refine Sat.region ?_
          refine Tr.fld rfl rfl rfl Tryz.underlying81 rfl Sz50 (by decide) _ rfl ?_
          first
            | refine Tr.loadN (bytesV _) rfl rfl rfl Tryz.underlying50 rfl Sz50 (by first | exact mem0 | exact mem1 | exact mem2 | exact mem3 | exact mem4 | exact mem5 | exact mem6 | exact mem7 | (repeat (first | exact List.mem_cons_self | refine List.mem_cons_of_mem _ ?_ | refine mem_seg ?_))) (Vote.row_fValue (by first | assumption | (simp [hV.l_fValue]; done) | exact Block.zero_ok | exact Vote.zero_ok | exact Reader.zero_ok | exact Cut.zero_ok | exact Cert.zero_ok | exact Msg.zero_ok | exact Inbox.zero_ok | exact Record.zero_ok | exact Kept.zero_ok  | exact hV)) (Vote.rl_fValue (by first | assumption | (simp [hV.l_fValue]; done) | exact Block.zero_ok | exact Vote.zero_ok | exact Reader.zero_ok | exact Cut.zero_ok | exact Cert.zero_ok | exact Msg.zero_ok | exact Inbox.zero_ok | exact Record.zero_ok | exact Kept.zero_ok  | exact hV)) ?_
          refine Tr.build (cs := bytesV (List.replicate 32 0)) rfl rfl rfl (fun w => by kernel_rfl) ?_
          refine two (fun r hr k => Tr.neq_bytes rfl rfl rfl rfl Tryz.eqGuardType50 Tryz.underlying50 Tryz.underlying5 Sz5 (by first | assumption | (simp [hV.l_fValue]; done) | (rw [bytesV, List.length_map]; assumption)) (by first | assumption | (simp [hV.l_fValue]; done) | (rw [bytesV, List.length_map]; assumption)) hr k) (fun hs6_30 => ?_) (fun hs6_30 => ?_)
          ·
            first | have hs6_3 := of_decide_eq_true hs6_30 | have hs6_3 := of_decide_eq_false hs6_30 | have hs6_3 := nd_t hs6_30 | have hs6_3 := nd_f hs6_30 | have hs6_3 := hs6_30
            refine Tr.move rfl rfl rfl ?_
            refine Tr.fld rfl rfl rfl Tryz.underlying81 rfl Sz48 (by decide) _ rfl ?_
            refine Tr.load1 rfl rfl rfl Tryz.underlying48 rfl (by first | exact mem0 | exact mem1 | exact mem2 | exact mem3 | exact mem4 | exact mem5 | exact mem6 | exact mem7 | (repeat (first | exact List.mem_cons_self | refine List.mem_cons_of_mem _ ?_ | refine mem_seg ?_))) (by first | exact Vote.get_fProof (by first | assumption | (simp [hV.l_fValue]; done) | exact Block.zero_ok | exact Vote.zero_ok | exact Reader.zero_ok | exact Cut.zero_ok | exact Cert.zero_ok | exact Msg.zero_ok | exact Inbox.zero_ok | exact Record.zero_ok | exact Kept.zero_ok  | exact hV) | exact (by first | rfl | exact get_words (by first | omega | (simp [hV.l_fValue]; done) | (simp [hV.l_fValue]; omega)) | exact get_bytes (by first | omega | (simp [hV.l_fValue]; done) | (simp [hV.l_fValue]; omega)) | exact get_ints (by first | omega | (simp [hV.l_fValue]; done) | (simp [hV.l_fValue]; omega)))) ?_
            refine Tr.fld rfl rfl rfl Tryz.underlying81 rfl Sz48 (by decide) _ rfl ?_
            refine Tr.load1 rfl rfl rfl Tryz.underlying48 rfl (by first | exact mem0 | exact mem1 | exact mem2 | exact mem3 | exact mem4 | exact mem5 | exact mem6 | exact mem7 | (repeat (first | exact List.mem_cons_self | refine List.mem_cons_of_mem _ ?_ | refine mem_seg ?_))) (by first | exact Vote.get_fRound (by first | assumption | (simp [hV.l_fValue]; done) | exact Block.zero_ok | exact Vote.zero_ok | exact Reader.zero_ok | exact Cut.zero_ok | exact Cert.zero_ok | exact Msg.zero_ok | exact Inbox.zero_ok | exact Record.zero_ok | exact Kept.zero_ok  | exact hV) | exact (by first | rfl | exact get_words (by first | omega | (simp [hV.l_fValue]; done) | (simp [hV.l_fValue]; omega)) | exact get_bytes (by first | omega | (simp [hV.l_fValue]; done) | (simp [hV.l_fValue]; omega)) | exact get_ints (by first | omega | (simp [hV.l_fValue]; done) | (simp [hV.l_fValue]; omega)))) ?_
            refine Tr.leq rfl rfl rfl rfl rfl ?_
            refine Tr.pick rfl rfl rfl rfl rfl rfl ?_
            refine Tr.assign rfl rfl rfl ?_
            refine Tr.nil ?_
            refine bl_n ?_
            refine at_n ?_
            refine Sat.seq ?_
            refine Sat.seq ?_
            -- region 10
            refine Sat.region ?_
            refine Tr.move rfl rfl rfl ?_
            refine Tr.not rfl rfl rfl ?_
            refine Tr.nil ?_
            refine at_n ?_
            first
              | refine Sat.condP rfl (fun hc4 => ?_) (fun hc4 => ?_)
              | refine Sat.condNP rfl (fun hc4 => ?_) (fun hc4 => ?_)
              | refine Sat.cond rfl (fun hc4 => ?_) (fun hc4 => ?_)
            ·
              refine Sat.seq ?_
              -- region 11
              refine Sat.region ?_
              refine Tr.assign rfl rfl rfl ?_
              refine Tr.nil ?_
              refine at_n ?_
              refine Sat.ret ?_
              refine at_r ?_
              refine en_r ?_
              refine ⟨_, [], res_tmp rfl rfl, (by simp), (by simp), ?_, rfl⟩
              first
                | (unfold vcheck vheadB vokB; simp_all; done)
                | (unfold vcheck vheadB vokB; simp_all; omega)
            ·
              refine Sat.skip ?_
              refine at_n ?_
              refine Sat.seq ?_
              -- region 12
              refine Sat.region ?_
              refine Tr.assign rfl rfl rfl ?_
              refine Tr.nil ?_
              refine at_n ?_
              refine Sat.ret ?_
              refine en_r ?_
              refine ⟨_, [], res_tmp rfl rfl, (by simp), (by simp), ?_, rfl⟩
              first
                | (unfold vcheck vheadB vokB; simp_all; done)
                | (unfold vcheck vheadB vokB; simp_all; omega)
          ·
            first | have hs6_3 := of_decide_eq_true hs6_30 | have hs6_3 := of_decide_eq_false hs6_30 | have hs6_3 := nd_t hs6_30 | have hs6_3 := nd_f hs6_30 | have hs6_3 := hs6_30
            refine Tr.move rfl rfl rfl ?_
            refine Tr.skp rfl rfl ?_
            refine Tr.skp rfl rfl ?_
            refine Tr.skp rfl rfl ?_
            refine Tr.skp rfl rfl ?_
            refine Tr.skp rfl rfl ?_
            refine Tr.pick rfl rfl rfl rfl rfl rfl ?_
            refine Tr.assign rfl rfl rfl ?_
            refine Tr.nil ?_
            refine bl_n ?_
            refine at_n ?_
            refine Sat.seq ?_
            refine Sat.seq ?_
            -- region 10
            refine Sat.region ?_
            refine Tr.move rfl rfl rfl ?_
            refine Tr.not rfl rfl rfl ?_
            refine Tr.nil ?_
            refine at_n ?_
            refine Sat.cond_t rfl rfl ?_
            refine Sat.seq ?_
            -- region 11
            refine Sat.region ?_
            refine Tr.assign rfl rfl rfl ?_
            refine Tr.nil ?_
            refine at_n ?_
            refine Sat.ret ?_
            refine at_r ?_
            refine en_r ?_
            refine ⟨_, [], res_tmp rfl rfl, (by simp), (by simp), ?_, rfl⟩
            first
              | (unfold vcheck vheadB vokB; simp_all; done)
              | (unfold vcheck vheadB vokB; simp_all; omega)
        ·
          refine Sat.seq ?_
          refine Sat.seq ?_
          -- region 7
          refine Sat.region ?_
          refine Tr.eqi rfl rfl rfl rfl rfl ?_
          refine Tr.assign rfl rfl rfl ?_
          refine Tr.nil ?_
          refine at_n ?_
          first
            | refine Sat.condP rfl (fun hc2 => ?_) (fun hc2 => ?_)
            | refine Sat.condNP rfl (fun hc2 => ?_) (fun hc2 => ?_)
            | refine Sat.cond rfl (fun hc2 => ?_) (fun hc2 => ?_)
          ·
            refine Sat.skip ?_
            refine at_n ?_
            first
              | refine Sat.condP rfl (fun hc3 => ?_) (fun hc3 => ?_)
              | refine Sat.condNP rfl (fun hc3 => ?_) (fun hc3 => ?_)
              | refine Sat.cond rfl (fun hc3 => ?_) (fun hc3 => ?_)
            ·
              -- region 9
              refine Sat.region ?_
              refine Tr.fld rfl rfl rfl Tryz.underlying81 rfl Sz48 (by decide) _ rfl ?_
              refine Tr.load1 rfl rfl rfl Tryz.underlying48 rfl (by first | exact mem0 | exact mem1 | exact mem2 | exact mem3 | exact mem4 | exact mem5 | exact mem6 | exact mem7 | (repeat (first | exact List.mem_cons_self | refine List.mem_cons_of_mem _ ?_ | refine mem_seg ?_))) (by first | exact Vote.get_fProof (by first | assumption | (simp [hV.l_fValue]; done) | exact Block.zero_ok | exact Vote.zero_ok | exact Reader.zero_ok | exact Cut.zero_ok | exact Cert.zero_ok | exact Msg.zero_ok | exact Inbox.zero_ok | exact Record.zero_ok | exact Kept.zero_ok  | exact hV) | exact (by first | rfl | exact get_words (by first | omega | (simp [hV.l_fValue]; done) | (simp [hV.l_fValue]; omega)) | exact get_bytes (by first | omega | (simp [hV.l_fValue]; done) | (simp [hV.l_fValue]; omega)) | exact get_ints (by first | omega | (simp [hV.l_fValue]; done) | (simp [hV.l_fValue]; omega)))) ?_
              refine Tr.eqi rfl rfl rfl rfl rfl ?_
              refine Tr.assign rfl rfl rfl ?_
              refine Tr.nil ?_
              refine bl_n ?_
              refine at_n ?_
              refine Sat.seq ?_
              refine Sat.seq ?_
              -- region 10
              refine Sat.region ?_
              refine Tr.move rfl rfl rfl ?_
              refine Tr.not rfl rfl rfl ?_
              refine Tr.nil ?_
              refine at_n ?_
              first
                | refine Sat.condP rfl (fun hc4 => ?_) (fun hc4 => ?_)
                | refine Sat.condNP rfl (fun hc4 => ?_) (fun hc4 => ?_)
                | refine Sat.cond rfl (fun hc4 => ?_) (fun hc4 => ?_)
              ·
                refine Sat.seq ?_
                -- region 11
                refine Sat.region ?_
                refine Tr.assign rfl rfl rfl ?_
                refine Tr.nil ?_
                refine at_n ?_
                refine Sat.ret ?_
                refine at_r ?_
                refine en_r ?_
                refine ⟨_, [], res_tmp rfl rfl, (by simp), (by simp), ?_, rfl⟩
                first
                  | (unfold vcheck vheadB vokB; simp_all; done)
                  | (unfold vcheck vheadB vokB; simp_all; omega)
              ·
                refine Sat.skip ?_
                refine at_n ?_
                refine Sat.seq ?_
                -- region 12
                refine Sat.region ?_
                refine Tr.assign rfl rfl rfl ?_
                refine Tr.nil ?_
                refine at_n ?_
                refine Sat.ret ?_
                refine en_r ?_
                refine ⟨_, [], res_tmp rfl rfl, (by simp), (by simp), ?_, rfl⟩
                first
                  | (unfold vcheck vheadB vokB; simp_all; done)
                  | (unfold vcheck vheadB vokB; simp_all; omega)
            ·
              refine Sat.skip ?_
              refine bl_n ?_
              refine at_n ?_
              refine Sat.seq ?_
              refine Sat.seq ?_
              -- region 10
              refine Sat.region ?_
              refine Tr.move rfl rfl rfl ?_
              refine Tr.not rfl rfl rfl ?_
              refine Tr.nil ?_
              refine at_n ?_
              refine Sat.cond_t rfl rfl ?_
              refine Sat.seq ?_
              -- region 11
              refine Sat.region ?_
              refine Tr.assign rfl rfl rfl ?_
              refine Tr.nil ?_
              refine at_n ?_
              refine Sat.ret ?_
              refine at_r ?_
              refine en_r ?_
              refine ⟨_, [], res_tmp rfl rfl, (by simp), (by simp), ?_, rfl⟩
              first
                | (unfold vcheck vheadB vokB; simp_all; done)
                | (unfold vcheck vheadB vokB; simp_all; omega)
          ·
            -- region 8
            refine Sat.region ?_
            refine Tr.eqi rfl rfl rfl rfl rfl ?_
            refine Tr.assign rfl rfl rfl ?_
            refine Tr.nil ?_
            refine at_n ?_
            first
              | refine Sat.condP rfl (fun hc3 => ?_) (fun hc3 => ?_)
              | refine Sat.condNP rfl (fun hc3 => ?_) (fun hc3 => ?_)
              | refine Sat.cond rfl (fun hc3 => ?_) (fun hc3 => ?_)
            ·
              -- region 9
              refine Sat.region ?_
              refine Tr.fld rfl rfl rfl Tryz.underlying81 rfl Sz48 (by decide) _ rfl ?_
              refine Tr.load1 rfl rfl rfl Tryz.underlying48 rfl (by first | exact mem0 | exact mem1 | exact mem2 | exact mem3 | exact mem4 | exact mem5 | exact mem6 | exact mem7 | (repeat (first | exact List.mem_cons_self | refine List.mem_cons_of_mem _ ?_ | refine mem_seg ?_))) (by first | exact Vote.get_fProof (by first | assumption | (simp [hV.l_fValue]; done) | exact Block.zero_ok | exact Vote.zero_ok | exact Reader.zero_ok | exact Cut.zero_ok | exact Cert.zero_ok | exact Msg.zero_ok | exact Inbox.zero_ok | exact Record.zero_ok | exact Kept.zero_ok  | exact hV) | exact (by first | rfl | exact get_words (by first | omega | (simp [hV.l_fValue]; done) | (simp [hV.l_fValue]; omega)) | exact get_bytes (by first | omega | (simp [hV.l_fValue]; done) | (simp [hV.l_fValue]; omega)) | exact get_ints (by first | omega | (simp [hV.l_fValue]; done) | (simp [hV.l_fValue]; omega)))) ?_
              refine Tr.eqi rfl rfl rfl rfl rfl ?_
              refine Tr.assign rfl rfl rfl ?_
              refine Tr.nil ?_
              refine bl_n ?_
              refine at_n ?_
              refine Sat.seq ?_
              refine Sat.seq ?_
              -- region 10
              refine Sat.region ?_
              refine Tr.move rfl rfl rfl ?_
              refine Tr.not rfl rfl rfl ?_
              refine Tr.nil ?_
              refine at_n ?_
              first
                | refine Sat.condP rfl (fun hc4 => ?_) (fun hc4 => ?_)
                | refine Sat.condNP rfl (fun hc4 => ?_) (fun hc4 => ?_)
                | refine Sat.cond rfl (fun hc4 => ?_) (fun hc4 => ?_)
              ·
                refine Sat.seq ?_
                -- region 11
                refine Sat.region ?_
                refine Tr.assign rfl rfl rfl ?_
                refine Tr.nil ?_
                refine at_n ?_
                refine Sat.ret ?_
                refine at_r ?_
                refine en_r ?_
                refine ⟨_, [], res_tmp rfl rfl, (by simp), (by simp), ?_, rfl⟩
                first
                  | (unfold vcheck vheadB vokB; simp_all; done)
                  | (unfold vcheck vheadB vokB; simp_all; omega)
              ·
                refine Sat.skip ?_
                refine at_n ?_
                refine Sat.seq ?_
                -- region 12
                refine Sat.region ?_
                refine Tr.assign rfl rfl rfl ?_
                refine Tr.nil ?_
                refine at_n ?_
                refine Sat.ret ?_
                refine en_r ?_
                refine ⟨_, [], res_tmp rfl rfl, (by simp), (by simp), ?_, rfl⟩
                first
                  | (unfold vcheck vheadB vokB; simp_all; done)
                  | (unfold vcheck vheadB vokB; simp_all; omega)
            ·
              refine Sat.skip ?_
              refine bl_n ?_
              refine at_n ?_
              refine Sat.seq ?_
              refine Sat.seq ?_
              -- region 10
              refine Sat.region ?_
              refine Tr.move rfl rfl rfl ?_
              refine Tr.not rfl rfl rfl ?_
              refine Tr.nil ?_
              refine at_n ?_
              refine Sat.cond_t rfl rfl ?_
              refine Sat.seq ?_
              -- region 11
              refine Sat.region ?_
              refine Tr.assign rfl rfl rfl ?_
              refine Tr.nil ?_
              refine at_n ?_
              refine Sat.ret ?_
              refine at_r ?_
              refine en_r ?_
              refine ⟨_, [], res_tmp rfl rfl, (by simp), (by simp), ?_, rfl⟩
              first
                | (unfold vcheck vheadB vokB; simp_all; done)
                | (unfold vcheck vheadB vokB; simp_all; omega)

end Go.Proofs.YtejjamifnombhaaGreat
end
