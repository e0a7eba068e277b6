/- Contracts of package block: Compare, Check, Parents; of the kit package: LightBlocks, Names, Own, OwnBlock, Digests. Conditions: what the rows hold. -/
import Derived.Test.YtejjamifnombhaaCmp
import Derived.Test.YtejjamifnombhaaRowL
import Derived.Test.YtejjamifnombhaaROpen
import Derived.Laws.Externs
namespace Go.Proofs.Ytejjamifnombhaa
open Go Hw
set_option linter.unusedVariables false
set_option linter.unusedSimpArgs false


def badAt (prev : List UInt8) (ls : List (List UInt8)) (i : Nat) : Bool := decide (ls.getD i [] = List.replicate 32 0) || (decide (ls.getD i [] = prev) || (decide ((0 : Int) < (i : Int)) && decide ((0 : Int) ≤ cmpB (ls.getD (i - 1) []) (ls.getD i []))))
def linksBad (prev : List UInt8) (ls : List (List UInt8)) : Bool := (List.range ls.length).any (badAt prev ls)
def bheadB (B : Block) : Bool := decide ((4294967295 : Int) < (B.fSeq.toNat : Int)) || (!decide (decide (B.fPrev = List.replicate 32 0) = decide ((B.fSeq.toNat : Int) = 0)) || (decide ((16 : Int) < (B.fLinks.n : Int)) || decide ((512 : Int) < (B.fData.n : Int))))
def bhead (B : Block) : Prop := bheadB B = true
theorem linksBad_at {prev : List UInt8} {ls : List (List UInt8)} {k : Nat} (hk : k < ls.length) (h : badAt prev ls k = true) : linksBad prev ls = true := by
  rw [linksBad, List.any_eq_true]; exact ⟨k, List.mem_range.2 hk, h⟩
theorem linksBad_not {prev : List UInt8} {ls : List (List UInt8)} (h : ∀ j, j < ls.length → badAt prev ls j = false) : linksBad prev ls = false := by
  rw [linksBad, List.any_eq_false]; intro x hx; rw [h x (List.mem_range.1 hx)]; simp
def bcheck (B : Block) (ls : List (List UInt8)) : Int := if bheadB B = true then 2 else (if linksBad B.fPrev ls = true then 2 else 0)
theorem bcheck_head {B : Block} {ls : List (List UInt8)} (h : bhead B) : bcheck B ls = 2 := by unfold bcheck; unfold bhead at h; rw [if_pos h]
theorem bcheck_bad {B : Block} {ls : List (List UInt8)} (h : ¬ bhead B) (hb : linksBad B.fPrev ls = true) : bcheck B ls = 2 := by unfold bcheck; unfold bhead at h; rw [if_neg h, if_pos hb]
theorem bcheck_ok {B : Block} {ls : List (List UInt8)} (h : ¬ bhead B) (hb : linksBad B.fPrev ls = false) : bcheck B ls = 0 := by unfold bcheck; unfold bhead at h; rw [if_neg h, if_neg (by rw [hb]; simp)]


set_option maxRecDepth 100000 in
set_option maxHeartbeats 1000000 in
theorem block_cmp (a b : List UInt8) (ha : a.length = 32) (hb : b.length = 32) : Meets Try.prog 44 [agg (bytesV a), agg (bytesV b)] [] (fun _ => True) (fun v out => v = i64 (cmpB a b) ∧ out = []) := by
  intro W hW
  refine calls_of (hp0 := []) Try.func44 rfl 8 Try.ntmps44 rfl (HRep.nil _) ?_
  refine Sat.seq ?_
  -- region 0
  refine Sat.region ?_
  refine Tr.boxA rfl rfl ?_
  intro n2 hn2 hf2
  refine Tr.boxA rfl rfl ?_
  intro n3 hn3 hf3
  refine Tr.assign rfl rfl rfl ?_
  refine Tr.nil ?_
  refine at_n ?_
  refine Sat.seq ?_
  -- region 1
  refine Sat.draw [(0, 0), (0, 1), (3, 2), (0, 3)] Mixed (by kernel_rfl) ?_
  refine Tr.sliceArr rfl rfl rfl Try.underlying25 Sz5 ?_
  refine Tr.sliceArr rfl rfl rfl Try.underlying25 Sz5 ?_
  refine Tr.callV rfl rfl rfl rfl Body92 (bytes_cmp _ _ _ _ _ _ a b ha hb) (fun W2 h => ⟨SeesP.of (sees_own h (by first | exact mem0 | exact mem1 | exact mem2 | exact mem3 | exact mem4 | exact mem5 | exact mem6 | exact mem7 | (repeat (first | exact List.mem_cons_self | refine List.mem_cons_of_mem _ ?_ | refine mem_seg ?_)))), SeesP.of (sees_own h (by first | exact mem0 | exact mem1 | exact mem2 | exact mem3 | exact mem4 | exact mem5 | exact mem6 | exact mem7 | (repeat (first | exact List.mem_cons_self | refine List.mem_cons_of_mem _ ?_ | refine mem_seg ?_))))⟩) ?_
  refine Tr.assign rfl rfl rfl ?_
  refine Tr.nil ?_
  refine at_n ?_
  refine Sat.ret ?_
  refine en_r ?_
  refine ⟨_, [], res_tmp rfl rfl, (by simp), (by simp), ?_, rfl⟩
  rfl

set_option maxRecDepth 100000 in
set_option maxHeartbeats 4000000 in
theorem block_check (B : Block) (hB : B.ok) (ls : List (List UInt8)) : Meets Try.prog 12 [agg B.cells] [] (fun W => RowsAt W B.fLinks 32 ls) (fun v out => v = i64 (bcheck B ls) ∧ out = []) := by
  intro W hW
  have hcx : B.fLinks.n ≤ maxLen := hW.max
  simp only [maxLen] at hcx
  have hcn := hW.cap
  refine calls_of (hp0 := []) Try.func12 rfl 65 Try.ntmps12 rfl (HRep.nil _) ?_
  refine Sat.seq ?_
  -- region 0
  refine Sat.region ?_
  refine Tr.boxA rfl rfl ?_
  intro n1 hn1 hf1
  refine Tr.assign rfl rfl rfl ?_
  refine Tr.nil ?_
  refine at_n ?_
  refine Sat.seq ?_
  -- region 1
  refine Sat.region ?_
  refine Tr.build (cs := bytesV (List.replicate 32 0)) rfl rfl rfl (fun w => by kernel_rfl) ?_
  refine Tr.alloc (cs := (bytesV (List.replicate 32 0))) rfl Zr25 rfl ?_
  intro n3 hn3 hf3
  first
    | refine Tr.storeAll rfl rfl rfl rfl (by first | exact bytesV_cell _ | simp [isCell]) Sz25 (by first | assumption | (simp [hB.l_fPrev]; done) | (rw [bytesV, List.length_map]; assumption)) (by first | exact mem0 | exact mem1 | exact mem2 | exact mem3 | exact mem4 | exact mem5 | exact mem6 | exact mem7 | (repeat (first | exact List.mem_cons_self | refine List.mem_cons_of_mem _ ?_ | refine mem_seg ?_))) (by first | assumption | (simp [hB.l_fPrev]; done) | (rw [bytesV, List.length_map]; assumption)) (by first | exact upd0 | exact upd1 | exact upd2 | exact upd3 | exact upd4 | exact upd5 | exact upd6 | exact upd7 | (repeat (first | exact upd0 | apply Upd.tail | apply Upd.seg))) ?_
    | refine Tr.storeN _ rfl rfl rfl rfl rfl (by first | exact bytesV_cell _ | simp [isCell]) Sz25 (by first | assumption | (simp [hB.l_fPrev]; done) | (rw [bytesV, List.length_map]; assumption)) (by first | exact mem0 | exact mem1 | exact mem2 | exact mem3 | exact mem4 | exact mem5 | exact mem6 | exact mem7 | (repeat (first | exact List.mem_cons_self | refine List.mem_cons_of_mem _ ?_ | refine mem_seg ?_))) (by first | assumption | (simp [hB.l_fPrev]; done) | (rw [bytesV, List.length_map]; assumption)) (by exact rfl) (by first | exact upd0 | exact upd1 | exact upd2 | exact upd3 | exact upd4 | exact upd5 | exact upd6 | exact upd7 | (repeat (first | exact upd0 | apply Upd.tail | apply Upd.seg))) ?_
  refine Tr.nil ?_
  refine at_n ?_
  refine Sat.seq ?_
  refine Sat.seq ?_
  -- region 2
  refine Sat.draw [(0, 0), (1, 1), (0, 2), (0, 3), (0, 4), (1, 5), (1, 6), (0, 7), (0, 8), (1, 9), (0, 10), (0, 11), (0, 12), (0, 13), (0, 14), (1, 15), (0, 16), (0, 17), (0, 18), (0, 19), (0, 20), (1, 21), (0, 22), (0, 23), (0, 24)] Mixed (by kernel_rfl) ?_
  refine Tr.fld rfl rfl rfl Try.underlying31 rfl Sz24 (by decide) _ rfl ?_
  refine Tr.load1 rfl rfl rfl Try.underlying24 rfl (by first | exact mem0 | exact mem1 | exact mem2 | exact mem3 | exact mem4 | exact mem5 | exact mem6 | exact mem7 | (repeat (first | exact List.mem_cons_self | refine List.mem_cons_of_mem _ ?_ | refine mem_seg ?_))) (by first | exact Block.get_fSeq (by first | assumption | (simp [hB.l_fPrev]; done) | exact Block.zero_ok | exact Vote.zero_ok ) | exact (by first | rfl | exact get_words (by first | omega | (simp [hB.l_fPrev]; done) | (simp [hB.l_fPrev]; omega)) | exact get_bytes (by first | omega | (simp [hB.l_fPrev]; done) | (simp [hB.l_fPrev]; omega)) | exact get_ints (by first | omega | (simp [hB.l_fPrev]; done) | (simp [hB.l_fPrev]; omega)))) ?_
  refine two (fun r hr k => Tr.gtr rfl rfl rfl rfl hr k) (fun hs2_20 => ?_) (fun hs2_20 => ?_)
  ·
    first | have hs2_2 := of_decide_eq_true hs2_20 | have hs2_2 := of_decide_eq_false hs2_20 | have hs2_2 := nd_t hs2_20 | have hs2_2 := nd_f hs2_20 | have hs2_2 := hs2_20
    refine Tr.move rfl rfl rfl ?_
    refine Tr.skp rfl rfl ?_
    refine Tr.skp rfl rfl ?_
    refine Tr.skp rfl rfl ?_
    refine Tr.skp rfl rfl ?_
    refine Tr.skp rfl rfl ?_
    refine Tr.skp rfl rfl ?_
    refine Tr.skp rfl rfl ?_
    refine Tr.skp rfl rfl ?_
    refine Tr.pick rfl rfl rfl rfl rfl rfl ?_
    refine Tr.move rfl rfl rfl ?_
    refine Tr.skp rfl rfl ?_
    refine Tr.skp rfl rfl ?_
    refine Tr.skp rfl rfl ?_
    refine Tr.skp rfl rfl ?_
    refine Tr.pick rfl rfl rfl rfl rfl rfl ?_
    refine Tr.move rfl rfl rfl ?_
    refine Tr.skp rfl rfl ?_
    refine Tr.skp rfl rfl ?_
    refine Tr.skp rfl rfl ?_
    refine Tr.skp rfl rfl ?_
    refine Tr.pick rfl rfl rfl rfl rfl rfl ?_
    refine Tr.nil ?_
    refine at_n ?_
    refine Sat.cond_t rfl rfl ?_
    refine Sat.seq ?_
    -- region 3
    refine Sat.region ?_
    refine Tr.assign rfl rfl rfl ?_
    refine Tr.nil ?_
    refine at_n ?_
    refine Sat.ret ?_
    refine at_r ?_
    refine en_r ?_
    refine ⟨_, [], res_tmp rfl rfl, (by simp), (by simp), ?_, rfl⟩
    first
      | exact congrArg i64 (bcheck_ok hnb (linksBad_not (by rw [hW.len]; exact hg))).symm
      | exact congrArg i64 (bcheck_bad hnb (linksBad_at (k := k) (by omega) (by unfold badAt; simp_all))).symm
      | exact congrArg i64 (bcheck_head (by unfold bhead bheadB; simp_all)).symm
  ·
    first | have hs2_2 := of_decide_eq_true hs2_20 | have hs2_2 := of_decide_eq_false hs2_20 | have hs2_2 := nd_t hs2_20 | have hs2_2 := nd_f hs2_20 | have hs2_2 := hs2_20
    refine Tr.move rfl rfl rfl ?_
    refine Tr.fld rfl rfl rfl Try.underlying31 rfl Sz25 (by decide) _ rfl ?_
    first
      | refine Tr.loadN (bytesV _) rfl rfl rfl Try.underlying25 rfl Sz25 (by first | exact mem0 | exact mem1 | exact mem2 | exact mem3 | exact mem4 | exact mem5 | exact mem6 | exact mem7 | (repeat (first | exact List.mem_cons_self | refine List.mem_cons_of_mem _ ?_ | refine mem_seg ?_))) (Block.row_fPrev (by first | assumption | (simp [hB.l_fPrev]; done) | exact Block.zero_ok | exact Vote.zero_ok )) (Block.rl_fPrev (by first | assumption | (simp [hB.l_fPrev]; done) | exact Block.zero_ok | exact Vote.zero_ok )) ?_
    first
      | refine Tr.loadAll rfl rfl rfl Try.underlying25 rfl Sz25 (by first | exact mem0 | exact mem1 | exact mem2 | exact mem3 | exact mem4 | exact mem5 | exact mem6 | exact mem7 | (repeat (first | exact List.mem_cons_self | refine List.mem_cons_of_mem _ ?_ | refine mem_seg ?_))) (by first | assumption | (simp [hB.l_fPrev]; done) | (rw [bytesV, List.length_map]; assumption)) ?_
      | refine Tr.loadN _ rfl rfl rfl Try.underlying25 rfl Sz25 (by first | exact mem0 | exact mem1 | exact mem2 | exact mem3 | exact mem4 | exact mem5 | exact mem6 | exact mem7 | (repeat (first | exact List.mem_cons_self | refine List.mem_cons_of_mem _ ?_ | refine mem_seg ?_))) (by exact rfl) (by first | assumption | (simp [hB.l_fPrev]; done) | (rw [bytesV, List.length_map]; assumption)) ?_
    refine Tr.eql_bytes rfl rfl rfl rfl Try.eqGuardType25 Try.underlying25 Try.underlying5 Sz5 (by first | assumption | (simp [hB.l_fPrev]; done) | (rw [bytesV, List.length_map]; assumption)) (by first | assumption | (simp [hB.l_fPrev]; done) | (rw [bytesV, List.length_map]; assumption)) rfl ?_
    refine Tr.fld rfl rfl rfl Try.underlying31 rfl Sz24 (by decide) _ rfl ?_
    refine Tr.load1 rfl rfl rfl Try.underlying24 rfl (by first | exact mem0 | exact mem1 | exact mem2 | exact mem3 | exact mem4 | exact mem5 | exact mem6 | exact mem7 | (repeat (first | exact List.mem_cons_self | refine List.mem_cons_of_mem _ ?_ | refine mem_seg ?_))) (by first | exact Block.get_fSeq (by first | assumption | (simp [hB.l_fPrev]; done) | exact Block.zero_ok | exact Vote.zero_ok ) | exact (by first | rfl | exact get_words (by first | omega | (simp [hB.l_fPrev]; done) | (simp [hB.l_fPrev]; omega)) | exact get_bytes (by first | omega | (simp [hB.l_fPrev]; done) | (simp [hB.l_fPrev]; omega)) | exact get_ints (by first | omega | (simp [hB.l_fPrev]; done) | (simp [hB.l_fPrev]; omega)))) ?_
    refine Tr.eqi rfl rfl rfl rfl rfl ?_
    refine two (fun r hr k => Tr.neb rfl rfl rfl rfl Try.underlying4 hr k) (fun hs2_110 => ?_) (fun hs2_110 => ?_)
    ·
      first | have hs2_11 := of_decide_eq_true hs2_110 | have hs2_11 := of_decide_eq_false hs2_110 | have hs2_11 := nd_t hs2_110 | have hs2_11 := nd_f hs2_110 | have hs2_11 := hs2_110
      refine Tr.pick rfl rfl rfl rfl rfl rfl ?_
      refine Tr.move rfl rfl rfl ?_
      refine Tr.skp rfl rfl ?_
      refine Tr.skp rfl rfl ?_
      refine Tr.skp rfl rfl ?_
      refine Tr.skp rfl rfl ?_
      refine Tr.pick rfl rfl rfl rfl rfl rfl ?_
      refine Tr.move rfl rfl rfl ?_
      refine Tr.skp rfl rfl ?_
      refine Tr.skp rfl rfl ?_
      refine Tr.skp rfl rfl ?_
      refine Tr.skp rfl rfl ?_
      refine Tr.pick rfl rfl rfl rfl rfl rfl ?_
      refine Tr.nil ?_
      refine at_n ?_
      refine Sat.cond_t rfl rfl ?_
      refine Sat.seq ?_
      -- region 3
      refine Sat.region ?_
      refine Tr.assign rfl rfl rfl ?_
      refine Tr.nil ?_
      refine at_n ?_
      refine Sat.ret ?_
      refine at_r ?_
      refine en_r ?_
      refine ⟨_, [], res_tmp rfl rfl, (by simp), (by simp), ?_, rfl⟩
      first
        | exact congrArg i64 (bcheck_ok hnb (linksBad_not (by rw [hW.len]; exact hg))).symm
        | exact congrArg i64 (bcheck_bad hnb (linksBad_at (k := k) (by omega) (by unfold badAt; simp_all))).symm
        | exact congrArg i64 (bcheck_head (by unfold bhead bheadB; simp_all)).symm
    ·
      first | have hs2_11 := of_decide_eq_true hs2_110 | have hs2_11 := of_decide_eq_false hs2_110 | have hs2_11 := nd_t hs2_110 | have hs2_11 := nd_f hs2_110 | have hs2_11 := hs2_110
      refine Tr.pick rfl rfl rfl rfl rfl rfl ?_
      refine Tr.move rfl rfl rfl ?_
      refine Tr.fld rfl rfl rfl Try.underlying31 rfl Sz26 (by decide) _ rfl ?_
      refine Tr.load1 rfl rfl rfl Try.underlying26 rfl (by first | exact mem0 | exact mem1 | exact mem2 | exact mem3 | exact mem4 | exact mem5 | exact mem6 | exact mem7 | (repeat (first | exact List.mem_cons_self | refine List.mem_cons_of_mem _ ?_ | refine mem_seg ?_))) (by first | exact Block.get_fLinks (by first | assumption | (simp [hB.l_fPrev]; done) | exact Block.zero_ok | exact Vote.zero_ok ) | exact (by first | rfl | exact get_words (by first | omega | (simp [hB.l_fPrev]; done) | (simp [hB.l_fPrev]; omega)) | exact get_bytes (by first | omega | (simp [hB.l_fPrev]; done) | (simp [hB.l_fPrev]; omega)) | exact get_ints (by first | omega | (simp [hB.l_fPrev]; done) | (simp [hB.l_fPrev]; omega)))) ?_
      refine Tr.lenSl rfl rfl rfl Try.underlying26 ?_
      refine two (fun r hr k => Tr.gtr rfl rfl rfl rfl hr k) (fun hs2_170 => ?_) (fun hs2_170 => ?_)
      ·
        first | have hs2_17 := of_decide_eq_true hs2_170 | have hs2_17 := of_decide_eq_false hs2_170 | have hs2_17 := nd_t hs2_170 | have hs2_17 := nd_f hs2_170 | have hs2_17 := hs2_170
        refine Tr.pick rfl rfl rfl rfl rfl rfl ?_
        refine Tr.move rfl rfl rfl ?_
        refine Tr.skp rfl rfl ?_
        refine Tr.skp rfl rfl ?_
        refine Tr.skp rfl rfl ?_
        refine Tr.skp rfl rfl ?_
        refine Tr.pick rfl rfl rfl rfl rfl rfl ?_
        refine Tr.nil ?_
        refine at_n ?_
        refine Sat.cond_t rfl rfl ?_
        refine Sat.seq ?_
        -- region 3
        refine Sat.region ?_
        refine Tr.assign rfl rfl rfl ?_
        refine Tr.nil ?_
        refine at_n ?_
        refine Sat.ret ?_
        refine at_r ?_
        refine en_r ?_
        refine ⟨_, [], res_tmp rfl rfl, (by simp), (by simp), ?_, rfl⟩
        first
          | exact congrArg i64 (bcheck_ok hnb (linksBad_not (by rw [hW.len]; exact hg))).symm
          | exact congrArg i64 (bcheck_bad hnb (linksBad_at (k := k) (by omega) (by unfold badAt; simp_all))).symm
          | exact congrArg i64 (bcheck_head (by unfold bhead bheadB; simp_all)).symm
      ·
        first | have hs2_17 := of_decide_eq_true hs2_170 | have hs2_17 := of_decide_eq_false hs2_170 | have hs2_17 := nd_t hs2_170 | have hs2_17 := nd_f hs2_170 | have hs2_17 := hs2_170
        refine Tr.pick rfl rfl rfl rfl rfl rfl ?_
        refine Tr.move rfl rfl rfl ?_
        refine Tr.fld rfl rfl rfl Try.underlying31 rfl Sz27 (by decide) _ rfl ?_
        refine Tr.load1 rfl rfl rfl Try.underlying27 rfl (by first | exact mem0 | exact mem1 | exact mem2 | exact mem3 | exact mem4 | exact mem5 | exact mem6 | exact mem7 | (repeat (first | exact List.mem_cons_self | refine List.mem_cons_of_mem _ ?_ | refine mem_seg ?_))) (by first | exact Block.get_fData (by first | assumption | (simp [hB.l_fPrev]; done) | exact Block.zero_ok | exact Vote.zero_ok ) | exact (by first | rfl | exact get_words (by first | omega | (simp [hB.l_fPrev]; done) | (simp [hB.l_fPrev]; omega)) | exact get_bytes (by first | omega | (simp [hB.l_fPrev]; done) | (simp [hB.l_fPrev]; omega)) | exact get_ints (by first | omega | (simp [hB.l_fPrev]; done) | (simp [hB.l_fPrev]; omega)))) ?_
        refine Tr.lenSl rfl rfl rfl Try.underlying27 ?_
        refine Tr.gtr rfl rfl rfl rfl rfl ?_
        refine Tr.pick rfl rfl rfl rfl rfl rfl ?_
        refine Tr.nil ?_
        refine at_n ?_
        first
          | refine Sat.condP rfl (fun hc0 => ?_) (fun hc0 => ?_)
          | refine Sat.condNP rfl (fun hc0 => ?_) (fun hc0 => ?_)
          | refine Sat.cond rfl (fun hc0 => ?_) (fun hc0 => ?_)
        ·
          refine Sat.seq ?_
          -- region 3
          refine Sat.region ?_
          refine Tr.assign rfl rfl rfl ?_
          refine Tr.nil ?_
          refine at_n ?_
          refine Sat.ret ?_
          refine at_r ?_
          refine en_r ?_
          refine ⟨_, [], res_tmp rfl rfl, (by simp), (by simp), ?_, rfl⟩
          first
            | exact congrArg i64 (bcheck_ok hnb (linksBad_not (by rw [hW.len]; exact hg))).symm
            | exact congrArg i64 (bcheck_bad hnb (linksBad_at (k := k) (by omega) (by unfold badAt; simp_all))).symm
            | exact congrArg i64 (bcheck_head (by unfold bhead bheadB; simp_all)).symm
        ·
          have hnb : ¬ bhead B := by unfold bhead bheadB; simp_all
          refine Sat.skip ?_
          refine at_n ?_
          refine Sat.seq ?_
          refine Sat.seq ?_
          -- region 4
          refine Sat.region ?_
          refine Tr.fld rfl rfl rfl Try.underlying31 rfl Sz26 (by decide) _ rfl ?_
          refine Tr.load1 rfl rfl rfl Try.underlying26 rfl (by first | exact mem0 | exact mem1 | exact mem2 | exact mem3 | exact mem4 | exact mem5 | exact mem6 | exact mem7 | (repeat (first | exact List.mem_cons_self | refine List.mem_cons_of_mem _ ?_ | refine mem_seg ?_))) (by first | exact Block.get_fLinks (by first | assumption | (simp [hB.l_fPrev]; done) | exact Block.zero_ok | exact Vote.zero_ok ) | exact (by first | rfl | exact get_words (by first | omega | (simp [hB.l_fPrev]; done) | (simp [hB.l_fPrev]; omega)) | exact get_bytes (by first | omega | (simp [hB.l_fPrev]; done) | (simp [hB.l_fPrev]; omega)) | exact get_ints (by first | omega | (simp [hB.l_fPrev]; done) | (simp [hB.l_fPrev]; omega)))) ?_
          refine Tr.lenSl rfl rfl rfl Try.underlying26 ?_
          refine Tr.move rfl rfl rfl ?_
          refine Tr.nil ?_
          refine at_n ?_
          refine Sat.block ?_
          refine Sat.loop (ι := Nat) (fun k => ⟨[(1, ptr n1 0), (3, ptr n3 0), (33, B.fLinks.v), (34, i64 (B.fLinks.n : Int)), (35, i64 (k : Int))], [⟨n3, bytesV (List.replicate 32 0), 25, 32⟩, ⟨n1, B.cells, 31, B.cells.length⟩]⟩) (fun k => k ≤ B.fLinks.n ∧ ∀ j, j < k → badAt B.fPrev ls j = false) (fun k => B.fLinks.n - k) (0) ?_ ?_ ?_
          · exact ⟨by omega, fun j hj => by omega⟩
          · exact weak_of (wk1 rfl (wk1 rfl (wk1 rfl (wk1 rfl (wk1 rfl wk0))))) (wh1 (by first | exact mem0 | exact mem1 | exact mem2 | exact mem3 | exact mem4 | exact mem5 | exact mem6 | exact mem7 | (repeat (first | exact List.mem_cons_self | refine List.mem_cons_of_mem _ ?_ | refine mem_seg ?_))) (wh1 (by first | exact mem0 | exact mem1 | exact mem2 | exact mem3 | exact mem4 | exact mem5 | exact mem6 | exact mem7 | (repeat (first | exact List.mem_cons_self | refine List.mem_cons_of_mem _ ?_ | refine mem_seg ?_))) wh0)) (by repeat (first | exact ns_nil | refine ns_keep rfl ?_ | refine ns_skip ?_))
          ·
            rintro k ⟨hk, hg⟩
            refine Sat.seq ?_
            -- region 5
            refine Sat.region ?_
            refine Tr.lss rfl rfl rfl rfl rfl ?_
            refine Tr.nil ?_
            refine at_n ?_
            refine Sat.seq ?_
            first
              | refine Sat.condP rfl (fun hc1 => ?_) (fun hc1 => ?_)
              | refine Sat.condNP rfl (fun hc1 => ?_) (fun hc1 => ?_)
              | refine Sat.cond rfl (fun hc1 => ?_) (fun hc1 => ?_)
            ·
              have hk2 : k < B.fLinks.n := by omega
              have hll := hW.len
              obtain ⟨b, o, hbp, hbs⟩ := hW.see.at (by rw [flatB_length hW.row]; omega)
              have hr0 : (ls.getD k []).length = 32 := getD_len hW.row (by omega)
              have hr1 : (ls.getD (k - 1) []).length = 32 := getD_len hW.row (by omega)
              refine Sat.skip ?_
              refine at_n ?_
              refine Sat.join (ι := Unit) (fun _u => ⟨[(1, ptr n1 0), (3, ptr n3 0), (33, B.fLinks.v), (34, i64 (B.fLinks.n : Int)), (35, i64 (k : Int))], [⟨n3, bytesV (List.replicate 32 0), 25, 32⟩, ⟨n1, B.cells, 31, B.cells.length⟩]⟩) (fun _u => badAt B.fPrev ls k = false) ?_ ?_
              ·
                refine Sat.block ?_
                refine Sat.seq ?_
                -- region 6
                refine Sat.region ?_
                refine Tr.move rfl rfl rfl ?_
                refine Tr.idxSlP 32 rfl rfl rfl hbp rfl Try.underlying26 Sz25 k rfl (by omega) ?_
                refine Tr.loadEN (bytesV (ls.getD (k) [])) rfl rfl rfl Try.underlying25 rfl Sz25 (by simp) (by rw [bytesV, List.length_map]; exact getD_len hW.row (by rw [hW.len]; omega)) (sees_row hW.row hbs (by rw [hW.len]; omega)) ?_
                refine Tr.alloc (cs := (bytesV (List.replicate 32 0))) rfl Zr25 rfl ?_
                intro n5 hn5 hf5
                refine Tr.assign rfl rfl rfl ?_
                first
                  | refine Tr.storeAll rfl rfl rfl rfl (by first | exact bytesV_cell _ | simp [isCell]) Sz25 (by first | assumption | (simp [hB.l_fPrev]; done) | (rw [bytesV, List.length_map]; assumption)) (by first | exact mem0 | exact mem1 | exact mem2 | exact mem3 | exact mem4 | exact mem5 | exact mem6 | exact mem7 | (repeat (first | exact List.mem_cons_self | refine List.mem_cons_of_mem _ ?_ | refine mem_seg ?_))) (by first | assumption | (simp [hB.l_fPrev]; done) | (rw [bytesV, List.length_map]; assumption)) (by first | exact upd0 | exact upd1 | exact upd2 | exact upd3 | exact upd4 | exact upd5 | exact upd6 | exact upd7 | (repeat (first | exact upd0 | apply Upd.tail | apply Upd.seg))) ?_
                  | refine Tr.storeN _ rfl rfl rfl rfl rfl (by first | exact bytesV_cell _ | simp [isCell]) Sz25 (by first | assumption | (simp [hB.l_fPrev]; done) | (rw [bytesV, List.length_map]; assumption)) (by first | exact mem0 | exact mem1 | exact mem2 | exact mem3 | exact mem4 | exact mem5 | exact mem6 | exact mem7 | (repeat (first | exact List.mem_cons_self | refine List.mem_cons_of_mem _ ?_ | refine mem_seg ?_))) (by first | assumption | (simp [hB.l_fPrev]; done) | (rw [bytesV, List.length_map]; assumption)) (by exact rfl) (by first | exact upd0 | exact upd1 | exact upd2 | exact upd3 | exact upd4 | exact upd5 | exact upd6 | exact upd7 | (repeat (first | exact upd0 | apply Upd.tail | apply Upd.seg))) ?_
                refine Tr.nil ?_
                refine at_n ?_
                refine Sat.seq ?_
                -- region 7
                refine Sat.draw [(1, 0), (1, 1), (0, 2), (0, 3), (1, 4), (0, 5), (1, 6), (0, 7), (0, 8), (0, 9), (0, 10), (0, 11), (0, 12), (0, 13), (1, 14), (0, 15), (0, 16), (0, 17), (1, 18), (1, 19), (3, 20), (0, 21), (0, 22), (0, 23)] Mixed (by kernel_rfl) ?_
                first
                  | refine Tr.loadAll rfl rfl rfl Try.underlying25 rfl Sz25 (by first | exact mem0 | exact mem1 | exact mem2 | exact mem3 | exact mem4 | exact mem5 | exact mem6 | exact mem7 | (repeat (first | exact List.mem_cons_self | refine List.mem_cons_of_mem _ ?_ | refine mem_seg ?_))) (by first | assumption | (simp [hB.l_fPrev]; done) | (rw [bytesV, List.length_map]; assumption)) ?_
                  | refine Tr.loadN _ rfl rfl rfl Try.underlying25 rfl Sz25 (by first | exact mem0 | exact mem1 | exact mem2 | exact mem3 | exact mem4 | exact mem5 | exact mem6 | exact mem7 | (repeat (first | exact List.mem_cons_self | refine List.mem_cons_of_mem _ ?_ | refine mem_seg ?_))) (by exact rfl) (by first | assumption | (simp [hB.l_fPrev]; done) | (rw [bytesV, List.length_map]; assumption)) ?_
                first
                  | refine Tr.loadAll rfl rfl rfl Try.underlying25 rfl Sz25 (by first | exact mem0 | exact mem1 | exact mem2 | exact mem3 | exact mem4 | exact mem5 | exact mem6 | exact mem7 | (repeat (first | exact List.mem_cons_self | refine List.mem_cons_of_mem _ ?_ | refine mem_seg ?_))) (by first | assumption | (simp [hB.l_fPrev]; done) | (rw [bytesV, List.length_map]; assumption)) ?_
                  | refine Tr.loadN _ rfl rfl rfl Try.underlying25 rfl Sz25 (by first | exact mem0 | exact mem1 | exact mem2 | exact mem3 | exact mem4 | exact mem5 | exact mem6 | exact mem7 | (repeat (first | exact List.mem_cons_self | refine List.mem_cons_of_mem _ ?_ | refine mem_seg ?_))) (by exact rfl) (by first | assumption | (simp [hB.l_fPrev]; done) | (rw [bytesV, List.length_map]; assumption)) ?_
                refine two (fun r hr k => Tr.eql_bytes rfl rfl rfl rfl Try.eqGuardType25 Try.underlying25 Try.underlying5 Sz5 (by first | assumption | (simp [hB.l_fPrev]; done) | (rw [bytesV, List.length_map]; assumption)) (by first | assumption | (simp [hB.l_fPrev]; done) | (rw [bytesV, List.length_map]; assumption)) hr k) (fun hs7_20 => ?_) (fun hs7_20 => ?_)
                ·
                  first | have hs7_2 := of_decide_eq_true hs7_20 | have hs7_2 := of_decide_eq_false hs7_20 | have hs7_2 := nd_t hs7_20 | have hs7_2 := nd_f hs7_20 | have hs7_2 := hs7_20
                  refine Tr.move rfl rfl rfl ?_
                  refine Tr.skp rfl rfl ?_
                  refine Tr.skp rfl rfl ?_
                  refine Tr.skp rfl rfl ?_
                  refine Tr.skp rfl rfl ?_
                  refine Tr.pick rfl rfl rfl rfl rfl rfl ?_
                  refine Tr.move rfl rfl rfl ?_
                  refine Tr.skp rfl rfl ?_
                  refine Tr.skp rfl rfl ?_
                  refine Tr.skp rfl rfl ?_
                  refine Tr.skp rfl rfl ?_
                  refine Tr.skp rfl rfl ?_
                  refine Tr.skp rfl rfl ?_
                  refine Tr.skp rfl rfl ?_
                  refine Tr.skp rfl rfl ?_
                  refine Tr.skp rfl rfl ?_
                  refine Tr.skp rfl rfl ?_
                  refine Tr.skp rfl rfl ?_
                  refine Tr.skp rfl rfl ?_
                  refine Tr.skp rfl rfl ?_
                  refine Tr.pick rfl rfl rfl rfl rfl rfl ?_
                  refine Tr.nil ?_
                  refine at_n ?_
                  refine Sat.cond_t rfl rfl ?_
                  refine Sat.seq ?_
                  -- region 8
                  refine Sat.region ?_
                  refine Tr.assign rfl rfl rfl ?_
                  refine Tr.nil ?_
                  refine at_n ?_
                  refine Sat.ret ?_
                  refine bl_r ?_
                  refine at_r ?_
                  refine at_r ?_
                  refine bl_r ?_
                  refine at_r ?_
                  refine en_r ?_
                  refine ⟨_, [], res_tmp rfl rfl, (by simp), (by simp), ?_, rfl⟩
                  first
                    | exact congrArg i64 (bcheck_ok hnb (linksBad_not (by rw [hW.len]; exact hg))).symm
                    | exact congrArg i64 (bcheck_bad hnb (linksBad_at (k := k) (by omega) (by unfold badAt; simp_all))).symm
                    | exact congrArg i64 (bcheck_head (by unfold bhead bheadB; simp_all)).symm
                ·
                  first | have hs7_2 := of_decide_eq_true hs7_20 | have hs7_2 := of_decide_eq_false hs7_20 | have hs7_2 := nd_t hs7_20 | have hs7_2 := nd_f hs7_20 | have hs7_2 := hs7_20
                  refine Tr.move rfl rfl rfl ?_
                  first
                    | refine Tr.loadAll rfl rfl rfl Try.underlying25 rfl Sz25 (by first | exact mem0 | exact mem1 | exact mem2 | exact mem3 | exact mem4 | exact mem5 | exact mem6 | exact mem7 | (repeat (first | exact List.mem_cons_self | refine List.mem_cons_of_mem _ ?_ | refine mem_seg ?_))) (by first | assumption | (simp [hB.l_fPrev]; done) | (rw [bytesV, List.length_map]; assumption)) ?_
                    | refine Tr.loadN _ rfl rfl rfl Try.underlying25 rfl Sz25 (by first | exact mem0 | exact mem1 | exact mem2 | exact mem3 | exact mem4 | exact mem5 | exact mem6 | exact mem7 | (repeat (first | exact List.mem_cons_self | refine List.mem_cons_of_mem _ ?_ | refine mem_seg ?_))) (by exact rfl) (by first | assumption | (simp [hB.l_fPrev]; done) | (rw [bytesV, List.length_map]; assumption)) ?_
                  refine Tr.fld rfl rfl rfl Try.underlying31 rfl Sz25 (by decide) _ rfl ?_
                  first
                    | refine Tr.loadN (bytesV _) rfl rfl rfl Try.underlying25 rfl Sz25 (by first | exact mem0 | exact mem1 | exact mem2 | exact mem3 | exact mem4 | exact mem5 | exact mem6 | exact mem7 | (repeat (first | exact List.mem_cons_self | refine List.mem_cons_of_mem _ ?_ | refine mem_seg ?_))) (Block.row_fPrev (by first | assumption | (simp [hB.l_fPrev]; done) | exact Block.zero_ok | exact Vote.zero_ok )) (Block.rl_fPrev (by first | assumption | (simp [hB.l_fPrev]; done) | exact Block.zero_ok | exact Vote.zero_ok )) ?_
                  refine two (fun r hr k => Tr.eql_bytes rfl rfl rfl rfl Try.eqGuardType25 Try.underlying25 Try.underlying5 Sz5 (by first | assumption | (simp [hB.l_fPrev]; done) | (rw [bytesV, List.length_map]; assumption)) (by first | assumption | (simp [hB.l_fPrev]; done) | (rw [bytesV, List.length_map]; assumption)) hr k) (fun hs7_70 => ?_) (fun hs7_70 => ?_)
                  ·
                    first | have hs7_7 := of_decide_eq_true hs7_70 | have hs7_7 := of_decide_eq_false hs7_70 | have hs7_7 := nd_t hs7_70 | have hs7_7 := nd_f hs7_70 | have hs7_7 := hs7_70
                    refine Tr.pick rfl rfl rfl rfl rfl rfl ?_
                    refine Tr.move rfl rfl rfl ?_
                    refine Tr.skp rfl rfl ?_
                    refine Tr.skp rfl rfl ?_
                    refine Tr.skp rfl rfl ?_
                    refine Tr.skp rfl rfl ?_
                    refine Tr.skp rfl rfl ?_
                    refine Tr.skp rfl rfl ?_
                    refine Tr.skp rfl rfl ?_
                    refine Tr.skp rfl rfl ?_
                    refine Tr.skp rfl rfl ?_
                    refine Tr.skp rfl rfl ?_
                    refine Tr.skp rfl rfl ?_
                    refine Tr.skp rfl rfl ?_
                    refine Tr.skp rfl rfl ?_
                    refine Tr.pick rfl rfl rfl rfl rfl rfl ?_
                    refine Tr.nil ?_
                    refine at_n ?_
                    refine Sat.cond_t rfl rfl ?_
                    refine Sat.seq ?_
                    -- region 8
                    refine Sat.region ?_
                    refine Tr.assign rfl rfl rfl ?_
                    refine Tr.nil ?_
                    refine at_n ?_
                    refine Sat.ret ?_
                    refine bl_r ?_
                    refine at_r ?_
                    refine at_r ?_
                    refine bl_r ?_
                    refine at_r ?_
                    refine en_r ?_
                    refine ⟨_, [], res_tmp rfl rfl, (by simp), (by simp), ?_, rfl⟩
                    first
                      | exact congrArg i64 (bcheck_ok hnb (linksBad_not (by rw [hW.len]; exact hg))).symm
                      | exact congrArg i64 (bcheck_bad hnb (linksBad_at (k := k) (by omega) (by unfold badAt; simp_all))).symm
                      | exact congrArg i64 (bcheck_head (by unfold bhead bheadB; simp_all)).symm
                  ·
                    first | have hs7_7 := of_decide_eq_true hs7_70 | have hs7_7 := of_decide_eq_false hs7_70 | have hs7_7 := nd_t hs7_70 | have hs7_7 := nd_f hs7_70 | have hs7_7 := hs7_70
                    refine Tr.pick rfl rfl rfl rfl rfl rfl ?_
                    refine Tr.move rfl rfl rfl ?_
                    refine Tr.move rfl rfl rfl ?_
                    refine two (fun r hr k => Tr.gtr rfl rfl rfl rfl hr k) (fun hs7_110 => ?_) (fun hs7_110 => ?_)
                    ·
                      first | have hs7_11 := of_decide_eq_true hs7_110 | have hs7_11 := of_decide_eq_false hs7_110 | have hs7_11 := nd_t hs7_110 | have hs7_11 := nd_f hs7_110 | have hs7_11 := hs7_110
                      refine Tr.move rfl rfl rfl ?_
                      refine Tr.fld rfl rfl rfl Try.underlying31 rfl Sz26 (by decide) _ rfl ?_
                      refine Tr.load1 rfl rfl rfl Try.underlying26 rfl (by first | exact mem0 | exact mem1 | exact mem2 | exact mem3 | exact mem4 | exact mem5 | exact mem6 | exact mem7 | (repeat (first | exact List.mem_cons_self | refine List.mem_cons_of_mem _ ?_ | refine mem_seg ?_))) (by first | exact Block.get_fLinks (by first | assumption | (simp [hB.l_fPrev]; done) | exact Block.zero_ok | exact Vote.zero_ok ) | exact (by first | rfl | exact get_words (by first | omega | (simp [hB.l_fPrev]; done) | (simp [hB.l_fPrev]; omega)) | exact get_bytes (by first | omega | (simp [hB.l_fPrev]; done) | (simp [hB.l_fPrev]; omega)) | exact get_ints (by first | omega | (simp [hB.l_fPrev]; done) | (simp [hB.l_fPrev]; omega)))) ?_
                      refine Tr.move rfl rfl rfl ?_
                      refine Tr.sub_i64 rfl rfl rfl rfl (by omega) ?_
                      refine Tr.idxSlP 32 rfl rfl rfl hbp rfl Try.underlying26 Sz25 (k - 1) (by omega) (by omega) ?_
                      refine Tr.loadEN (bytesV (ls.getD (k - 1) [])) rfl rfl rfl Try.underlying25 rfl Sz25 (by simp) (by rw [bytesV, List.length_map]; exact getD_len hW.row (by rw [hW.len]; omega)) (sees_row hW.row hbs (by rw [hW.len]; omega)) ?_
                      first
                        | refine Tr.loadAll rfl rfl rfl Try.underlying25 rfl Sz25 (by first | exact mem0 | exact mem1 | exact mem2 | exact mem3 | exact mem4 | exact mem5 | exact mem6 | exact mem7 | (repeat (first | exact List.mem_cons_self | refine List.mem_cons_of_mem _ ?_ | refine mem_seg ?_))) (by first | assumption | (simp [hB.l_fPrev]; done) | (rw [bytesV, List.length_map]; assumption)) ?_
                        | refine Tr.loadN _ rfl rfl rfl Try.underlying25 rfl Sz25 (by first | exact mem0 | exact mem1 | exact mem2 | exact mem3 | exact mem4 | exact mem5 | exact mem6 | exact mem7 | (repeat (first | exact List.mem_cons_self | refine List.mem_cons_of_mem _ ?_ | refine mem_seg ?_))) (by exact rfl) (by first | assumption | (simp [hB.l_fPrev]; done) | (rw [bytesV, List.length_map]; assumption)) ?_
                      refine Tr.callV rfl rfl rfl rfl Body44 (block_cmp _ _ hr1 hr0) (fun _ _ => trivial) ?_
                      refine Tr.geq rfl rfl rfl rfl rfl ?_
                      refine Tr.pick rfl rfl rfl rfl rfl rfl ?_
                      refine Tr.pick rfl rfl rfl rfl rfl rfl ?_
                      refine Tr.nil ?_
                      refine at_n ?_
                      first
                        | refine Sat.condP rfl (fun hc2 => ?_) (fun hc2 => ?_)
                        | refine Sat.condNP rfl (fun hc2 => ?_) (fun hc2 => ?_)
                        | refine Sat.cond rfl (fun hc2 => ?_) (fun hc2 => ?_)
                      ·
                        refine Sat.seq ?_
                        -- region 8
                        refine Sat.region ?_
                        refine Tr.assign rfl rfl rfl ?_
                        refine Tr.nil ?_
                        refine at_n ?_
                        refine Sat.ret ?_
                        refine bl_r ?_
                        refine at_r ?_
                        refine at_r ?_
                        refine bl_r ?_
                        refine at_r ?_
                        refine en_r ?_
                        refine ⟨_, [], res_tmp rfl rfl, (by simp), (by simp), ?_, rfl⟩
                        first
                          | exact congrArg i64 (bcheck_ok hnb (linksBad_not (by rw [hW.len]; exact hg))).symm
                          | exact congrArg i64 (bcheck_bad hnb (linksBad_at (k := k) (by omega) (by unfold badAt; simp_all))).symm
                          | exact congrArg i64 (bcheck_head (by unfold bhead bheadB; simp_all)).symm
                      ·
                        refine Sat.skip ?_
                        refine bl_n ?_
                        refine at_n ?_
                        refine ⟨(), by unfold badAt; simp_all, weak_of (wk1 rfl (wk1 rfl (wk1 rfl (wk1 rfl (wk1 rfl wk0))))) (wh1 (by first | exact mem0 | exact mem1 | exact mem2 | exact mem3 | exact mem4 | exact mem5 | exact mem6 | exact mem7 | (repeat (first | exact List.mem_cons_self | refine List.mem_cons_of_mem _ ?_ | refine mem_seg ?_))) (wh1 (by first | exact mem0 | exact mem1 | exact mem2 | exact mem3 | exact mem4 | exact mem5 | exact mem6 | exact mem7 | (repeat (first | exact List.mem_cons_self | refine List.mem_cons_of_mem _ ?_ | refine mem_seg ?_))) wh0)) (by repeat (first | exact ns_nil | refine ns_keep rfl ?_ | refine ns_skip ?_))⟩
                    ·
                      first | have hs7_11 := of_decide_eq_true hs7_110 | have hs7_11 := of_decide_eq_false hs7_110 | have hs7_11 := nd_t hs7_110 | have hs7_11 := nd_f hs7_110 | have hs7_11 := hs7_110
                      refine Tr.move rfl rfl rfl ?_
                      refine Tr.skp rfl rfl ?_
                      refine Tr.skp rfl rfl ?_
                      refine Tr.skp rfl rfl ?_
                      refine Tr.skp rfl rfl ?_
                      refine Tr.skp rfl rfl ?_
                      refine Tr.skp rfl rfl ?_
                      refine Tr.skp rfl rfl ?_
                      refine Tr.skp rfl rfl ?_
                      refine Tr.skp rfl rfl ?_
                      refine Tr.pick rfl rfl rfl rfl rfl rfl ?_
                      refine Tr.pick rfl rfl rfl rfl rfl rfl ?_
                      refine Tr.nil ?_
                      refine at_n ?_
                      refine Sat.cond_f rfl rfl ?_
                      refine Sat.skip ?_
                      refine bl_n ?_
                      refine at_n ?_
                      refine ⟨(), by unfold badAt; simp_all, weak_of (wk1 rfl (wk1 rfl (wk1 rfl (wk1 rfl (wk1 rfl wk0))))) (wh1 (by first | exact mem0 | exact mem1 | exact mem2 | exact mem3 | exact mem4 | exact mem5 | exact mem6 | exact mem7 | (repeat (first | exact List.mem_cons_self | refine List.mem_cons_of_mem _ ?_ | refine mem_seg ?_))) (wh1 (by first | exact mem0 | exact mem1 | exact mem2 | exact mem3 | exact mem4 | exact mem5 | exact mem6 | exact mem7 | (repeat (first | exact List.mem_cons_self | refine List.mem_cons_of_mem _ ?_ | refine mem_seg ?_))) wh0)) (by repeat (first | exact ns_nil | refine ns_keep rfl ?_ | refine ns_skip ?_))⟩
              ·
                intro _u hj
                have hgk := hj
                -- region 9
                refine Sat.region ?_
                refine Tr.add_i64 rfl rfl rfl rfl (by omega) ?_
                refine Tr.move rfl rfl rfl ?_
                refine Tr.nil ?_
                refine at_n ?_
                exact ⟨k + 1, ⟨by omega, fun j hj => by rcases Nat.lt_succ_iff_lt_or_eq.1 hj with h | rfl; exact hg j h; exact hgk⟩, by omega, weak_of (wk1 rfl (wk1 rfl (wk1 rfl (wk1 rfl (wk1 rfl wk0))))) (wh1 (by first | exact mem0 | exact mem1 | exact mem2 | exact mem3 | exact mem4 | exact mem5 | exact mem6 | exact mem7 | (repeat (first | exact List.mem_cons_self | refine List.mem_cons_of_mem _ ?_ | refine mem_seg ?_))) (wh1 (by first | exact mem0 | exact mem1 | exact mem2 | exact mem3 | exact mem4 | exact mem5 | exact mem6 | exact mem7 | (repeat (first | exact List.mem_cons_self | refine List.mem_cons_of_mem _ ?_ | refine mem_seg ?_))) wh0)) (by repeat (first | exact ns_nil | refine ns_keep rfl ?_ | refine ns_skip ?_))⟩
            ·
              obtain rfl : k = B.fLinks.n := by omega
              refine Sat.exit ?_
              refine at_x ?_
              refine at_x ?_
              refine bl_h ?_
              refine at_n ?_
              refine Sat.seq ?_
              -- region 10
              refine Sat.region ?_
              refine Tr.assign rfl rfl rfl ?_
              refine Tr.nil ?_
              refine at_n ?_
              refine Sat.ret ?_
              refine en_r ?_
              refine ⟨_, [], res_tmp rfl rfl, (by simp), (by simp), ?_, rfl⟩
              first
                | exact congrArg i64 (bcheck_ok hnb (linksBad_not (by rw [hW.len]; exact hg))).symm
                | exact congrArg i64 (bcheck_bad hnb (linksBad_at (k := k) (by omega) (by unfold badAt; simp_all))).symm
                | exact congrArg i64 (bcheck_head (by unfold bhead bheadB; simp_all)).symm


def lightB (xs : List Block) (m : Int) : Bool := (!decide (m < (xs.length : Int))) && (xs.all fun x => decide ((x.fLinks.n : Int) ≤ 40) && decide ((x.fData.n : Int) ≤ 2000))
theorem blk_cell {w : World} {b o k j : Nat} {xs : List Block} {x : Block} {v : Value} (hok : ∀ x ∈ xs, x.ok) (hs : Sees w b o (xs.map Block.cells).flatten) (hx : xs[k]? = some x) (hj : j < 131) (hv : x.cells[j]? = some v) : w.cell? ⟨b, o + k * 131 + j, none⟩ = some v := by
  rw [Nat.add_assoc]
  refine hs _ v ?_
  rw [flatten_get 131 _ k j x.cells (fun l hl => ?_) (by rw [List.getElem?_map, hx]; rfl) hj]
  · exact hv
  · obtain ⟨y, hy, rfl⟩ := List.mem_map.1 hl
    exact Block.length (hok y hy)
theorem all_take_step {xs : List Block} {f : Block → Bool} {k : Nat} {x : Block} (hx : xs[k]? = some x) (h : (xs.take k).all f = true) (hf : f x = true) : (xs.take (k + 1)).all f = true := by
  have hk : k < xs.length := (List.getElem?_eq_some_iff.1 hx).1
  rw [List.take_succ_eq_append_getElem hk, List.all_append, h]
  have : xs[k] = x := (List.getElem?_eq_some_iff.1 hx).2
  simp [this, hf]
theorem all_bad {xs : List Block} {f : Block → Bool} {k : Nat} {x : Block} (hx : xs[k]? = some x) (hf : f x = false) : xs.all f = false := by
  rw [List.all_eq_false]
  exact ⟨x, List.mem_of_getElem? hx, by rw [hf]; simp⟩


set_option maxRecDepth 100000 in
set_option maxHeartbeats 1000000 in
theorem light_blocks (b o c n : Nat) (xs : List Block) (hok : ∀ x ∈ xs, x.ok) (hx : xs.length = n) (hn : n ≤ 1000000) (m : Int) : Meets Try.prog 8 [.slice (some ⟨b, o, none⟩) n c, i64 m] [] (fun W => Sees W b o (xs.map Block.cells).flatten) (fun v out => v = .bool (lightB xs m) ∧ out = []) := by
  intro W hW
  refine calls_of (hp0 := []) Try.func8 rfl 32 Try.ntmps8 rfl (HRep.nil _) ?_
  refine Sat.seq ?_
  -- region 0
  refine Sat.region ?_
  refine Tr.assign rfl rfl rfl ?_
  refine Tr.nil ?_
  refine at_n ?_
  refine Sat.seq ?_
  refine Sat.seq ?_
  -- region 1
  refine Sat.region ?_
  refine Tr.move rfl rfl rfl ?_
  refine Tr.lenSl rfl rfl rfl Try.underlying34 ?_
  refine Tr.move rfl rfl rfl ?_
  refine Tr.gtr rfl rfl rfl rfl rfl ?_
  refine Tr.nil ?_
  refine at_n ?_
  first
    | refine Sat.condP rfl (fun hc0 => ?_) (fun hc0 => ?_)
    | refine Sat.condNP rfl (fun hc0 => ?_) (fun hc0 => ?_)
    | refine Sat.cond rfl (fun hc0 => ?_) (fun hc0 => ?_)
  ·
    refine Sat.seq ?_
    -- region 2
    refine Sat.region ?_
    refine Tr.assign rfl rfl rfl ?_
    refine Tr.nil ?_
    refine at_n ?_
    refine Sat.ret ?_
    refine at_r ?_
    refine en_r ?_
    refine ⟨_, [], res_tmp rfl rfl, (by simp), (by simp), ?_, rfl⟩
    first
      | (rw [lightB, all_bad hxk hgx, Bool.and_false]; done)
      | (rw [List.take_of_length_le (by omega)] at hg; rw [lightB, hg, Bool.and_true]; simp [hx]; omega)
      | (simp [lightB]; omega)
  ·
    refine Sat.skip ?_
    refine at_n ?_
    refine Sat.seq ?_
    refine Sat.seq ?_
    -- region 3
    refine Sat.region ?_
    refine Tr.assign rfl rfl rfl ?_
    refine Tr.nil ?_
    refine at_n ?_
    refine Sat.block ?_
    refine Sat.loop (ι := Nat) (fun k => ⟨[(0, .slice (some ⟨b, o, none⟩) n c), (5, i64 (k : Int))], []⟩) (fun k => k ≤ n ∧ (xs.take k).all (fun x : Block => decide ((x.fLinks.n : Int) ≤ 40) && decide ((x.fData.n : Int) ≤ 2000)) = true) (fun k => n - k) (0) ?_ ?_ ?_
    · exact ⟨by omega, rfl⟩
    · exact weak_of (wk1 rfl (wk1 rfl wk0)) wh0 (by repeat (first | exact ns_nil | refine ns_keep rfl ?_ | refine ns_skip ?_))
    ·
      rintro k ⟨hk, hg⟩
      refine Sat.seq ?_
      refine Sat.seq ?_
      -- region 4
      refine Sat.region ?_
      refine Tr.move rfl rfl rfl ?_
      refine Tr.move rfl rfl rfl ?_
      refine Tr.lenSl rfl rfl rfl Try.underlying34 ?_
      refine Tr.lss rfl rfl rfl rfl rfl ?_
      refine Tr.nil ?_
      refine at_n ?_
      first
        | refine Sat.condP rfl (fun hc1 => ?_) (fun hc1 => ?_)
        | refine Sat.condNP rfl (fun hc1 => ?_) (fun hc1 => ?_)
        | refine Sat.cond rfl (fun hc1 => ?_) (fun hc1 => ?_)
      ·
        have hk2 : k < n := by omega
        obtain ⟨x, hxk⟩ : ∃ x, xs[k]? = some x := ⟨_, List.getElem?_eq_getElem (by omega)⟩
        have okx := hok x (List.mem_of_getElem? hxk)
        refine Sat.skip ?_
        refine at_n ?_
        refine Sat.seq ?_
        refine Sat.block ?_
        refine Sat.seq ?_
        -- region 6
        refine Sat.region ?_
        refine Tr.move rfl rfl rfl ?_
        refine Tr.move rfl rfl rfl ?_
        first
          | refine Tr.idxSl 131 rfl rfl rfl rfl Try.underlying34 Sz31 _ rfl (by omega) ?_
          | refine Tr.idxSl 131 rfl rfl rfl rfl Try.underlying34 Sz31 _ (toNat_back (by omega)) (by omega) ?_
        refine Tr.fld rfl rfl rfl Try.underlying31 rfl Sz26 (by decide) _ rfl ?_
        refine Tr.loadE rfl rfl rfl Try.underlying26 rfl (by first | (simp; done) | (simp; exact hW.2.2) | (simp [Cx.with]; omega)) (blk_cell hok hW hxk (by decide) (Block.get_fLinks okx)) ?_
        refine Tr.lenSl rfl rfl rfl Try.underlying26 ?_
        refine two (fun r hr k => Tr.gtr rfl rfl rfl rfl hr k) (fun hs6_60 => ?_) (fun hs6_60 => ?_)
        ·
          first | have hs6_6 := of_decide_eq_true hs6_60 | have hs6_6 := of_decide_eq_false hs6_60 | have hs6_6 := nd_t hs6_60 | have hs6_6 := nd_f hs6_60 | have hs6_6 := hs6_60
          have hgx : (fun x : Block => decide ((x.fLinks.n : Int) ≤ 40) && decide ((x.fData.n : Int) ≤ 2000)) x = false := Bool.and_eq_false_iff.2 (.inl (decide_eq_false (by omega)))
          refine Tr.move rfl rfl rfl ?_
          refine Tr.skp rfl rfl ?_
          refine Tr.skp rfl rfl ?_
          refine Tr.skp rfl rfl ?_
          refine Tr.skp rfl rfl ?_
          refine Tr.skp rfl rfl ?_
          refine Tr.skp rfl rfl ?_
          refine Tr.skp rfl rfl ?_
          refine Tr.pick rfl rfl rfl rfl rfl rfl ?_
          refine Tr.nil ?_
          refine at_n ?_
          refine Sat.cond_t rfl rfl ?_
          refine Sat.seq ?_
          -- region 7
          refine Sat.region ?_
          refine Tr.assign rfl rfl rfl ?_
          refine Tr.nil ?_
          refine at_n ?_
          refine Sat.ret ?_
          refine bl_r ?_
          refine at_r ?_
          refine at_r ?_
          refine bl_r ?_
          refine at_r ?_
          refine en_r ?_
          refine ⟨_, [], res_tmp rfl rfl, (by simp), (by simp), ?_, rfl⟩
          first
            | (rw [lightB, all_bad hxk hgx, Bool.and_false]; done)
            | (rw [List.take_of_length_le (by omega)] at hg; rw [lightB, hg, Bool.and_true]; simp [hx]; omega)
            | (simp [lightB]; omega)
        ·
          first | have hs6_6 := of_decide_eq_true hs6_60 | have hs6_6 := of_decide_eq_false hs6_60 | have hs6_6 := nd_t hs6_60 | have hs6_6 := nd_f hs6_60 | have hs6_6 := hs6_60
          skip
          refine Tr.move rfl rfl rfl ?_
          refine Tr.move rfl rfl rfl ?_
          refine Tr.move rfl rfl rfl ?_
          first
            | refine Tr.idxSl 131 rfl rfl rfl rfl Try.underlying34 Sz31 _ rfl (by omega) ?_
            | refine Tr.idxSl 131 rfl rfl rfl rfl Try.underlying34 Sz31 _ (toNat_back (by omega)) (by omega) ?_
          refine Tr.fld rfl rfl rfl Try.underlying31 rfl Sz27 (by decide) _ rfl ?_
          refine Tr.loadE rfl rfl rfl Try.underlying27 rfl (by first | (simp; done) | (simp; exact hW.2.2) | (simp [Cx.with]; omega)) (blk_cell hok hW hxk (by decide) (Block.get_fData okx)) ?_
          refine Tr.lenSl rfl rfl rfl Try.underlying27 ?_
          refine Tr.gtr rfl rfl rfl rfl rfl ?_
          refine Tr.pick rfl rfl rfl rfl rfl rfl ?_
          refine Tr.nil ?_
          refine at_n ?_
          first
            | refine Sat.condP rfl (fun hc2 => ?_) (fun hc2 => ?_)
            | refine Sat.condNP rfl (fun hc2 => ?_) (fun hc2 => ?_)
            | refine Sat.cond rfl (fun hc2 => ?_) (fun hc2 => ?_)
          ·
            have hgx : (fun x : Block => decide ((x.fLinks.n : Int) ≤ 40) && decide ((x.fData.n : Int) ≤ 2000)) x = false := Bool.and_eq_false_iff.2 (.inr (decide_eq_false (by omega)))
            refine Sat.seq ?_
            -- region 7
            refine Sat.region ?_
            refine Tr.assign rfl rfl rfl ?_
            refine Tr.nil ?_
            refine at_n ?_
            refine Sat.ret ?_
            refine bl_r ?_
            refine at_r ?_
            refine at_r ?_
            refine bl_r ?_
            refine at_r ?_
            refine en_r ?_
            refine ⟨_, [], res_tmp rfl rfl, (by simp), (by simp), ?_, rfl⟩
            first
              | (rw [lightB, all_bad hxk hgx, Bool.and_false]; done)
              | (rw [List.take_of_length_le (by omega)] at hg; rw [lightB, hg, Bool.and_true]; simp [hx]; omega)
              | (simp [lightB]; omega)
          ·
            have hgx : (fun x : Block => decide ((x.fLinks.n : Int) ≤ 40) && decide ((x.fData.n : Int) ≤ 2000)) x = true := by simp; omega
            refine Sat.skip ?_
            refine bl_n ?_
            refine at_n ?_
            -- region 5
            refine Sat.region ?_
            refine Tr.move rfl rfl rfl ?_
            refine Tr.add_i64 rfl rfl rfl rfl (by omega) ?_
            refine Tr.assign rfl rfl rfl ?_
            refine Tr.nil ?_
            refine at_n ?_
            exact ⟨k + 1, ⟨by omega, all_take_step hxk hg hgx⟩, by omega, weak_of (wk1 rfl (wk1 rfl wk0)) wh0 (by repeat (first | exact ns_nil | refine ns_keep rfl ?_ | refine ns_skip ?_))⟩
      ·
        obtain rfl : k = n := by omega
        refine Sat.exit ?_
        refine at_x ?_
        refine at_x ?_
        refine bl_h ?_
        refine at_n ?_
        refine Sat.seq ?_
        -- region 8
        refine Sat.region ?_
        refine Tr.assign rfl rfl rfl ?_
        refine Tr.nil ?_
        refine at_n ?_
        refine Sat.ret ?_
        refine en_r ?_
        refine ⟨_, [], res_tmp rfl rfl, (by simp), (by simp), ?_, rfl⟩
        first
          | (rw [lightB, all_bad hxk hgx, Bool.and_false]; done)
          | (rw [List.take_of_length_le (by omega)] at hg; rw [lightB, hg, Bool.and_true]; simp [hx]; omega)
          | (simp [lightB]; omega)

set_option maxRecDepth 100000 in
set_option maxHeartbeats 1000000 in
theorem kit_names (s : Sl) (ls : List (List UInt8)) (hn : s.n ≤ 500000) : Meets Try.prog 59 [s.v] [] (fun W => RowsAt W s 32 ls) (fun v out => FreshRow v out (flatB ls) 25 s.n 32) := by
  intro W hW
  refine calls_of (hp0 := []) Try.func59 rfl 6 Try.ntmps59 rfl (HRep.nil _) ?_
  refine Sat.seq ?_
  -- region 0
  refine Sat.region ?_
  refine Tr.assign rfl rfl rfl ?_
  refine Tr.nil ?_
  refine at_n ?_
  refine Sat.seq ?_
  -- region 1
  refine Sat.region ?_
  refine Tr.mkRow (z := agg (bytesV (List.replicate 32 0))) [] ([]) rfl rfl rfl Try.underlying26 Sz25 Zr25 rfl rfl (by intro v hv; cases hv) (by decide) (rfl) ?_
  intro q0
  refine Tr.move rfl rfl rfl ?_
  refine Tr.appendSl (z := agg (bytesV (List.replicate 32 0))) (by' := 32) (flatB ls) rfl rfl rfl rfl rfl Try.underlying26 Try.underlying26 Sz25 Zr25 (by unfold By; kernel_rfl) rfl (fun w h => seesP_ext h rfl hW.see) (fun e => by have := hW.nil e; have := hW.cap; omega) (flatB_cell ls) rem_here rfl rfl (by omega) (by omega) (by omega) (by rw [flatB_length hW.row, hW.len]) ?_
  intro q1 c1 hq1
  refine Tr.assign rfl rfl rfl ?_
  refine Tr.nil ?_
  refine at_n ?_
  refine Sat.ret ?_
  refine en_r ?_
  refine ⟨_, [⟨q1, [] ++ flatB ls, 25, c1 * 32⟩], res_tmp rfl rfl, (by intro b hb; rw [List.mem_singleton.1 hb]; exact mem0), nodup1, ⟨q1, c1, by rw [Nat.zero_add], by omega, rfl⟩⟩

set_option maxRecDepth 100000 in
set_option maxHeartbeats 1000000 in
theorem kit_own (s : Sl) (l : List UInt8) (hn : s.n ≤ 500000) : Meets Try.prog 10 [s.v] [] (fun W => BytesAt W s l) (fun v out => FreshRow v out (bytesV l) 5 s.n 1) := by
  intro W hW
  refine calls_of (hp0 := []) Try.func10 rfl 6 Try.ntmps10 rfl (HRep.nil _) ?_
  refine Sat.seq ?_
  -- region 0
  refine Sat.region ?_
  refine Tr.assign rfl rfl rfl ?_
  refine Tr.nil ?_
  refine at_n ?_
  refine Sat.seq ?_
  -- region 1
  refine Sat.region ?_
  refine Tr.mkRow (z := u8 0) [] ([]) rfl rfl rfl Try.underlying27 Sz5 Zr5 rfl rfl (by intro v hv; cases hv) (by decide) (rfl) ?_
  intro q0
  refine Tr.move rfl rfl rfl ?_
  refine Tr.appendSl (z := u8 0) (by' := 1) (bytesV l) rfl rfl rfl rfl rfl Try.underlying27 Try.underlying27 Sz5 Zr5 (by unfold By; kernel_rfl) rfl (fun w h => seesP_ext h rfl hW.see) (fun e => by have := hW.nil e; have := hW.cap; omega) (by simp [bytesV, isCell, u8]) rem_here rfl rfl (by omega) (by omega) (by omega) (by rw [bytesV, List.length_map, hW.len, Nat.mul_one]) ?_
  intro q1 c1 hq1
  refine Tr.assign rfl rfl rfl ?_
  refine Tr.nil ?_
  refine at_n ?_
  refine Sat.ret ?_
  refine en_r ?_
  refine ⟨_, [⟨q1, [] ++ bytesV l, 5, c1 * 1⟩], res_tmp rfl rfl, (by intro b hb; rw [List.mem_singleton.1 hb]; exact mem0), nodup1, ⟨q1, c1, by rw [Nat.zero_add], by omega, rfl⟩⟩


def ownB (B : Block) (q1 c1 q2 c2 : Nat) : Block := { B with fLinks := ⟨some ⟨q1, 0, none⟩, B.fLinks.n, c1⟩, fData := ⟨some ⟨q2, 0, none⟩, B.fData.n, c2⟩ }
theorem ownB_ok {B : Block} (h : B.ok) (q1 c1 q2 c2 : Nat) : (ownB B q1 c1 q2 c2).ok := ⟨h.l_fWriter, h.l_fPrev, h.l_fSig⟩
def OwnedBlock (B : Block) (ls : List (List UInt8)) (l : List UInt8) (v : Value) (out : List Blk) : Prop := ∃ q1 c1 q2 c2, v = agg (ownB B q1 c1 q2 c2).cells ∧ B.fLinks.n ≤ c1 ∧ B.fData.n ≤ c2 ∧ out = [⟨q2, bytesV l, 5, c2 * 1⟩, ⟨q1, flatB ls, 25, c1 * 32⟩]
theorem OwnedBlock.loose (B : Block) (ls : List (List UInt8)) (l : List UInt8) : Loose (OwnedBlock B ls l) := fun k hk => by
  obtain ⟨q1, _, h1⟩ := fresh_is 0 k
  obtain ⟨q2, h2', h2⟩ := fresh_is (q1 + 1) k
  refine ⟨_, _, ⟨q1, B.fLinks.n, q2, B.fData.n, rfl, Nat.le_refl _, Nat.le_refl _, rfl⟩, ?_⟩
  simp only [List.cons_append, List.nil_append, List.map_cons, List.nodup_cons, List.mem_cons]
  refine ⟨?_, fun h => ?_, hk⟩
  · rintro (h | h)
    · omega
    · obtain ⟨b, hb, e⟩ := List.mem_map.1 h; exact h2 b hb e
  · obtain ⟨b, hb, e⟩ := List.mem_map.1 h; exact h1 b hb e
theorem rows_ext {C : Cx} {hp : List Blk} {w : World} {s : Sl} {m : Nat} {ls : List (List UInt8)} (h : HRep C hp w) (hl : C.lent = []) (hr : RowsAt C.W0 s m ls) : RowsAt w s m ls := ⟨hr.len, hr.row, hr.cap, seesP_ext h hl hr.see, hr.max, hr.nil⟩
theorem bytes_ext {C : Cx} {hp : List Blk} {w : World} {s : Sl} {l : List UInt8} (h : HRep C hp w) (hl : C.lent = []) (hr : BytesAt C.W0 s l) : BytesAt w s l := ⟨hr.len, hr.cap, seesP_ext h hl hr.see, hr.max, hr.nil⟩


set_option maxRecDepth 100000 in
set_option maxHeartbeats 1000000 in
theorem kit_own_block (B : Block) (hB : B.ok) (ls : List (List UInt8)) (l : List UInt8) (hn : B.fLinks.n ≤ 500000) (hd : B.fData.n ≤ 500000) : Meets Try.prog 31 [agg B.cells] [] (fun W => RowsAt W B.fLinks 32 ls ∧ BytesAt W B.fData l) (OwnedBlock B ls l) := by
  intro W hW
  refine calls_of (hp0 := []) Try.func31 rfl 12 Try.ntmps31 rfl (HRep.nil _) ?_
  refine Sat.seq ?_
  -- region 0
  refine Sat.region ?_
  refine Tr.boxA rfl rfl ?_
  intro n1 hn1 hf1
  refine Tr.alloc (cs := Block.zero.cells) rfl Block.zr rfl ?_
  intro n2 hn2 hf2
  refine Tr.nil ?_
  refine at_n ?_
  refine Sat.seq ?_
  -- region 1
  refine Sat.draw [(0, 0), (1, 1), (0, 3), (1, 4), (3, 2), (0, 6), (3, 5), (4, 7), (0, 8), (4, 9)] Mixed (by kernel_rfl) ?_
  refine Tr.fld rfl rfl rfl Try.underlying31 rfl Sz26 (by decide) _ rfl ?_
  refine Tr.load1 rfl rfl rfl Try.underlying26 rfl (by first | exact mem0 | exact mem1 | exact mem2 | exact mem3 | exact mem4 | exact mem5 | exact mem6 | exact mem7 | (repeat (first | exact List.mem_cons_self | refine List.mem_cons_of_mem _ ?_ | refine mem_seg ?_))) (by first | exact Block.get_fLinks (by first | assumption | (simp; done) | exact Block.zero_ok | exact Vote.zero_ok  | exact ⟨hB.l_fWriter, hB.l_fPrev, hB.l_fSig⟩) | exact (by first | rfl | exact get_words (by first | omega | (simp; done) | (simp; omega)) | exact get_bytes (by first | omega | (simp; done) | (simp; omega)) | exact get_ints (by first | omega | (simp; done) | (simp; omega)))) ?_
  refine Tr.fld rfl rfl rfl Try.underlying31 rfl Sz27 (by decide) _ rfl ?_
  refine Tr.load1 rfl rfl rfl Try.underlying27 rfl (by first | exact mem0 | exact mem1 | exact mem2 | exact mem3 | exact mem4 | exact mem5 | exact mem6 | exact mem7 | (repeat (first | exact List.mem_cons_self | refine List.mem_cons_of_mem _ ?_ | refine mem_seg ?_))) (by first | exact Block.get_fData (by first | assumption | (simp; done) | exact Block.zero_ok | exact Vote.zero_ok  | exact ⟨hB.l_fWriter, hB.l_fPrev, hB.l_fSig⟩) | exact (by first | rfl | exact get_words (by first | omega | (simp; done) | (simp; omega)) | exact get_bytes (by first | omega | (simp; done) | (simp; omega)) | exact get_ints (by first | omega | (simp; done) | (simp; omega)))) ?_
  refine Tr.call rfl rfl rfl rfl Body59 (kit_names _ ls hn) (FreshRow.loose _ _ _ _) (fun w h => rows_ext h rfl hW.1) ?_
  rintro v1 out1 ⟨q1, c1, rfl, hc1, rfl⟩
  refine Tr.fld rfl rfl rfl Try.underlying31 rfl Sz26 (by decide) _ rfl ?_
  refine Tr.call rfl rfl rfl rfl Body10 (kit_own _ l hd) (FreshRow.loose _ _ _ _) (fun w h => bytes_ext h rfl hW.2) ?_
  rintro v2 out2 ⟨q2, c2, rfl, hc2, rfl⟩
  refine Tr.store1 rfl rfl rfl rfl rfl Sz26 (by first | exact mem0 | exact mem1 | exact mem2 | exact mem3 | exact mem4 | exact mem5 | exact mem6 | exact mem7 | (repeat (first | exact List.mem_cons_self | refine List.mem_cons_of_mem _ ?_ | refine mem_seg ?_))) (by rw [Block.length (by first | assumption | (simp; done) | exact Block.zero_ok | exact Vote.zero_ok  | exact ⟨hB.l_fWriter, hB.l_fPrev, hB.l_fSig⟩)]; decide) (by first | exact Block.set_fLinks (by first | assumption | (simp; done) | exact Block.zero_ok | exact Vote.zero_ok  | exact ⟨hB.l_fWriter, hB.l_fPrev, hB.l_fSig⟩) _ | exact Block.setS_fLinks (by first | assumption | (simp; done) | exact Block.zero_ok | exact Vote.zero_ok  | exact ⟨hB.l_fWriter, hB.l_fPrev, hB.l_fSig⟩) _ _ _) (by first | exact upd0 | exact upd1 | exact upd2 | exact upd3 | exact upd4 | exact upd5 | exact upd6 | exact upd7 | (repeat (first | exact upd0 | apply Upd.tail | apply Upd.seg))) ?_
  refine Tr.fld rfl rfl rfl Try.underlying31 rfl Sz27 (by decide) _ rfl ?_
  refine Tr.store1 rfl rfl rfl rfl rfl Sz27 (by first | exact mem0 | exact mem1 | exact mem2 | exact mem3 | exact mem4 | exact mem5 | exact mem6 | exact mem7 | (repeat (first | exact List.mem_cons_self | refine List.mem_cons_of_mem _ ?_ | refine mem_seg ?_))) (by rw [Block.length (by first | assumption | (simp; done) | exact Block.zero_ok | exact Vote.zero_ok  | exact ⟨hB.l_fWriter, hB.l_fPrev, hB.l_fSig⟩)]; decide) (by first | exact Block.set_fData (by first | assumption | (simp; done) | exact Block.zero_ok | exact Vote.zero_ok  | exact ⟨hB.l_fWriter, hB.l_fPrev, hB.l_fSig⟩) _ | exact Block.setS_fData (by first | assumption | (simp; done) | exact Block.zero_ok | exact Vote.zero_ok  | exact ⟨hB.l_fWriter, hB.l_fPrev, hB.l_fSig⟩) _ _ _) (by first | exact upd0 | exact upd1 | exact upd2 | exact upd3 | exact upd4 | exact upd5 | exact upd6 | exact upd7 | (repeat (first | exact upd0 | apply Upd.tail | apply Upd.seg))) ?_
  refine Tr.nil ?_
  refine at_n ?_
  refine Sat.seq ?_
  -- region 2
  refine Sat.region ?_
  refine Tr.loadAll rfl rfl rfl Try.underlying31 rfl Sz31 (by first | exact mem0 | exact mem1 | exact mem2 | exact mem3 | exact mem4 | exact mem5 | exact mem6 | exact mem7 | (repeat (first | exact List.mem_cons_self | refine List.mem_cons_of_mem _ ?_ | refine mem_seg ?_))) (Block.length (by first | assumption | (simp; done) | exact Block.zero_ok | exact Vote.zero_ok  | exact ⟨hB.l_fWriter, hB.l_fPrev, hB.l_fSig⟩)) ?_
  refine Tr.storeAll rfl rfl rfl rfl (Block.isCell (by first | assumption | (simp; done) | exact Block.zero_ok | exact Vote.zero_ok  | exact ⟨hB.l_fWriter, hB.l_fPrev, hB.l_fSig⟩)) Sz31 (Block.length (by first | assumption | (simp; done) | exact Block.zero_ok | exact Vote.zero_ok  | exact ⟨hB.l_fWriter, hB.l_fPrev, hB.l_fSig⟩)) (by first | exact mem0 | exact mem1 | exact mem2 | exact mem3 | exact mem4 | exact mem5 | exact mem6 | exact mem7 | (repeat (first | exact List.mem_cons_self | refine List.mem_cons_of_mem _ ?_ | refine mem_seg ?_))) (Block.length (by first | assumption | (simp; done) | exact Block.zero_ok | exact Vote.zero_ok  | exact ⟨hB.l_fWriter, hB.l_fPrev, hB.l_fSig⟩)) (by first | exact upd0 | exact upd1 | exact upd2 | exact upd3 | exact upd4 | exact upd5 | exact upd6 | exact upd7 | (repeat (first | exact upd0 | apply Upd.tail | apply Upd.seg))) ?_
  refine Tr.nil ?_
  refine at_n ?_
  refine Sat.ret ?_
  refine en_r ?_
  refine ⟨_, [⟨q2, bytesV l, 5, c2 * 1⟩, ⟨q1, flatB ls, 25, c1 * 32⟩], res_cell rfl rfl Try.underlying31 rfl Sz31 (by first | exact mem0 | exact mem1 | exact mem2 | exact mem3 | exact mem4 | exact mem5 | exact mem6 | exact mem7 | (repeat (first | exact List.mem_cons_self | refine List.mem_cons_of_mem _ ?_ | refine mem_seg ?_))) (Block.length (ownB_ok hB q1 c1 q2 c2)), (by intro b hb; rcases List.mem_cons.1 hb with rfl | hb; exact mem0; rw [List.mem_singleton.1 hb]; exact mem1), (fun h => h.sublist (by simp)), ⟨q1, c1, q2, c2, rfl, hc1, hc2, rfl⟩⟩


theorem take_step {α : Type} {xs bs : List α} {k : Nat} (d : α) (ha : k < xs.length) (hb : k < bs.length) (h : xs.take k = bs.take k) (he : xs.getD k d = bs.getD k d) : xs.take (k + 1) = bs.take (k + 1) := by
  rw [List.take_succ_eq_append_getElem ha, List.take_succ_eq_append_getElem hb, h]
  have e1 : xs.getD k d = xs[k] := by simp [List.getD, ha]
  have e2 : bs.getD k d = bs[k] := by simp [List.getD, hb]
  rw [← e1, ← e2, he]


set_option maxRecDepth 100000 in
set_option maxHeartbeats 1000000 in
theorem digests_eq (p q : Option Addr) (n c1 c2 : Nat) (xs bs : List (List UInt8)) (hra : ∀ l ∈ xs, l.length = 32) (hrb : ∀ l ∈ bs, l.length = 32) (ha : xs.length = n) (hb : bs.length = n) (hn : n ≤ 1000000) : Meets Try.prog 45 [.slice p n c1, .slice q n c2] [] (fun W => SeesP W p (flatB xs) ∧ SeesP W q (flatB bs)) (fun v out => v = .bool (decide (xs = bs)) ∧ out = []) := by
  intro W hW
  refine calls_of (hp0 := []) Try.func45 rfl 26 Try.ntmps45 rfl (HRep.nil _) ?_
  refine Sat.seq ?_
  -- region 0
  refine Sat.region ?_
  refine Tr.assign rfl rfl rfl ?_
  refine Tr.nil ?_
  refine at_n ?_
  refine Sat.seq ?_
  refine Sat.seq ?_
  -- region 1
  refine Sat.region ?_
  refine Tr.move rfl rfl rfl ?_
  refine Tr.lenSl rfl rfl rfl Try.underlying26 ?_
  refine Tr.move rfl rfl rfl ?_
  refine Tr.lenSl rfl rfl rfl Try.underlying26 ?_
  refine Tr.nei rfl rfl rfl rfl (show (!decide _) = false from congrArg not (decide_eq_true (rfl))) ?_
  refine Tr.nil ?_
  refine at_n ?_
  refine Sat.cond_f rfl (rfl) ?_
  refine Sat.skip ?_
  refine at_n ?_
  refine Sat.seq ?_
  refine Sat.seq ?_
  -- region 3
  refine Sat.region ?_
  refine Tr.assign rfl rfl rfl ?_
  refine Tr.nil ?_
  refine at_n ?_
  refine Sat.block ?_
  refine Sat.loop (ι := Nat) (fun k => ⟨[(0, .slice p n c1), (1, .slice q n c2), (5, i64 (k : Int))], []⟩) (fun k => k ≤ n ∧ xs.take k = bs.take k) (fun k => n - k) (0) ?_ ?_ ?_
  · exact ⟨by omega, rfl⟩
  · exact weak_of (wk1 rfl (wk1 rfl (wk1 rfl wk0))) wh0 (by repeat (first | exact ns_nil | refine ns_keep rfl ?_ | refine ns_skip ?_))
  ·
    rintro k ⟨hk, hg⟩
    refine Sat.seq ?_
    refine Sat.seq ?_
    -- region 4
    refine Sat.region ?_
    refine Tr.move rfl rfl rfl ?_
    refine Tr.move rfl rfl rfl ?_
    refine Tr.lenSl rfl rfl rfl Try.underlying26 ?_
    refine Tr.lss rfl rfl rfl rfl rfl ?_
    refine Tr.nil ?_
    refine at_n ?_
    first
      | refine Sat.condP rfl (fun hc1 => ?_) (fun hc1 => ?_)
      | refine Sat.condNP rfl (fun hc1 => ?_) (fun hc1 => ?_)
      | refine Sat.cond rfl (fun hc1 => ?_) (fun hc1 => ?_)
    ·
      have hk2 : k < n := by omega
      obtain ⟨b1, o1, hp1, hs1⟩ := hW.1.at (by rw [flatB_length hra]; omega)
      obtain ⟨b2, o2, hp2, hs2⟩ := hW.2.at (by rw [flatB_length hrb]; omega)
      have r1 : (xs.getD k []).length = 32 := getD_len hra (by omega)
      have r2 : (bs.getD k []).length = 32 := getD_len hrb (by omega)
      refine Sat.skip ?_
      refine at_n ?_
      refine Sat.seq ?_
      refine Sat.block ?_
      refine Sat.seq ?_
      -- region 6
      refine Sat.draw [(0, 0), (0, 1), (0, 2), (1, 3), (0, 4), (0, 5), (0, 6), (1, 7), (0, 8)] Mixed (by kernel_rfl) ?_
      refine Tr.move rfl rfl rfl ?_
      refine Tr.move rfl rfl rfl ?_
      refine Tr.idxSlP 32 rfl rfl rfl hp1 rfl Try.underlying26 Sz25 k rfl (by omega) ?_
      refine Tr.loadEN (bytesV (xs.getD k [])) rfl rfl rfl Try.underlying25 rfl Sz25 (by simp) (by rw [bytesV, List.length_map]; exact getD_len hra (by omega)) (sees_row hra hs1 (by omega)) ?_
      refine Tr.move rfl rfl rfl ?_
      refine Tr.move rfl rfl rfl ?_
      refine Tr.idxSlP 32 rfl rfl rfl hp2 rfl Try.underlying26 Sz25 k rfl (by omega) ?_
      refine Tr.loadEN (bytesV (bs.getD k [])) rfl rfl rfl Try.underlying25 rfl Sz25 (by simp) (by rw [bytesV, List.length_map]; exact getD_len hrb (by omega)) (sees_row hrb hs2 (by omega)) ?_
      refine Tr.neq_bytes rfl rfl rfl rfl Try.eqGuardType25 Try.underlying25 Try.underlying5 Sz5 (by first | assumption | (simp; done) | (rw [bytesV, List.length_map]; assumption)) (by first | assumption | (simp; done) | (rw [bytesV, List.length_map]; assumption)) rfl ?_
      refine Tr.nil ?_
      refine at_n ?_
      first
        | refine Sat.condP rfl (fun hc2 => ?_) (fun hc2 => ?_)
        | refine Sat.condNP rfl (fun hc2 => ?_) (fun hc2 => ?_)
        | refine Sat.cond rfl (fun hc2 => ?_) (fun hc2 => ?_)
      ·
        refine Sat.seq ?_
        -- region 7
        refine Sat.region ?_
        refine Tr.assign rfl rfl rfl ?_
        refine Tr.nil ?_
        refine at_n ?_
        refine Sat.ret ?_
        refine bl_r ?_
        refine at_r ?_
        refine at_r ?_
        refine bl_r ?_
        refine at_r ?_
        refine en_r ?_
        refine ⟨_, [], res_tmp rfl rfl, (by simp), (by simp), ?_, rfl⟩
        first
          | (rw [decide_eq_false (fun e => hc2 (by rw [e]))]; done)
          | (rw [List.take_of_length_le (by omega), List.take_of_length_le (by omega)] at hg; rw [decide_eq_true hg]; done)
      ·
        refine Sat.skip ?_
        refine bl_n ?_
        refine at_n ?_
        -- region 5
        refine Sat.region ?_
        refine Tr.move rfl rfl rfl ?_
        refine Tr.add_i64 rfl rfl rfl rfl (by omega) ?_
        refine Tr.assign rfl rfl rfl ?_
        refine Tr.nil ?_
        refine at_n ?_
        exact ⟨k + 1, ⟨by omega, take_step [] (by omega) (by omega) hg hc2⟩, by omega, weak_of (wk1 rfl (wk1 rfl (wk1 rfl wk0))) wh0 (by repeat (first | exact ns_nil | refine ns_keep rfl ?_ | refine ns_skip ?_))⟩
    ·
      obtain rfl : k = n := by omega
      refine Sat.exit ?_
      refine at_x ?_
      refine at_x ?_
      refine bl_h ?_
      refine at_n ?_
      refine Sat.seq ?_
      -- region 8
      refine Sat.region ?_
      refine Tr.assign rfl rfl rfl ?_
      refine Tr.nil ?_
      refine at_n ?_
      refine Sat.ret ?_
      refine en_r ?_
      refine ⟨_, [], res_tmp rfl rfl, (by simp), (by simp), ?_, rfl⟩
      first
        | (rw [decide_eq_false (fun e => hc2 (by rw [e]))]; done)
        | (rw [List.take_of_length_le (by omega), List.take_of_length_le (by omega)] at hg; rw [decide_eq_true hg]; done)

set_option maxRecDepth 100000 in
set_option maxHeartbeats 1000000 in
theorem digests_ne (p q : Option Addr) (n m c1 c2 : Nat) (xs bs : List (List UInt8)) (hra : ∀ l ∈ xs, l.length = 32) (hrb : ∀ l ∈ bs, l.length = 32) (ha : xs.length = n) (hb : bs.length = m) (hn : n ≤ 1000000) (hnm : n ≠ m) : Meets Try.prog 45 [.slice p n c1, .slice q m c2] [] (fun W => SeesP W p (flatB xs) ∧ SeesP W q (flatB bs)) (fun v out => v = .bool (decide (xs = bs)) ∧ out = []) := by
  intro W hW
  refine calls_of (hp0 := []) Try.func45 rfl 26 Try.ntmps45 rfl (HRep.nil _) ?_
  refine Sat.seq ?_
  -- region 0
  refine Sat.region ?_
  refine Tr.assign rfl rfl rfl ?_
  refine Tr.nil ?_
  refine at_n ?_
  refine Sat.seq ?_
  refine Sat.seq ?_
  -- region 1
  refine Sat.region ?_
  refine Tr.move rfl rfl rfl ?_
  refine Tr.lenSl rfl rfl rfl Try.underlying26 ?_
  refine Tr.move rfl rfl rfl ?_
  refine Tr.lenSl rfl rfl rfl Try.underlying26 ?_
  refine Tr.nei rfl rfl rfl rfl (show (!decide _) = true from congrArg not (decide_eq_false (by omega))) ?_
  refine Tr.nil ?_
  refine at_n ?_
  refine Sat.cond_t rfl (rfl) ?_
  refine Sat.seq ?_
  -- region 2
  refine Sat.region ?_
  refine Tr.assign rfl rfl rfl ?_
  refine Tr.nil ?_
  refine at_n ?_
  refine Sat.ret ?_
  refine at_r ?_
  refine en_r ?_
  refine ⟨_, [], res_tmp rfl rfl, (by simp), (by simp), ?_, rfl⟩
  rw [decide_eq_false (fun e => hnm (by rw [← ha, ← hb, e]))]

end Go.Proofs.Ytejjamifnombhaa
