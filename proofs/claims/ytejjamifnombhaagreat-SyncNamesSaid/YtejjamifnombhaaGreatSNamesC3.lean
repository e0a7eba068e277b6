/- Contracts of functions of the loaded program, and the lemmas that they need (part 3). It proves no statement by itself; it has no conditions. -/
import Derived.WalkKit
import Derived.Orders
import Derived.Deep.LoopGhost
import Derived.IntWalk
import Derived.Laws.StructEq
import Derived.ArgAppend
import Derived.Deep.AppendSrc
import Derived.Lib.Bytealg
import Derived.Lib.BytesEntry
import Derived.Laws.IdiomStrings
import Derived.WideKeyArr2
import Derived.ProofKit
import Derived.OpenShut
import Derived.Deep.Slices
import Derived.Laws.Pointers
import Derived.Laws.Cover3
import Derived.LaidEqlPtr
import Derived.LoopN
import Derived.RangeFuncLeaves
import Derived.RangeFuncSeq
import Derived.OrdersIn
import Derived.Test.YtejjamifnombhaaGreatRows
import Derived.KernelRfl
import Derived.Laws.Externs
import Derived.ChangeOld
import Derived.Below
import Derived.Test.YtejjamifnombhaaGreatSNamesC2
section
namespace Go.Proofs.YtejjamifnombhaaGreat
open Go Hw
set_option linter.unusedVariables false
set_option linter.unusedSimpArgs false


/-- the head before -/
def lastH (ls : List (List UInt8)) (k : Nat) : List UInt8 := if k = 0 then List.replicate 32 0 else ls.getD (k - 1) []
theorem lastH_succ (ls : List (List UInt8)) (k : Nat) : lastH ls (k + 1) = ls.getD k [] := by simp [lastH]
def headBad (ls : List (List UInt8)) (k : Nat) : Bool := decide ((0 : Int) ≤ cmpB (lastH ls k) (ls.getD k []))
def headsBad (ls : List (List UInt8)) : Bool := (List.range ls.length).any (headBad ls)
theorem headsBad_at {ls : List (List UInt8)} {k : Nat} (hk : k < ls.length) (h : headBad ls k = true) : headsBad ls = true := by
  rw [headsBad, List.any_eq_true]; exact ⟨k, List.mem_range.2 hk, h⟩
theorem headsBad_not {ls : List (List UInt8)} (h : ∀ j, j < ls.length → headBad ls j = false) : headsBad ls = false := by
  rw [headsBad, List.any_eq_false]; intro x hx; rw [h x (List.mem_range.1 hx)]; simp
def cheadB (h : UInt64) (prev : List UInt8) (n : Nat) : Bool := decide ((h.toNat : Int) < 1) || (decide ((4294967295 : Int) < (h.toNat : Int)) || (!decide (decide (prev = List.replicate 32 0) = decide ((h.toNat : Int) = 1)) || (decide ((n : Int) < 1) || decide ((32 : Int) < (n : Int)))))
def DCut.check (D : DCut) : Int := if cheadB D.dHeight D.dPrev D.dHeads.length = true then 2 else if headsBad D.dHeads = true then 2 else 0
theorem cut_bad1 {D : DCut} (h : cheadB D.dHeight D.dPrev D.dHeads.length = true) : D.check = 2 := if_pos h
theorem cut_bad2 {D : DCut} (h : ¬ cheadB D.dHeight D.dPrev D.dHeads.length = true) (hb : headsBad D.dHeads = true) : D.check = 2 := by unfold DCut.check; rw [if_neg h, if_pos hb]
theorem cut_good {D : DCut} (h : ¬ cheadB D.dHeight D.dPrev D.dHeads.length = true) (hb : headsBad D.dHeads = false) : D.check = 0 := by unfold DCut.check; rw [if_neg h, if_neg (by rw [hb]; simp)]


set_option maxRecDepth 100000 in
set_option maxHeartbeats 4000000 in
theorem cut_check (C : Cut) (D : DCut) : Meets Tryz.prog 92 [agg C.cells] [] (fun W => CutIs W C D) (fun v out => v = i64 D.check ∧ out = []) := by
  intro W hW
  have hB := hW.ok
  have hcx : C.fHeads.n ≤ maxLen := hW.fHeads.max
  simp only [maxLen] at hcx
  have hcn := hW.fHeads.cap
  have hll := hW.fHeads.len
  have eH := hW.fHeight
  have eP := hW.fPrev
  have hlst : True := trivial
  refine calls_of (hp0 := []) Tryz.func92 rfl 52 Tryz.ntmps92 rfl (HRep.nil _) ?_
  refine Sat.seq ?_
  -- region 0
  refine Sat.region ?_
  refine Tr.boxA rfl rfl ?_
  intro n1 hn1 hf1
  refine Tr.assign rfl rfl rfl ?_
  refine Tr.nil ?_
  refine at_n ?_
  refine Sat.seq ?_
  -- region 1
  refine Sat.region ?_
  refine Tr.build (cs := bytesV (List.replicate 32 0)) rfl rfl rfl (fun w => by kernel_rfl) ?_
  refine Tr.alloc (cs := (bytesV (List.replicate 32 0))) rfl Zr50 rfl ?_
  intro n3 hn3 hf3
  first
    | refine Tr.storeAll rfl rfl rfl rfl (by first | exact bytesV_cell _ | simp [isCell]) Sz50 (by first | assumption | (simp [hB.l_fPrev, hlst]; done) | (rw [bytesV, List.length_map]; assumption)) (by first | exact mem0 | exact mem1 | exact mem2 | exact mem3 | exact mem4 | exact mem5 | exact mem6 | exact mem7 | (repeat (first | exact List.mem_cons_self | refine List.mem_cons_of_mem _ ?_ | refine mem_seg ?_))) (by first | assumption | (simp [hB.l_fPrev, hlst]; done) | (rw [bytesV, List.length_map]; assumption)) (by first | exact upd0 | exact upd1 | exact upd2 | exact upd3 | exact upd4 | exact upd5 | exact upd6 | exact upd7 | (repeat (first | exact upd0 | apply Upd.tail | apply Upd.seg))) ?_
    | refine Tr.storeN _ rfl rfl rfl rfl rfl (by first | exact bytesV_cell _ | simp [isCell]) Sz50 (by first | assumption | (simp [hB.l_fPrev, hlst]; done) | (rw [bytesV, List.length_map]; assumption)) (by first | exact mem0 | exact mem1 | exact mem2 | exact mem3 | exact mem4 | exact mem5 | exact mem6 | exact mem7 | (repeat (first | exact List.mem_cons_self | refine List.mem_cons_of_mem _ ?_ | refine mem_seg ?_))) (by first | assumption | (simp [hB.l_fPrev, hlst]; done) | (rw [bytesV, List.length_map]; assumption)) (by exact rfl) (by first | exact upd0 | exact upd1 | exact upd2 | exact upd3 | exact upd4 | exact upd5 | exact upd6 | exact upd7 | (repeat (first | exact upd0 | apply Upd.tail | apply Upd.seg))) ?_
  refine Tr.nil ?_
  refine at_n ?_
  refine Sat.seq ?_
  refine Sat.seq ?_
  -- region 2
  refine Sat.draw [(0, 0), (1, 1), (0, 2), (0, 3), (0, 4), (1, 5), (0, 6), (0, 7), (0, 8), (0, 9), (1, 10), (1, 11), (0, 12), (0, 13), (1, 14), (0, 15), (0, 16), (0, 17), (0, 18), (0, 19), (1, 20), (0, 21), (0, 22), (0, 23), (0, 24), (0, 25), (1, 26), (0, 27), (0, 28), (0, 29)] Mixed (by kernel_rfl) ?_
  refine Tr.fld rfl rfl rfl Tryz.underlying53 rfl Sz48 (by decide) _ rfl ?_
  refine Tr.load1 rfl rfl rfl Tryz.underlying48 rfl (by first | exact mem0 | exact mem1 | exact mem2 | exact mem3 | exact mem4 | exact mem5 | exact mem6 | exact mem7 | (repeat (first | exact List.mem_cons_self | refine List.mem_cons_of_mem _ ?_ | refine mem_seg ?_))) (by first | exact Cut.get_fHeight (by first | assumption | (simp [hB.l_fPrev, hlst]; done) | exact Block.zero_ok | exact Vote.zero_ok | exact Reader.zero_ok | exact Cut.zero_ok | exact Cert.zero_ok | exact Msg.zero_ok | exact Inbox.zero_ok | exact Record.zero_ok | exact Kept.zero_ok  | exact hW.ok) | exact (by first | rfl | exact get_words (by first | omega | (simp [hB.l_fPrev, hlst]; done) | (simp [hB.l_fPrev, hlst]; omega)) | exact get_bytes (by first | omega | (simp [hB.l_fPrev, hlst]; done) | (simp [hB.l_fPrev, hlst]; omega)) | exact get_ints (by first | omega | (simp [hB.l_fPrev, hlst]; done) | (simp [hB.l_fPrev, hlst]; omega)))) ?_
  refine two (fun r hr k => Tr.lss rfl rfl rfl rfl hr k) (fun hs2_20 => ?_) (fun hs2_20 => ?_)
  ·
    first | have hs2_2 := of_decide_eq_true hs2_20 | have hs2_2 := of_decide_eq_false hs2_20 | have hs2_2 := nd_t hs2_20 | have hs2_2 := nd_f hs2_20 | have hs2_2 := hs2_20
    refine Tr.move rfl rfl rfl ?_
    refine Tr.skp rfl rfl ?_
    refine Tr.skp rfl rfl ?_
    refine Tr.skp rfl rfl ?_
    refine Tr.pick rfl rfl rfl rfl rfl rfl ?_
    refine Tr.move rfl rfl rfl ?_
    refine Tr.skp rfl rfl ?_
    refine Tr.skp rfl rfl ?_
    refine Tr.skp rfl rfl ?_
    refine Tr.skp rfl rfl ?_
    refine Tr.skp rfl rfl ?_
    refine Tr.skp rfl rfl ?_
    refine Tr.skp rfl rfl ?_
    refine Tr.skp rfl rfl ?_
    refine Tr.pick rfl rfl rfl rfl rfl rfl ?_
    refine Tr.move rfl rfl rfl ?_
    refine Tr.skp rfl rfl ?_
    refine Tr.skp rfl rfl ?_
    refine Tr.skp rfl rfl ?_
    refine Tr.skp rfl rfl ?_
    refine Tr.pick rfl rfl rfl rfl rfl rfl ?_
    refine Tr.move rfl rfl rfl ?_
    refine Tr.skp rfl rfl ?_
    refine Tr.skp rfl rfl ?_
    refine Tr.skp rfl rfl ?_
    refine Tr.skp rfl rfl ?_
    refine Tr.pick rfl rfl rfl rfl rfl rfl ?_
    refine Tr.nil ?_
    refine at_n ?_
    refine Sat.cond_t rfl rfl ?_
    refine Sat.seq ?_
    -- region 3
    refine Sat.region ?_
    refine Tr.assign rfl rfl rfl ?_
    refine Tr.nil ?_
    refine at_n ?_
    refine Sat.ret ?_
    refine at_r ?_
    refine en_r ?_
    refine ⟨_, [], res_tmp rfl rfl, (by simp), (by simp), ?_, rfl⟩
    first
      | exact congrArg i64 (cut_good hnb (headsBad_not (by rw [hll]; exact hg))).symm
      | exact congrArg i64 (cut_bad2 hnb (headsBad_at (k := p.1) (by omega) (by unfold headBad; rw [← hle]; exact decide_eq_true hc2))).symm
      | exact congrArg i64 (cut_bad1 (by unfold cheadB; simp_all)).symm
  ·
    first | have hs2_2 := of_decide_eq_true hs2_20 | have hs2_2 := of_decide_eq_false hs2_20 | have hs2_2 := nd_t hs2_20 | have hs2_2 := nd_f hs2_20 | have hs2_2 := hs2_20
    refine Tr.move rfl rfl rfl ?_
    refine Tr.fld rfl rfl rfl Tryz.underlying53 rfl Sz48 (by decide) _ rfl ?_
    refine Tr.load1 rfl rfl rfl Tryz.underlying48 rfl (by first | exact mem0 | exact mem1 | exact mem2 | exact mem3 | exact mem4 | exact mem5 | exact mem6 | exact mem7 | (repeat (first | exact List.mem_cons_self | refine List.mem_cons_of_mem _ ?_ | refine mem_seg ?_))) (by first | exact Cut.get_fHeight (by first | assumption | (simp [hB.l_fPrev, hlst]; done) | exact Block.zero_ok | exact Vote.zero_ok | exact Reader.zero_ok | exact Cut.zero_ok | exact Cert.zero_ok | exact Msg.zero_ok | exact Inbox.zero_ok | exact Record.zero_ok | exact Kept.zero_ok  | exact hW.ok) | exact (by first | rfl | exact get_words (by first | omega | (simp [hB.l_fPrev, hlst]; done) | (simp [hB.l_fPrev, hlst]; omega)) | exact get_bytes (by first | omega | (simp [hB.l_fPrev, hlst]; done) | (simp [hB.l_fPrev, hlst]; omega)) | exact get_ints (by first | omega | (simp [hB.l_fPrev, hlst]; done) | (simp [hB.l_fPrev, hlst]; omega)))) ?_
    refine two (fun r hr k => Tr.gtr rfl rfl rfl rfl hr k) (fun hs2_60 => ?_) (fun hs2_60 => ?_)
    ·
      first | have hs2_6 := of_decide_eq_true hs2_60 | have hs2_6 := of_decide_eq_false hs2_60 | have hs2_6 := nd_t hs2_60 | have hs2_6 := nd_f hs2_60 | have hs2_6 := hs2_60
      refine Tr.pick rfl rfl rfl rfl rfl rfl ?_
      refine Tr.move rfl rfl rfl ?_
      refine Tr.skp rfl rfl ?_
      refine Tr.skp rfl rfl ?_
      refine Tr.skp rfl rfl ?_
      refine Tr.skp rfl rfl ?_
      refine Tr.skp rfl rfl ?_
      refine Tr.skp rfl rfl ?_
      refine Tr.skp rfl rfl ?_
      refine Tr.skp rfl rfl ?_
      refine Tr.pick rfl rfl rfl rfl rfl rfl ?_
      refine Tr.move rfl rfl rfl ?_
      refine Tr.skp rfl rfl ?_
      refine Tr.skp rfl rfl ?_
      refine Tr.skp rfl rfl ?_
      refine Tr.skp rfl rfl ?_
      refine Tr.pick rfl rfl rfl rfl rfl rfl ?_
      refine Tr.move rfl rfl rfl ?_
      refine Tr.skp rfl rfl ?_
      refine Tr.skp rfl rfl ?_
      refine Tr.skp rfl rfl ?_
      refine Tr.skp rfl rfl ?_
      refine Tr.pick rfl rfl rfl rfl rfl rfl ?_
      refine Tr.nil ?_
      refine at_n ?_
      refine Sat.cond_t rfl rfl ?_
      refine Sat.seq ?_
      -- region 3
      refine Sat.region ?_
      refine Tr.assign rfl rfl rfl ?_
      refine Tr.nil ?_
      refine at_n ?_
      refine Sat.ret ?_
      refine at_r ?_
      refine en_r ?_
      refine ⟨_, [], res_tmp rfl rfl, (by simp), (by simp), ?_, rfl⟩
      first
        | exact congrArg i64 (cut_good hnb (headsBad_not (by rw [hll]; exact hg))).symm
        | exact congrArg i64 (cut_bad2 hnb (headsBad_at (k := p.1) (by omega) (by unfold headBad; rw [← hle]; exact decide_eq_true hc2))).symm
        | exact congrArg i64 (cut_bad1 (by unfold cheadB; simp_all)).symm
    ·
      first | have hs2_6 := of_decide_eq_true hs2_60 | have hs2_6 := of_decide_eq_false hs2_60 | have hs2_6 := nd_t hs2_60 | have hs2_6 := nd_f hs2_60 | have hs2_6 := hs2_60
      refine Tr.pick rfl rfl rfl rfl rfl rfl ?_
      refine Tr.move rfl rfl rfl ?_
      refine Tr.fld rfl rfl rfl Tryz.underlying53 rfl Sz50 (by decide) _ rfl ?_
      first
        | refine Tr.loadN (bytesV _) rfl rfl rfl Tryz.underlying50 rfl Sz50 (by first | exact mem0 | exact mem1 | exact mem2 | exact mem3 | exact mem4 | exact mem5 | exact mem6 | exact mem7 | (repeat (first | exact List.mem_cons_self | refine List.mem_cons_of_mem _ ?_ | refine mem_seg ?_))) (Cut.row_fPrev (by first | assumption | (simp [hB.l_fPrev, hlst]; done) | exact Block.zero_ok | exact Vote.zero_ok | exact Reader.zero_ok | exact Cut.zero_ok | exact Cert.zero_ok | exact Msg.zero_ok | exact Inbox.zero_ok | exact Record.zero_ok | exact Kept.zero_ok  | exact hW.ok)) (Cut.rl_fPrev (by first | assumption | (simp [hB.l_fPrev, hlst]; done) | exact Block.zero_ok | exact Vote.zero_ok | exact Reader.zero_ok | exact Cut.zero_ok | exact Cert.zero_ok | exact Msg.zero_ok | exact Inbox.zero_ok | exact Record.zero_ok | exact Kept.zero_ok  | exact hW.ok)) ?_
      first
        | refine Tr.loadAll rfl rfl rfl Tryz.underlying50 rfl Sz50 (by first | exact mem0 | exact mem1 | exact mem2 | exact mem3 | exact mem4 | exact mem5 | exact mem6 | exact mem7 | (repeat (first | exact List.mem_cons_self | refine List.mem_cons_of_mem _ ?_ | refine mem_seg ?_))) (by first | assumption | (simp [hB.l_fPrev, hlst]; done) | (rw [bytesV, List.length_map]; assumption)) ?_
        | refine Tr.loadN _ rfl rfl rfl Tryz.underlying50 rfl Sz50 (by first | exact mem0 | exact mem1 | exact mem2 | exact mem3 | exact mem4 | exact mem5 | exact mem6 | exact mem7 | (repeat (first | exact List.mem_cons_self | refine List.mem_cons_of_mem _ ?_ | refine mem_seg ?_))) (by exact rfl) (by first | assumption | (simp [hB.l_fPrev, hlst]; done) | (rw [bytesV, List.length_map]; assumption)) ?_
      refine Tr.eql_bytes rfl rfl rfl rfl Tryz.eqGuardType50 Tryz.underlying50 Tryz.underlying5 Sz5 (by first | assumption | (simp [hB.l_fPrev, hlst]; done) | (rw [bytesV, List.length_map]; assumption)) (by first | assumption | (simp [hB.l_fPrev, hlst]; done) | (rw [bytesV, List.length_map]; assumption)) rfl ?_
      refine Tr.fld rfl rfl rfl Tryz.underlying53 rfl Sz48 (by decide) _ rfl ?_
      refine Tr.load1 rfl rfl rfl Tryz.underlying48 rfl (by first | exact mem0 | exact mem1 | exact mem2 | exact mem3 | exact mem4 | exact mem5 | exact mem6 | exact mem7 | (repeat (first | exact List.mem_cons_self | refine List.mem_cons_of_mem _ ?_ | refine mem_seg ?_))) (by first | exact Cut.get_fHeight (by first | assumption | (simp [hB.l_fPrev, hlst]; done) | exact Block.zero_ok | exact Vote.zero_ok | exact Reader.zero_ok | exact Cut.zero_ok | exact Cert.zero_ok | exact Msg.zero_ok | exact Inbox.zero_ok | exact Record.zero_ok | exact Kept.zero_ok  | exact hW.ok) | exact (by first | rfl | exact get_words (by first | omega | (simp [hB.l_fPrev, hlst]; done) | (simp [hB.l_fPrev, hlst]; omega)) | exact get_bytes (by first | omega | (simp [hB.l_fPrev, hlst]; done) | (simp [hB.l_fPrev, hlst]; omega)) | exact get_ints (by first | omega | (simp [hB.l_fPrev, hlst]; done) | (simp [hB.l_fPrev, hlst]; omega)))) ?_
      refine Tr.eqi rfl rfl rfl rfl rfl ?_
      refine two (fun r hr k => Tr.neb rfl rfl rfl rfl Tryz.underlying4 hr k) (fun hs2_160 => ?_) (fun hs2_160 => ?_)
      ·
        first | have hs2_16 := of_decide_eq_true hs2_160 | have hs2_16 := of_decide_eq_false hs2_160 | have hs2_16 := nd_t hs2_160 | have hs2_16 := nd_f hs2_160 | have hs2_16 := hs2_160
        refine Tr.pick rfl rfl rfl rfl rfl rfl ?_
        refine Tr.move rfl rfl rfl ?_
        refine Tr.skp rfl rfl ?_
        refine Tr.skp rfl rfl ?_
        refine Tr.skp rfl rfl ?_
        refine Tr.skp rfl rfl ?_
        refine Tr.pick rfl rfl rfl rfl rfl rfl ?_
        refine Tr.move rfl rfl rfl ?_
        refine Tr.skp rfl rfl ?_
        refine Tr.skp rfl rfl ?_
        refine Tr.skp rfl rfl ?_
        refine Tr.skp rfl rfl ?_
        refine Tr.pick rfl rfl rfl rfl rfl rfl ?_
        refine Tr.nil ?_
        refine at_n ?_
        refine Sat.cond_t rfl rfl ?_
        refine Sat.seq ?_
        -- region 3
        refine Sat.region ?_
        refine Tr.assign rfl rfl rfl ?_
        refine Tr.nil ?_
        refine at_n ?_
        refine Sat.ret ?_
        refine at_r ?_
        refine en_r ?_
        refine ⟨_, [], res_tmp rfl rfl, (by simp), (by simp), ?_, rfl⟩
        first
          | exact congrArg i64 (cut_good hnb (headsBad_not (by rw [hll]; exact hg))).symm
          | exact congrArg i64 (cut_bad2 hnb (headsBad_at (k := p.1) (by omega) (by unfold headBad; rw [← hle]; exact decide_eq_true hc2))).symm
          | exact congrArg i64 (cut_bad1 (by unfold cheadB; simp_all)).symm
      ·
        first | have hs2_16 := of_decide_eq_true hs2_160 | have hs2_16 := of_decide_eq_false hs2_160 | have hs2_16 := nd_t hs2_160 | have hs2_16 := nd_f hs2_160 | have hs2_16 := hs2_160
        refine Tr.pick rfl rfl rfl rfl rfl rfl ?_
        refine Tr.move rfl rfl rfl ?_
        refine Tr.fld rfl rfl rfl Tryz.underlying53 rfl Sz51 (by decide) _ rfl ?_
        refine Tr.load1 rfl rfl rfl Tryz.underlying51 rfl (by first | exact mem0 | exact mem1 | exact mem2 | exact mem3 | exact mem4 | exact mem5 | exact mem6 | exact mem7 | (repeat (first | exact List.mem_cons_self | refine List.mem_cons_of_mem _ ?_ | refine mem_seg ?_))) (by first | exact Cut.get_fHeads (by first | assumption | (simp [hB.l_fPrev, hlst]; done) | exact Block.zero_ok | exact Vote.zero_ok | exact Reader.zero_ok | exact Cut.zero_ok | exact Cert.zero_ok | exact Msg.zero_ok | exact Inbox.zero_ok | exact Record.zero_ok | exact Kept.zero_ok  | exact hW.ok) | exact (by first | rfl | exact get_words (by first | omega | (simp [hB.l_fPrev, hlst]; done) | (simp [hB.l_fPrev, hlst]; omega)) | exact get_bytes (by first | omega | (simp [hB.l_fPrev, hlst]; done) | (simp [hB.l_fPrev, hlst]; omega)) | exact get_ints (by first | omega | (simp [hB.l_fPrev, hlst]; done) | (simp [hB.l_fPrev, hlst]; omega)))) ?_
        refine Tr.lenSl rfl rfl rfl Tryz.underlying51 ?_
        refine two (fun r hr k => Tr.lss rfl rfl rfl rfl hr k) (fun hs2_220 => ?_) (fun hs2_220 => ?_)
        ·
          first | have hs2_22 := of_decide_eq_true hs2_220 | have hs2_22 := of_decide_eq_false hs2_220 | have hs2_22 := nd_t hs2_220 | have hs2_22 := nd_f hs2_220 | have hs2_22 := hs2_220
          refine Tr.pick rfl rfl rfl rfl rfl rfl ?_
          refine Tr.move rfl rfl rfl ?_
          refine Tr.skp rfl rfl ?_
          refine Tr.skp rfl rfl ?_
          refine Tr.skp rfl rfl ?_
          refine Tr.skp rfl rfl ?_
          refine Tr.pick rfl rfl rfl rfl rfl rfl ?_
          refine Tr.nil ?_
          refine at_n ?_
          refine Sat.cond_t rfl rfl ?_
          refine Sat.seq ?_
          -- region 3
          refine Sat.region ?_
          refine Tr.assign rfl rfl rfl ?_
          refine Tr.nil ?_
          refine at_n ?_
          refine Sat.ret ?_
          refine at_r ?_
          refine en_r ?_
          refine ⟨_, [], res_tmp rfl rfl, (by simp), (by simp), ?_, rfl⟩
          first
            | exact congrArg i64 (cut_good hnb (headsBad_not (by rw [hll]; exact hg))).symm
            | exact congrArg i64 (cut_bad2 hnb (headsBad_at (k := p.1) (by omega) (by unfold headBad; rw [← hle]; exact decide_eq_true hc2))).symm
            | exact congrArg i64 (cut_bad1 (by unfold cheadB; simp_all)).symm
        ·
          first | have hs2_22 := of_decide_eq_true hs2_220 | have hs2_22 := of_decide_eq_false hs2_220 | have hs2_22 := nd_t hs2_220 | have hs2_22 := nd_f hs2_220 | have hs2_22 := hs2_220
          refine Tr.pick rfl rfl rfl rfl rfl rfl ?_
          refine Tr.move rfl rfl rfl ?_
          refine Tr.fld rfl rfl rfl Tryz.underlying53 rfl Sz51 (by decide) _ rfl ?_
          refine Tr.load1 rfl rfl rfl Tryz.underlying51 rfl (by first | exact mem0 | exact mem1 | exact mem2 | exact mem3 | exact mem4 | exact mem5 | exact mem6 | exact mem7 | (repeat (first | exact List.mem_cons_self | refine List.mem_cons_of_mem _ ?_ | refine mem_seg ?_))) (by first | exact Cut.get_fHeads (by first | assumption | (simp [hB.l_fPrev, hlst]; done) | exact Block.zero_ok | exact Vote.zero_ok | exact Reader.zero_ok | exact Cut.zero_ok | exact Cert.zero_ok | exact Msg.zero_ok | exact Inbox.zero_ok | exact Record.zero_ok | exact Kept.zero_ok  | exact hW.ok) | exact (by first | rfl | exact get_words (by first | omega | (simp [hB.l_fPrev, hlst]; done) | (simp [hB.l_fPrev, hlst]; omega)) | exact get_bytes (by first | omega | (simp [hB.l_fPrev, hlst]; done) | (simp [hB.l_fPrev, hlst]; omega)) | exact get_ints (by first | omega | (simp [hB.l_fPrev, hlst]; done) | (simp [hB.l_fPrev, hlst]; omega)))) ?_
          refine Tr.lenSl rfl rfl rfl Tryz.underlying51 ?_
          refine Tr.gtr rfl rfl rfl rfl rfl ?_
          refine Tr.pick rfl rfl rfl rfl rfl rfl ?_
          refine Tr.nil ?_
          refine at_n ?_
          first
            | refine Sat.condP rfl (fun hc0 => ?_) (fun hc0 => ?_)
            | refine Sat.condNP rfl (fun hc0 => ?_) (fun hc0 => ?_)
            | refine Sat.cond rfl (fun hc0 => ?_) (fun hc0 => ?_)
          ·
            refine Sat.seq ?_
            -- region 3
            refine Sat.region ?_
            refine Tr.assign rfl rfl rfl ?_
            refine Tr.nil ?_
            refine at_n ?_
            refine Sat.ret ?_
            refine at_r ?_
            refine en_r ?_
            refine ⟨_, [], res_tmp rfl rfl, (by simp), (by simp), ?_, rfl⟩
            first
              | exact congrArg i64 (cut_good hnb (headsBad_not (by rw [hll]; exact hg))).symm
              | exact congrArg i64 (cut_bad2 hnb (headsBad_at (k := p.1) (by omega) (by unfold headBad; rw [← hle]; exact decide_eq_true hc2))).symm
              | exact congrArg i64 (cut_bad1 (by unfold cheadB; simp_all)).symm
          ·
            have hnb : ¬ cheadB D.dHeight D.dPrev D.dHeads.length = true := by unfold cheadB; simp_all
            refine Sat.skip ?_
            refine at_n ?_
            refine Sat.seq ?_
            -- region 4
            refine Sat.region ?_
            first
              | refine Tr.loadAll rfl rfl rfl Tryz.underlying50 rfl Sz50 (by first | exact mem0 | exact mem1 | exact mem2 | exact mem3 | exact mem4 | exact mem5 | exact mem6 | exact mem7 | (repeat (first | exact List.mem_cons_self | refine List.mem_cons_of_mem _ ?_ | refine mem_seg ?_))) (by first | assumption | (simp [hB.l_fPrev, hlst]; done) | (rw [bytesV, List.length_map]; assumption)) ?_
              | refine Tr.loadN _ rfl rfl rfl Tryz.underlying50 rfl Sz50 (by first | exact mem0 | exact mem1 | exact mem2 | exact mem3 | exact mem4 | exact mem5 | exact mem6 | exact mem7 | (repeat (first | exact List.mem_cons_self | refine List.mem_cons_of_mem _ ?_ | refine mem_seg ?_))) (by exact rfl) (by first | assumption | (simp [hB.l_fPrev, hlst]; done) | (rw [bytesV, List.length_map]; assumption)) ?_
            refine Tr.alloc (cs := (bytesV (List.replicate 32 0))) rfl Zr50 rfl ?_
            intro n4 hn4 hf4
            first
              | refine Tr.storeAll rfl rfl rfl rfl (by first | exact bytesV_cell _ | simp [isCell]) Sz50 (by first | assumption | (simp [hB.l_fPrev, hlst]; done) | (rw [bytesV, List.length_map]; assumption)) (by first | exact mem0 | exact mem1 | exact mem2 | exact mem3 | exact mem4 | exact mem5 | exact mem6 | exact mem7 | (repeat (first | exact List.mem_cons_self | refine List.mem_cons_of_mem _ ?_ | refine mem_seg ?_))) (by first | assumption | (simp [hB.l_fPrev, hlst]; done) | (rw [bytesV, List.length_map]; assumption)) (by first | exact upd0 | exact upd1 | exact upd2 | exact upd3 | exact upd4 | exact upd5 | exact upd6 | exact upd7 | (repeat (first | exact upd0 | apply Upd.tail | apply Upd.seg))) ?_
              | refine Tr.storeN _ rfl rfl rfl rfl rfl (by first | exact bytesV_cell _ | simp [isCell]) Sz50 (by first | assumption | (simp [hB.l_fPrev, hlst]; done) | (rw [bytesV, List.length_map]; assumption)) (by first | exact mem0 | exact mem1 | exact mem2 | exact mem3 | exact mem4 | exact mem5 | exact mem6 | exact mem7 | (repeat (first | exact List.mem_cons_self | refine List.mem_cons_of_mem _ ?_ | refine mem_seg ?_))) (by first | assumption | (simp [hB.l_fPrev, hlst]; done) | (rw [bytesV, List.length_map]; assumption)) (by exact rfl) (by first | exact upd0 | exact upd1 | exact upd2 | exact upd3 | exact upd4 | exact upd5 | exact upd6 | exact upd7 | (repeat (first | exact upd0 | apply Upd.tail | apply Upd.seg))) ?_
            refine Tr.nil ?_
            refine at_n ?_
            refine Sat.seq ?_
            refine Sat.seq ?_
            -- region 5
            refine Sat.region ?_
            refine Tr.fld rfl rfl rfl Tryz.underlying53 rfl Sz51 (by decide) _ rfl ?_
            refine Tr.load1 rfl rfl rfl Tryz.underlying51 rfl (by first | exact mem0 | exact mem1 | exact mem2 | exact mem3 | exact mem4 | exact mem5 | exact mem6 | exact mem7 | (repeat (first | exact List.mem_cons_self | refine List.mem_cons_of_mem _ ?_ | refine mem_seg ?_))) (by first | exact Cut.get_fHeads (by first | assumption | (simp [hB.l_fPrev, hlst]; done) | exact Block.zero_ok | exact Vote.zero_ok | exact Reader.zero_ok | exact Cut.zero_ok | exact Cert.zero_ok | exact Msg.zero_ok | exact Inbox.zero_ok | exact Record.zero_ok | exact Kept.zero_ok  | exact hW.ok) | exact (by first | rfl | exact get_words (by first | omega | (simp [hB.l_fPrev, hlst]; done) | (simp [hB.l_fPrev, hlst]; omega)) | exact get_bytes (by first | omega | (simp [hB.l_fPrev, hlst]; done) | (simp [hB.l_fPrev, hlst]; omega)) | exact get_ints (by first | omega | (simp [hB.l_fPrev, hlst]; done) | (simp [hB.l_fPrev, hlst]; omega)))) ?_
            refine Tr.lenSl rfl rfl rfl Tryz.underlying51 ?_
            refine Tr.move rfl rfl rfl ?_
            refine Tr.nil ?_
            refine at_n ?_
            refine Sat.block ?_
            refine Sat.loop (ι := Nat × List UInt8) (fun p => ⟨[(1, ptr n1 0), (4, ptr n4 0), (40, C.fHeads.v), (41, i64 (C.fHeads.n : Int)), (42, i64 (p.1 : Int))], [⟨n4, bytesV p.2, 50, 32⟩, ⟨n1, C.cells, 53, C.cells.length⟩]⟩) (fun p => p.1 ≤ C.fHeads.n ∧ (∀ j, j < p.1 → headBad D.dHeads j = false) ∧ p.2 = lastH D.dHeads p.1 ∧ p.2.length = 32) (fun p => C.fHeads.n - p.1) ((0, List.replicate 32 0)) ?_ ?_ ?_
            · exact ⟨Nat.zero_le _, fun j hj => absurd hj (Nat.not_lt_zero _), rfl, by simp⟩
            · exact weak_of (wk1 rfl (wk1 rfl (wk1 rfl (wk1 rfl (wk1 rfl wk0))))) (wh1 (by first | exact mem0 | exact mem1 | exact mem2 | exact mem3 | exact mem4 | exact mem5 | exact mem6 | exact mem7 | (repeat (first | exact List.mem_cons_self | refine List.mem_cons_of_mem _ ?_ | refine mem_seg ?_))) (wh1 (by first | exact mem0 | exact mem1 | exact mem2 | exact mem3 | exact mem4 | exact mem5 | exact mem6 | exact mem7 | (repeat (first | exact List.mem_cons_self | refine List.mem_cons_of_mem _ ?_ | refine mem_seg ?_))) wh0)) (by repeat (first | exact ns_nil | refine ns_keep rfl ?_ | refine ns_skip ?_))
            ·
              rintro p ⟨hk, hg, hle, hlst⟩
              refine Sat.seq ?_
              -- region 6
              refine Sat.region ?_
              refine Tr.lss rfl rfl rfl rfl rfl ?_
              refine Tr.nil ?_
              refine at_n ?_
              refine Sat.seq ?_
              first
                | refine Sat.condP rfl (fun hc1 => ?_) (fun hc1 => ?_)
                | refine Sat.condNP rfl (fun hc1 => ?_) (fun hc1 => ?_)
                | refine Sat.cond rfl (fun hc1 => ?_) (fun hc1 => ?_)
              ·
                have hk2 : p.1 < C.fHeads.n := by omega
                obtain ⟨b, o, hbp, hbs⟩ := hW.fHeads.see.at (by rw [flatB_length hW.fHeads.row]; omega)
                have hr0 : (D.dHeads.getD p.1 []).length = 32 := getD_len hW.fHeads.row (by omega)
                refine Sat.skip ?_
                refine at_n ?_
                refine Sat.seq ?_
                refine Sat.block ?_
                refine Sat.seq ?_
                -- region 7
                refine Sat.region ?_
                refine Tr.idxSlP 32 rfl rfl rfl hbp rfl Tryz.underlying51 Sz50 p.1 rfl (by omega) ?_
                refine Tr.loadEN (bytesV (D.dHeads.getD (p.1) [])) rfl rfl rfl Tryz.underlying50 rfl Sz50 (by simp) (by rw [bytesV, List.length_map]; exact getD_len hW.fHeads.row (by rw [hW.fHeads.len]; omega)) (sees_row hW.fHeads.row hbs (by rw [hW.fHeads.len]; omega)) ?_
                refine Tr.alloc (cs := (bytesV (List.replicate 32 0))) rfl Zr50 rfl ?_
                intro n6 hn6 hf6
                first
                  | refine Tr.storeAll rfl rfl rfl rfl (by first | exact bytesV_cell _ | simp [isCell]) Sz50 (by first | assumption | (simp [hB.l_fPrev, hlst]; done) | (rw [bytesV, List.length_map]; assumption)) (by first | exact mem0 | exact mem1 | exact mem2 | exact mem3 | exact mem4 | exact mem5 | exact mem6 | exact mem7 | (repeat (first | exact List.mem_cons_self | refine List.mem_cons_of_mem _ ?_ | refine mem_seg ?_))) (by first | assumption | (simp [hB.l_fPrev, hlst]; done) | (rw [bytesV, List.length_map]; assumption)) (by first | exact upd0 | exact upd1 | exact upd2 | exact upd3 | exact upd4 | exact upd5 | exact upd6 | exact upd7 | (repeat (first | exact upd0 | apply Upd.tail | apply Upd.seg))) ?_
                  | refine Tr.storeN _ rfl rfl rfl rfl rfl (by first | exact bytesV_cell _ | simp [isCell]) Sz50 (by first | assumption | (simp [hB.l_fPrev, hlst]; done) | (rw [bytesV, List.length_map]; assumption)) (by first | exact mem0 | exact mem1 | exact mem2 | exact mem3 | exact mem4 | exact mem5 | exact mem6 | exact mem7 | (repeat (first | exact List.mem_cons_self | refine List.mem_cons_of_mem _ ?_ | refine mem_seg ?_))) (by first | assumption | (simp [hB.l_fPrev, hlst]; done) | (rw [bytesV, List.length_map]; assumption)) (by exact rfl) (by first | exact upd0 | exact upd1 | exact upd2 | exact upd3 | exact upd4 | exact upd5 | exact upd6 | exact upd7 | (repeat (first | exact upd0 | apply Upd.tail | apply Upd.seg))) ?_
                refine Tr.nil ?_
                refine at_n ?_
                refine Sat.seq ?_
                refine Sat.seq ?_
                -- region 8
                refine Sat.region ?_
                first
                  | refine Tr.loadAll rfl rfl rfl Tryz.underlying50 rfl Sz50 (by first | exact mem0 | exact mem1 | exact mem2 | exact mem3 | exact mem4 | exact mem5 | exact mem6 | exact mem7 | (repeat (first | exact List.mem_cons_self | refine List.mem_cons_of_mem _ ?_ | refine mem_seg ?_))) (by first | assumption | (simp [hB.l_fPrev, hlst]; done) | (rw [bytesV, List.length_map]; assumption)) ?_
                  | refine Tr.loadN _ rfl rfl rfl Tryz.underlying50 rfl Sz50 (by first | exact mem0 | exact mem1 | exact mem2 | exact mem3 | exact mem4 | exact mem5 | exact mem6 | exact mem7 | (repeat (first | exact List.mem_cons_self | refine List.mem_cons_of_mem _ ?_ | refine mem_seg ?_))) (by exact rfl) (by first | assumption | (simp [hB.l_fPrev, hlst]; done) | (rw [bytesV, List.length_map]; assumption)) ?_
                first
                  | refine Tr.loadAll rfl rfl rfl Tryz.underlying50 rfl Sz50 (by first | exact mem0 | exact mem1 | exact mem2 | exact mem3 | exact mem4 | exact mem5 | exact mem6 | exact mem7 | (repeat (first | exact List.mem_cons_self | refine List.mem_cons_of_mem _ ?_ | refine mem_seg ?_))) (by first | assumption | (simp [hB.l_fPrev, hlst]; done) | (rw [bytesV, List.length_map]; assumption)) ?_
                  | refine Tr.loadN _ rfl rfl rfl Tryz.underlying50 rfl Sz50 (by first | exact mem0 | exact mem1 | exact mem2 | exact mem3 | exact mem4 | exact mem5 | exact mem6 | exact mem7 | (repeat (first | exact List.mem_cons_self | refine List.mem_cons_of_mem _ ?_ | refine mem_seg ?_))) (by exact rfl) (by first | assumption | (simp [hB.l_fPrev, hlst]; done) | (rw [bytesV, List.length_map]; assumption)) ?_
                refine Tr.callV rfl rfl rfl rfl Body186 (block_cmp _ _ hlst hr0) (fun _ _ => trivial) ?_
                refine Tr.geq rfl rfl rfl rfl rfl ?_
                refine Tr.nil ?_
                refine at_n ?_
                first
                  | refine Sat.condP rfl (fun hc2 => ?_) (fun hc2 => ?_)
                  | refine Sat.condNP rfl (fun hc2 => ?_) (fun hc2 => ?_)
                  | refine Sat.cond rfl (fun hc2 => ?_) (fun hc2 => ?_)
                ·
                  refine Sat.seq ?_
                  -- region 9
                  refine Sat.region ?_
                  refine Tr.assign rfl rfl rfl ?_
                  refine Tr.nil ?_
                  refine at_n ?_
                  refine Sat.ret ?_
                  refine at_r ?_
                  refine bl_r ?_
                  refine at_r ?_
                  refine at_r ?_
                  refine bl_r ?_
                  refine at_r ?_
                  refine en_r ?_
                  refine ⟨_, [], res_tmp rfl rfl, (by simp), (by simp), ?_, rfl⟩
                  first
                    | exact congrArg i64 (cut_good hnb (headsBad_not (by rw [hll]; exact hg))).symm
                    | exact congrArg i64 (cut_bad2 hnb (headsBad_at (k := p.1) (by omega) (by unfold headBad; rw [← hle]; exact decide_eq_true hc2))).symm
                    | exact congrArg i64 (cut_bad1 (by unfold cheadB; simp_all)).symm
                ·
                  have hgk : headBad D.dHeads p.1 = false := by unfold headBad; rw [← hle]; exact decide_eq_false hc2
                  refine Sat.skip ?_
                  refine at_n ?_
                  -- region 10
                  refine Sat.region ?_
                  first
                    | refine Tr.loadAll rfl rfl rfl Tryz.underlying50 rfl Sz50 (by first | exact mem0 | exact mem1 | exact mem2 | exact mem3 | exact mem4 | exact mem5 | exact mem6 | exact mem7 | (repeat (first | exact List.mem_cons_self | refine List.mem_cons_of_mem _ ?_ | refine mem_seg ?_))) (by first | assumption | (simp [hB.l_fPrev, hlst]; done) | (rw [bytesV, List.length_map]; assumption)) ?_
                    | refine Tr.loadN _ rfl rfl rfl Tryz.underlying50 rfl Sz50 (by first | exact mem0 | exact mem1 | exact mem2 | exact mem3 | exact mem4 | exact mem5 | exact mem6 | exact mem7 | (repeat (first | exact List.mem_cons_self | refine List.mem_cons_of_mem _ ?_ | refine mem_seg ?_))) (by exact rfl) (by first | assumption | (simp [hB.l_fPrev, hlst]; done) | (rw [bytesV, List.length_map]; assumption)) ?_
                  first
                    | refine Tr.storeAll rfl rfl rfl rfl (by first | exact bytesV_cell _ | simp [isCell]) Sz50 (by first | assumption | (simp [hB.l_fPrev, hlst]; done) | (rw [bytesV, List.length_map]; assumption)) (by first | exact mem0 | exact mem1 | exact mem2 | exact mem3 | exact mem4 | exact mem5 | exact mem6 | exact mem7 | (repeat (first | exact List.mem_cons_self | refine List.mem_cons_of_mem _ ?_ | refine mem_seg ?_))) (by first | assumption | (simp [hB.l_fPrev, hlst]; done) | (rw [bytesV, List.length_map]; assumption)) (by first | exact upd0 | exact upd1 | exact upd2 | exact upd3 | exact upd4 | exact upd5 | exact upd6 | exact upd7 | (repeat (first | exact upd0 | apply Upd.tail | apply Upd.seg))) ?_
                    | refine Tr.storeN _ rfl rfl rfl rfl rfl (by first | exact bytesV_cell _ | simp [isCell]) Sz50 (by first | assumption | (simp [hB.l_fPrev, hlst]; done) | (rw [bytesV, List.length_map]; assumption)) (by first | exact mem0 | exact mem1 | exact mem2 | exact mem3 | exact mem4 | exact mem5 | exact mem6 | exact mem7 | (repeat (first | exact List.mem_cons_self | refine List.mem_cons_of_mem _ ?_ | refine mem_seg ?_))) (by first | assumption | (simp [hB.l_fPrev, hlst]; done) | (rw [bytesV, List.length_map]; assumption)) (by exact rfl) (by first | exact upd0 | exact upd1 | exact upd2 | exact upd3 | exact upd4 | exact upd5 | exact upd6 | exact upd7 | (repeat (first | exact upd0 | apply Upd.tail | apply Upd.seg))) ?_
                  refine Tr.nil ?_
                  refine bl_n ?_
                  refine at_n ?_
                  -- region 11
                  refine Sat.region ?_
                  refine Tr.add_i64 rfl rfl rfl rfl (by omega) ?_
                  refine Tr.move rfl rfl rfl ?_
                  refine Tr.nil ?_
                  refine at_n ?_
                  exact ⟨(p.1 + 1, D.dHeads.getD p.1 []), ⟨by simp only []; omega, fun j hj => by rcases Nat.lt_succ_iff_lt_or_eq.1 hj with h | rfl; exact hg j h; exact hgk, (lastH_succ _ _).symm, hr0⟩, by simp only []; omega, weak_of (wk1 rfl (wk1 rfl (wk1 rfl (wk1 rfl (wk1 rfl wk0))))) (wh1 (by first | exact mem0 | exact mem1 | exact mem2 | exact mem3 | exact mem4 | exact mem5 | exact mem6 | exact mem7 | (repeat (first | exact List.mem_cons_self | refine List.mem_cons_of_mem _ ?_ | refine mem_seg ?_))) (wh1 (by first | exact mem0 | exact mem1 | exact mem2 | exact mem3 | exact mem4 | exact mem5 | exact mem6 | exact mem7 | (repeat (first | exact List.mem_cons_self | refine List.mem_cons_of_mem _ ?_ | refine mem_seg ?_))) wh0)) (by repeat (first | exact ns_nil | refine ns_keep rfl ?_ | refine ns_skip ?_))⟩
              ·
                have hpe : p.1 = C.fHeads.n := by omega
                rw [hpe] at hg
                refine Sat.exit ?_
                refine at_x ?_
                refine at_x ?_
                refine bl_h ?_
                refine at_n ?_
                refine Sat.seq ?_
                -- region 12
                refine Sat.region ?_
                refine Tr.assign rfl rfl rfl ?_
                refine Tr.nil ?_
                refine at_n ?_
                refine Sat.ret ?_
                refine en_r ?_
                refine ⟨_, [], res_tmp rfl rfl, (by simp), (by simp), ?_, rfl⟩
                first
                  | exact congrArg i64 (cut_good hnb (headsBad_not (by rw [hll]; exact hg))).symm
                  | exact congrArg i64 (cut_bad2 hnb (headsBad_at (k := p.1) (by omega) (by unfold headBad; rw [← hle]; exact decide_eq_true hc2))).symm
                  | exact congrArg i64 (cut_bad1 (by unfold cheadB; simp_all)).symm

end Go.Proofs.YtejjamifnombhaaGreat
end

section
namespace Go.Proofs.YtejjamifnombhaaGreat
open Go Hw
set_option linter.unusedVariables false
set_option linter.unusedSimpArgs false


/-- the place of the first, or -1 -/
def fstBad {D : Type} (f : D → Bool) (ds : List D) : Int := if ds.any f = true then ((ds.findIdx f : Nat) : Int) else -1
theorem fstBad_none {D : Type} {f : D → Bool} {ds : List D} (h : ∀ j, j < ds.length → (ds.map f)[j]? = some false) : fstBad f ds = -1 := by
  refine if_neg fun e => ?_
  obtain ⟨x, hx, hf⟩ := List.any_eq_true.1 e
  obtain ⟨j, hj, rfl⟩ := List.getElem_of_mem hx
  have := h j hj
  rw [List.getElem?_map, List.getElem?_eq_getElem hj] at this
  simp [hf] at this
theorem fstBad_at {D : Type} {f : D → Bool} {ds : List D} {k : Nat} (h : ∀ j, j < k → (ds.map f)[j]? = some false) (hk : (ds.map f)[k]? = some true) : fstBad f ds = (k : Int) := by
  rw [List.getElem?_map] at hk
  obtain ⟨x, hx, hf⟩ := Option.map_eq_some_iff.1 hk
  obtain ⟨hlt, rfl⟩ := List.getElem?_eq_some_iff.1 hx
  unfold fstBad
  rw [if_pos (List.any_eq_true.2 ⟨_, List.getElem_mem hlt, hf⟩)]
  congr 1
  rw [List.findIdx_eq hlt]
  refine ⟨hf, fun j hj => ?_⟩
  have := h j hj
  rw [List.getElem?_map, List.getElem?_eq_getElem (by omega)] at this
  simpa using this
theorem fstBad_ge {D : Type} (f : D → Bool) (ds : List D) : decide ((0 : Int) ≤ fstBad f ds) = ds.any f := by
  unfold fstBad
  split
  · rename_i h
    rw [h]; simp
  · rename_i h
    rw [Bool.not_eq_true] at h
    rw [h]; simp
theorem any_all {D : Type} (f : D → Bool) (ds : List D) : (!ds.any fun d => !f d) = ds.all f := by simp [List.any_eq_not_all_not]


set_option maxRecDepth 100000 in
set_option maxHeartbeats 1000000 in
theorem all_block_1 (x : Block) (d : DB) (q : Nat) : Meets Tryz.prog 217 [agg x.cells, ptr q 0] [] (fun W => BlockIs W x d ∧ W.cell? ⟨q, 0, none⟩ = some (.func (.func 87) #[] #[])) (fun v out => v = .bool (!decide (d.check = 0)) ∧ out = []) := by
  intro W hW
  refine calls_of (hp0 := []) Tryz.func217 rfl 8 Tryz.ntmps217 rfl (HRep.nil _) ?_
  refine Sat.seq ?_
  -- region 0
  refine Sat.region ?_
  refine Tr.boxA rfl rfl ?_
  intro n2 hn2 hf2
  refine Tr.assign rfl rfl rfl ?_
  refine Tr.nil ?_
  refine at_n ?_
  refine Sat.seq ?_
  -- region 1
  refine Sat.region ?_
  refine Tr.loadE rfl rfl rfl Tryz.underlying128 rfl (by first | (simp; done) | (simp; exact hW.2.2) | (simp [Cx.with]; done) | (simp [Cx.with]; omega)) (hW.2) ?_
  refine Tr.loadAll rfl rfl rfl Tryz.underlying79 rfl Sz79 (by first | exact mem0 | exact mem1 | exact mem2 | exact mem3 | exact mem4 | exact mem5 | exact mem6 | exact mem7 | (repeat (first | exact List.mem_cons_self | refine List.mem_cons_of_mem _ ?_ | refine mem_seg ?_))) (Block.length (by first | assumption | (simp; done) | exact Block.zero_ok | exact Vote.zero_ok | exact Reader.zero_ok | exact Cut.zero_ok | exact Cert.zero_ok | exact Msg.zero_ok | exact Inbox.zero_ok | exact Record.zero_ok | exact Kept.zero_ok  | exact hW.1.ok)) ?_
  refine Tr.callV rfl rfl rfl rfl Body87 (db_check x d) (fun w h => hW.1.ext h rfl) ?_
  refine Tr.nei rfl rfl rfl rfl rfl ?_
  refine Tr.assign rfl rfl rfl ?_
  refine Tr.nil ?_
  refine at_n ?_
  refine Sat.ret ?_
  refine en_r ?_
  refine ⟨_, [], res_tmp rfl rfl, (by simp), (by simp), ?_, rfl⟩
  first
    | rfl
    | simp

set_option maxRecDepth 100000 in
set_option maxHeartbeats 1000000 in
theorem index_block (s : Sl) (ds : List DB) (q : Nat) : Meets Tryz.prog 238 [s.v, .func (.func 217) #[] #[ptr q 0]] [] (fun W => BlocksAt W s ds ∧ W.cell? ⟨q, 0, none⟩ = some (.func (.func 87) #[] #[])) (fun v out => v = i64 (fstBad (fun d : DB => !decide (d.check = 0)) ds) ∧ out = []) := by
  intro W hW
  obtain ⟨⟨rs, hs⟩, hq⟩ := hW
  have hmax := hs.max
  simp only [maxLen] at hmax
  have hcap := hs.cap
  refine calls_of (hp0 := []) Tryz.func238 rfl 19 Tryz.ntmps238 rfl (HRep.nil _) ?_
  refine Sat.seq ?_
  -- region 0
  refine Sat.region ?_
  refine Tr.assign rfl rfl rfl ?_
  refine Tr.nil ?_
  refine at_n ?_
  refine Sat.seq ?_
  refine Sat.seq ?_
  -- region 1
  refine Sat.region ?_
  refine Tr.move rfl rfl rfl ?_
  refine Tr.lenSl rfl rfl rfl Tryz.underlying22 ?_
  refine Tr.move rfl rfl rfl ?_
  refine Tr.nil ?_
  refine at_n ?_
  refine Sat.block ?_
  refine Sat.loop (ι := Nat) (fun k => ⟨[(0, s.v), (1, .func (.func 217) #[] #[ptr q 0]), (7, i64 (s.n : Int)), (8, i64 (k : Int))], []⟩) (fun k => k ≤ s.n ∧ ∀ j, j < k → (ds.map (fun d : DB => !decide (d.check = 0)))[j]? = some false) (fun k => s.n - k) (0) ?_ ?_ ?_
  · exact ⟨by omega, fun j hj => by omega⟩
  · exact weak_of (wk1 rfl (wk1 rfl (wk1 rfl (wk1 rfl wk0)))) wh0 (by repeat (first | exact ns_nil | refine ns_keep rfl ?_ | refine ns_skip ?_))
  ·
    rintro k ⟨hk, hg⟩
    refine Sat.seq ?_
    -- region 2
    refine Sat.region ?_
    refine Tr.lss rfl rfl rfl rfl rfl ?_
    refine Tr.nil ?_
    refine at_n ?_
    refine Sat.seq ?_
    first
      | refine Sat.condP rfl (fun hc0 => ?_) (fun hc0 => ?_)
      | refine Sat.condNP rfl (fun hc0 => ?_) (fun hc0 => ?_)
      | refine Sat.cond rfl (fun hc0 => ?_) (fun hc0 => ?_)
    ·
      have hk2 : k < s.n := by omega
      obtain ⟨b, o, r, d, hsp, hr, hd, his, hlen, hsee⟩ := hs.at (by decide) hk2
      refine Sat.skip ?_
      refine at_n ?_
      refine Sat.seq ?_
      refine Sat.block ?_
      refine Sat.seq ?_
      -- region 3
      refine Sat.region ?_
      refine Tr.move rfl rfl rfl ?_
      refine Tr.assign rfl rfl rfl ?_
      refine Tr.nil ?_
      refine at_n ?_
      refine Sat.seq ?_
      -- region 4
      refine Sat.region ?_
      refine Tr.move rfl rfl rfl ?_
      refine Tr.move rfl rfl rfl ?_
      refine Tr.move rfl rfl rfl ?_
      refine Tr.idxSlP 131 rfl rfl rfl hsp rfl Tryz.underlying22 Sz79 k (by omega) (by omega) ?_
      refine Tr.loadEN r.cells rfl rfl rfl Tryz.underlying79 rfl Sz79 (by simp) hlen hsee ?_
      refine Tr.callCV rfl rfl rfl rfl rfl Body217 (all_block_1 r d q) (fun w h => ⟨his.ext h rfl, h.keeps.cell (by simp) hq⟩) ?_
      refine Tr.nil ?_
      refine at_n ?_
      first
        | refine Sat.condP rfl (fun hc1 => ?_) (fun hc1 => ?_)
        | refine Sat.condNP rfl (fun hc1 => ?_) (fun hc1 => ?_)
        | refine Sat.cond rfl (fun hc1 => ?_) (fun hc1 => ?_)
      ·
        refine Sat.seq ?_
        -- region 5
        refine Sat.region ?_
        refine Tr.move rfl rfl rfl ?_
        refine Tr.assign rfl rfl rfl ?_
        refine Tr.nil ?_
        refine at_n ?_
        refine Sat.ret ?_
        refine bl_r ?_
        refine at_r ?_
        refine at_r ?_
        refine bl_r ?_
        refine at_r ?_
        refine en_r ?_
        refine ⟨_, [], res_tmp rfl rfl, (by simp), (by simp), ?_, rfl⟩
        first
          | exact congrArg i64 (fstBad_none (by intro j hj; exact hg j (by rw [hs.nd] at hj; exact hj))).symm
          | exact congrArg i64 (fstBad_at hg (by rw [List.getElem?_map, hd]; simpa using hc1)).symm
      ·
        refine Sat.skip ?_
        refine bl_n ?_
        refine at_n ?_
        -- region 6
        refine Sat.region ?_
        refine Tr.add_i64 rfl rfl rfl rfl (by omega) ?_
        refine Tr.move rfl rfl rfl ?_
        refine Tr.nil ?_
        refine at_n ?_
        exact ⟨k + 1, ⟨by omega, fun j hj => by rcases Nat.lt_succ_iff_lt_or_eq.1 hj with h | rfl; exact hg j h; rw [List.getElem?_map, hd]; simpa using hc1⟩, by omega, weak_of (wk1 rfl (wk1 rfl (wk1 rfl (wk1 rfl wk0)))) wh0 (by repeat (first | exact ns_nil | refine ns_keep rfl ?_ | refine ns_skip ?_))⟩
    ·
      obtain rfl : k = s.n := by omega
      refine Sat.exit ?_
      refine at_x ?_
      refine at_x ?_
      refine bl_h ?_
      refine at_n ?_
      refine Sat.seq ?_
      -- region 7
      refine Sat.region ?_
      refine Tr.assign rfl rfl rfl ?_
      refine Tr.nil ?_
      refine at_n ?_
      refine Sat.ret ?_
      refine en_r ?_
      refine ⟨_, [], res_tmp rfl rfl, (by simp), (by simp), ?_, rfl⟩
      first
        | exact congrArg i64 (fstBad_none (by intro j hj; exact hg j (by rw [hs.nd] at hj; exact hj))).symm
        | exact congrArg i64 (fstBad_at hg (by rw [List.getElem?_map, hd]; simpa using hc1)).symm

set_option maxRecDepth 100000 in
set_option maxHeartbeats 1000000 in
theorem contains_block (s : Sl) (ds : List DB) (q : Nat) : Meets Tryz.prog 184 [s.v, .func (.func 217) #[] #[ptr q 0]] [] (fun W => BlocksAt W s ds ∧ W.cell? ⟨q, 0, none⟩ = some (.func (.func 87) #[] #[])) (fun v out => v = .bool (ds.any (fun d : DB => !decide (d.check = 0))) ∧ out = []) := by
  intro W hW
  refine calls_of (hp0 := []) Tryz.func184 rfl 9 Tryz.ntmps184 rfl (HRep.nil _) ?_
  refine Sat.seq ?_
  -- region 0
  refine Sat.region ?_
  refine Tr.assign rfl rfl rfl ?_
  refine Tr.nil ?_
  refine at_n ?_
  refine Sat.seq ?_
  -- region 1
  refine Sat.region ?_
  refine Tr.move rfl rfl rfl ?_
  refine Tr.move rfl rfl rfl ?_
  refine Tr.callV rfl rfl rfl rfl Body238 (index_block s ds q) (fun w h => ⟨Blocks_ext h rfl hW.1, h.keeps.cell (by simp) hW.2⟩) ?_
  refine Tr.geq rfl rfl rfl rfl rfl ?_
  refine Tr.assign rfl rfl rfl ?_
  refine Tr.nil ?_
  refine at_n ?_
  refine Sat.ret ?_
  refine en_r ?_
  refine ⟨_, [], res_tmp rfl rfl, (by simp), (by simp), ?_, rfl⟩
  exact congrArg Value.bool (fstBad_ge _ _)

set_option maxRecDepth 100000 in
set_option maxHeartbeats 1000000 in
theorem all_block (s : Sl) (ds : List DB) : Meets Tryz.prog 131 [s.v, .func (.func 87) #[] #[]] [] (fun W => BlocksAt W s ds) (fun v out => v = .bool (ds.all fun d => decide (d.check = 0)) ∧ out = []) := by
  intro W hW
  refine calls_of (hp0 := []) Tryz.func131 rfl 9 Tryz.ntmps131 rfl (HRep.nil _) ?_
  refine Sat.seq ?_
  -- region 0
  refine Sat.region ?_
  refine Tr.box1 rfl rfl rfl ?_
  intro n3 hn3 hf3
  refine Tr.assign rfl rfl rfl ?_
  refine Tr.nil ?_
  refine at_n ?_
  refine Sat.seq ?_
  -- region 1
  refine Sat.region ?_
  refine Tr.move rfl rfl rfl ?_
  refine Tr.makeFunc rfl rfl rfl rfl ?_
  refine Tr.callV rfl rfl rfl rfl Body184 (contains_block s ds n3) (fun w h => ⟨Blocks_ext h rfl hW, (own_blk h (by first | exact mem0 | exact mem1 | exact mem2 | exact mem3 | exact mem4 | exact mem5 | exact mem6 | exact mem7 | (repeat (first | exact List.mem_cons_self | refine List.mem_cons_of_mem _ ?_ | refine mem_seg ?_)))).cell (o := 0) rfl⟩) ?_
  refine Tr.not rfl rfl rfl ?_
  refine Tr.assign rfl rfl rfl ?_
  refine Tr.nil ?_
  refine at_n ?_
  refine Sat.ret ?_
  refine en_r ?_
  refine ⟨_, [], res_tmp rfl rfl, (by simp), (by simp), ?_, rfl⟩
  exact congrArg Value.bool (any_all _ _)

set_option maxRecDepth 100000 in
set_option maxHeartbeats 1000000 in
theorem all_vote_1 (x : Vote) (d : Vote) (q : Nat) : Meets Tryz.prog 218 [agg x.cells, ptr q 0] [] (fun W => VoteIs W x d ∧ W.cell? ⟨q, 0, none⟩ = some (.func (.func 90) #[] #[])) (fun v out => v = .bool (!decide (vcheck d = 0)) ∧ out = []) := by
  intro W hW
  refine calls_of (hp0 := []) Tryz.func218 rfl 8 Tryz.ntmps218 rfl (HRep.nil _) ?_
  refine Sat.seq ?_
  -- region 0
  refine Sat.region ?_
  refine Tr.boxA rfl rfl ?_
  intro n2 hn2 hf2
  refine Tr.assign rfl rfl rfl ?_
  refine Tr.nil ?_
  refine at_n ?_
  refine Sat.seq ?_
  -- region 1
  refine Sat.region ?_
  refine Tr.loadE rfl rfl rfl Tryz.underlying131 rfl (by first | (simp; done) | (simp; exact hW.2.2) | (simp [Cx.with]; done) | (simp [Cx.with]; omega)) (hW.2) ?_
  refine Tr.loadAll rfl rfl rfl Tryz.underlying81 rfl Sz81 (by first | exact mem0 | exact mem1 | exact mem2 | exact mem3 | exact mem4 | exact mem5 | exact mem6 | exact mem7 | (repeat (first | exact List.mem_cons_self | refine List.mem_cons_of_mem _ ?_ | refine mem_seg ?_))) (Vote.length (by first | assumption | (simp; done) | exact Block.zero_ok | exact Vote.zero_ok | exact Reader.zero_ok | exact Cut.zero_ok | exact Cert.zero_ok | exact Msg.zero_ok | exact Inbox.zero_ok | exact Record.zero_ok | exact Kept.zero_ok  | exact hW.1.ok)) ?_
  refine Tr.callV rfl rfl rfl rfl Body90 ((vote_check x hW.1.ok).imp (fun w h => trivial) (fun v out h => by rwa [hW.1.eq] at h)) (fun w h => hW.1.ext h rfl) ?_
  refine Tr.nei rfl rfl rfl rfl rfl ?_
  refine Tr.assign rfl rfl rfl ?_
  refine Tr.nil ?_
  refine at_n ?_
  refine Sat.ret ?_
  refine en_r ?_
  refine ⟨_, [], res_tmp rfl rfl, (by simp), (by simp), ?_, rfl⟩
  first
    | rfl
    | simp

set_option maxRecDepth 100000 in
set_option maxHeartbeats 1000000 in
theorem index_vote (s : Sl) (ds : List Vote) (q : Nat) : Meets Tryz.prog 240 [s.v, .func (.func 218) #[] #[ptr q 0]] [] (fun W => VotesAt W s ds ∧ W.cell? ⟨q, 0, none⟩ = some (.func (.func 90) #[] #[])) (fun v out => v = i64 (fstBad (fun d : Vote => !decide (vcheck d = 0)) ds) ∧ out = []) := by
  intro W hW
  obtain ⟨⟨rs, hs⟩, hq⟩ := hW
  have hmax := hs.max
  simp only [maxLen] at hmax
  have hcap := hs.cap
  refine calls_of (hp0 := []) Tryz.func240 rfl 19 Tryz.ntmps240 rfl (HRep.nil _) ?_
  refine Sat.seq ?_
  -- region 0
  refine Sat.region ?_
  refine Tr.assign rfl rfl rfl ?_
  refine Tr.nil ?_
  refine at_n ?_
  refine Sat.seq ?_
  refine Sat.seq ?_
  -- region 1
  refine Sat.region ?_
  refine Tr.move rfl rfl rfl ?_
  refine Tr.lenSl rfl rfl rfl Tryz.underlying24 ?_
  refine Tr.move rfl rfl rfl ?_
  refine Tr.nil ?_
  refine at_n ?_
  refine Sat.block ?_
  refine Sat.loop (ι := Nat) (fun k => ⟨[(0, s.v), (1, .func (.func 218) #[] #[ptr q 0]), (7, i64 (s.n : Int)), (8, i64 (k : Int))], []⟩) (fun k => k ≤ s.n ∧ ∀ j, j < k → (ds.map (fun d : Vote => !decide (vcheck d = 0)))[j]? = some false) (fun k => s.n - k) (0) ?_ ?_ ?_
  · exact ⟨by omega, fun j hj => by omega⟩
  · exact weak_of (wk1 rfl (wk1 rfl (wk1 rfl (wk1 rfl wk0)))) wh0 (by repeat (first | exact ns_nil | refine ns_keep rfl ?_ | refine ns_skip ?_))
  ·
    rintro k ⟨hk, hg⟩
    refine Sat.seq ?_
    -- region 2
    refine Sat.region ?_
    refine Tr.lss rfl rfl rfl rfl rfl ?_
    refine Tr.nil ?_
    refine at_n ?_
    refine Sat.seq ?_
    first
      | refine Sat.condP rfl (fun hc0 => ?_) (fun hc0 => ?_)
      | refine Sat.condNP rfl (fun hc0 => ?_) (fun hc0 => ?_)
      | refine Sat.cond rfl (fun hc0 => ?_) (fun hc0 => ?_)
    ·
      have hk2 : k < s.n := by omega
      obtain ⟨b, o, r, d, hsp, hr, hd, his, hlen, hsee⟩ := hs.at (by decide) hk2
      refine Sat.skip ?_
      refine at_n ?_
      refine Sat.seq ?_
      refine Sat.block ?_
      refine Sat.seq ?_
      -- region 3
      refine Sat.region ?_
      refine Tr.move rfl rfl rfl ?_
      refine Tr.assign rfl rfl rfl ?_
      refine Tr.nil ?_
      refine at_n ?_
      refine Sat.seq ?_
      -- region 4
      refine Sat.region ?_
      refine Tr.move rfl rfl rfl ?_
      refine Tr.move rfl rfl rfl ?_
      refine Tr.move rfl rfl rfl ?_
      refine Tr.idxSlP 132 rfl rfl rfl hsp rfl Tryz.underlying24 Sz81 k (by omega) (by omega) ?_
      refine Tr.loadEN r.cells rfl rfl rfl Tryz.underlying81 rfl Sz81 (by simp) hlen hsee ?_
      refine Tr.callCV rfl rfl rfl rfl rfl Body218 (all_vote_1 r d q) (fun w h => ⟨his.ext h rfl, h.keeps.cell (by simp) hq⟩) ?_
      refine Tr.nil ?_
      refine at_n ?_
      first
        | refine Sat.condP rfl (fun hc1 => ?_) (fun hc1 => ?_)
        | refine Sat.condNP rfl (fun hc1 => ?_) (fun hc1 => ?_)
        | refine Sat.cond rfl (fun hc1 => ?_) (fun hc1 => ?_)
      ·
        refine Sat.seq ?_
        -- region 5
        refine Sat.region ?_
        refine Tr.move rfl rfl rfl ?_
        refine Tr.assign rfl rfl rfl ?_
        refine Tr.nil ?_
        refine at_n ?_
        refine Sat.ret ?_
        refine bl_r ?_
        refine at_r ?_
        refine at_r ?_
        refine bl_r ?_
        refine at_r ?_
        refine en_r ?_
        refine ⟨_, [], res_tmp rfl rfl, (by simp), (by simp), ?_, rfl⟩
        first
          | exact congrArg i64 (fstBad_none (by intro j hj; exact hg j (by rw [hs.nd] at hj; exact hj))).symm
          | exact congrArg i64 (fstBad_at hg (by rw [List.getElem?_map, hd]; simpa using hc1)).symm
      ·
        refine Sat.skip ?_
        refine bl_n ?_
        refine at_n ?_
        -- region 6
        refine Sat.region ?_
        refine Tr.add_i64 rfl rfl rfl rfl (by omega) ?_
        refine Tr.move rfl rfl rfl ?_
        refine Tr.nil ?_
        refine at_n ?_
        exact ⟨k + 1, ⟨by omega, fun j hj => by rcases Nat.lt_succ_iff_lt_or_eq.1 hj with h | rfl; exact hg j h; rw [List.getElem?_map, hd]; simpa using hc1⟩, by omega, weak_of (wk1 rfl (wk1 rfl (wk1 rfl (wk1 rfl wk0)))) wh0 (by repeat (first | exact ns_nil | refine ns_keep rfl ?_ | refine ns_skip ?_))⟩
    ·
      obtain rfl : k = s.n := by omega
      refine Sat.exit ?_
      refine at_x ?_
      refine at_x ?_
      refine bl_h ?_
      refine at_n ?_
      refine Sat.seq ?_
      -- region 7
      refine Sat.region ?_
      refine Tr.assign rfl rfl rfl ?_
      refine Tr.nil ?_
      refine at_n ?_
      refine Sat.ret ?_
      refine en_r ?_
      refine ⟨_, [], res_tmp rfl rfl, (by simp), (by simp), ?_, rfl⟩
      first
        | exact congrArg i64 (fstBad_none (by intro j hj; exact hg j (by rw [hs.nd] at hj; exact hj))).symm
        | exact congrArg i64 (fstBad_at hg (by rw [List.getElem?_map, hd]; simpa using hc1)).symm

set_option maxRecDepth 100000 in
set_option maxHeartbeats 1000000 in
theorem contains_vote (s : Sl) (ds : List Vote) (q : Nat) : Meets Tryz.prog 189 [s.v, .func (.func 218) #[] #[ptr q 0]] [] (fun W => VotesAt W s ds ∧ W.cell? ⟨q, 0, none⟩ = some (.func (.func 90) #[] #[])) (fun v out => v = .bool (ds.any (fun d : Vote => !decide (vcheck d = 0))) ∧ out = []) := by
  intro W hW
  refine calls_of (hp0 := []) Tryz.func189 rfl 9 Tryz.ntmps189 rfl (HRep.nil _) ?_
  refine Sat.seq ?_
  -- region 0
  refine Sat.region ?_
  refine Tr.assign rfl rfl rfl ?_
  refine Tr.nil ?_
  refine at_n ?_
  refine Sat.seq ?_
  -- region 1
  refine Sat.region ?_
  refine Tr.move rfl rfl rfl ?_
  refine Tr.move rfl rfl rfl ?_
  refine Tr.callV rfl rfl rfl rfl Body240 (index_vote s ds q) (fun w h => ⟨Votes_ext h rfl hW.1, h.keeps.cell (by simp) hW.2⟩) ?_
  refine Tr.geq rfl rfl rfl rfl rfl ?_
  refine Tr.assign rfl rfl rfl ?_
  refine Tr.nil ?_
  refine at_n ?_
  refine Sat.ret ?_
  refine en_r ?_
  refine ⟨_, [], res_tmp rfl rfl, (by simp), (by simp), ?_, rfl⟩
  exact congrArg Value.bool (fstBad_ge _ _)

set_option maxRecDepth 100000 in
set_option maxHeartbeats 1000000 in
theorem all_vote (s : Sl) (ds : List Vote) : Meets Tryz.prog 132 [s.v, .func (.func 90) #[] #[]] [] (fun W => VotesAt W s ds) (fun v out => v = .bool (ds.all fun d => decide (vcheck d = 0)) ∧ out = []) := by
  intro W hW
  refine calls_of (hp0 := []) Tryz.func132 rfl 9 Tryz.ntmps132 rfl (HRep.nil _) ?_
  refine Sat.seq ?_
  -- region 0
  refine Sat.region ?_
  refine Tr.box1 rfl rfl rfl ?_
  intro n3 hn3 hf3
  refine Tr.assign rfl rfl rfl ?_
  refine Tr.nil ?_
  refine at_n ?_
  refine Sat.seq ?_
  -- region 1
  refine Sat.region ?_
  refine Tr.move rfl rfl rfl ?_
  refine Tr.makeFunc rfl rfl rfl rfl ?_
  refine Tr.callV rfl rfl rfl rfl Body189 (contains_vote s ds n3) (fun w h => ⟨Votes_ext h rfl hW, (own_blk h (by first | exact mem0 | exact mem1 | exact mem2 | exact mem3 | exact mem4 | exact mem5 | exact mem6 | exact mem7 | (repeat (first | exact List.mem_cons_self | refine List.mem_cons_of_mem _ ?_ | refine mem_seg ?_)))).cell (o := 0) rfl⟩) ?_
  refine Tr.not rfl rfl rfl ?_
  refine Tr.assign rfl rfl rfl ?_
  refine Tr.nil ?_
  refine at_n ?_
  refine Sat.ret ?_
  refine en_r ?_
  refine ⟨_, [], res_tmp rfl rfl, (by simp), (by simp), ?_, rfl⟩
  exact congrArg Value.bool (any_all _ _)

set_option maxRecDepth 100000 in
set_option maxHeartbeats 1000000 in
theorem all_cut_1 (x : Cut) (d : DCut) (q : Nat) : Meets Tryz.prog 219 [agg x.cells, ptr q 0] [] (fun W => CutIs W x d ∧ W.cell? ⟨q, 0, none⟩ = some (.func (.func 92) #[] #[])) (fun v out => v = .bool (!decide (d.check = 0)) ∧ out = []) := by
  intro W hW
  refine calls_of (hp0 := []) Tryz.func219 rfl 8 Tryz.ntmps219 rfl (HRep.nil _) ?_
  refine Sat.seq ?_
  -- region 0
  refine Sat.region ?_
  refine Tr.boxA rfl rfl ?_
  intro n2 hn2 hf2
  refine Tr.assign rfl rfl rfl ?_
  refine Tr.nil ?_
  refine at_n ?_
  refine Sat.seq ?_
  -- region 1
  refine Sat.region ?_
  refine Tr.loadE rfl rfl rfl Tryz.underlying133 rfl (by first | (simp; done) | (simp; exact hW.2.2) | (simp [Cx.with]; done) | (simp [Cx.with]; omega)) (hW.2) ?_
  refine Tr.loadAll rfl rfl rfl Tryz.underlying53 rfl Sz53 (by first | exact mem0 | exact mem1 | exact mem2 | exact mem3 | exact mem4 | exact mem5 | exact mem6 | exact mem7 | (repeat (first | exact List.mem_cons_self | refine List.mem_cons_of_mem _ ?_ | refine mem_seg ?_))) (Cut.length (by first | assumption | (simp; done) | exact Block.zero_ok | exact Vote.zero_ok | exact Reader.zero_ok | exact Cut.zero_ok | exact Cert.zero_ok | exact Msg.zero_ok | exact Inbox.zero_ok | exact Record.zero_ok | exact Kept.zero_ok  | exact hW.1.ok)) ?_
  refine Tr.callV rfl rfl rfl rfl Body92 (cut_check x d) (fun w h => hW.1.ext h rfl) ?_
  refine Tr.nei rfl rfl rfl rfl rfl ?_
  refine Tr.assign rfl rfl rfl ?_
  refine Tr.nil ?_
  refine at_n ?_
  refine Sat.ret ?_
  refine en_r ?_
  refine ⟨_, [], res_tmp rfl rfl, (by simp), (by simp), ?_, rfl⟩
  first
    | rfl
    | simp

set_option maxRecDepth 100000 in
set_option maxHeartbeats 1000000 in
theorem index_cut (s : Sl) (ds : List DCut) (q : Nat) : Meets Tryz.prog 241 [s.v, .func (.func 219) #[] #[ptr q 0]] [] (fun W => CutsAt W s ds ∧ W.cell? ⟨q, 0, none⟩ = some (.func (.func 92) #[] #[])) (fun v out => v = i64 (fstBad (fun d : DCut => !decide (d.check = 0)) ds) ∧ out = []) := by
  intro W hW
  obtain ⟨⟨rs, hs⟩, hq⟩ := hW
  have hmax := hs.max
  simp only [maxLen] at hmax
  have hcap := hs.cap
  refine calls_of (hp0 := []) Tryz.func241 rfl 19 Tryz.ntmps241 rfl (HRep.nil _) ?_
  refine Sat.seq ?_
  -- region 0
  refine Sat.region ?_
  refine Tr.assign rfl rfl rfl ?_
  refine Tr.nil ?_
  refine at_n ?_
  refine Sat.seq ?_
  refine Sat.seq ?_
  -- region 1
  refine Sat.region ?_
  refine Tr.move rfl rfl rfl ?_
  refine Tr.lenSl rfl rfl rfl Tryz.underlying25 ?_
  refine Tr.move rfl rfl rfl ?_
  refine Tr.nil ?_
  refine at_n ?_
  refine Sat.block ?_
  refine Sat.loop (ι := Nat) (fun k => ⟨[(0, s.v), (1, .func (.func 219) #[] #[ptr q 0]), (7, i64 (s.n : Int)), (8, i64 (k : Int))], []⟩) (fun k => k ≤ s.n ∧ ∀ j, j < k → (ds.map (fun d : DCut => !decide (d.check = 0)))[j]? = some false) (fun k => s.n - k) (0) ?_ ?_ ?_
  · exact ⟨by omega, fun j hj => by omega⟩
  · exact weak_of (wk1 rfl (wk1 rfl (wk1 rfl (wk1 rfl wk0)))) wh0 (by repeat (first | exact ns_nil | refine ns_keep rfl ?_ | refine ns_skip ?_))
  ·
    rintro k ⟨hk, hg⟩
    refine Sat.seq ?_
    -- region 2
    refine Sat.region ?_
    refine Tr.lss rfl rfl rfl rfl rfl ?_
    refine Tr.nil ?_
    refine at_n ?_
    refine Sat.seq ?_
    first
      | refine Sat.condP rfl (fun hc0 => ?_) (fun hc0 => ?_)
      | refine Sat.condNP rfl (fun hc0 => ?_) (fun hc0 => ?_)
      | refine Sat.cond rfl (fun hc0 => ?_) (fun hc0 => ?_)
    ·
      have hk2 : k < s.n := by omega
      obtain ⟨b, o, r, d, hsp, hr, hd, his, hlen, hsee⟩ := hs.at (by decide) hk2
      refine Sat.skip ?_
      refine at_n ?_
      refine Sat.seq ?_
      refine Sat.block ?_
      refine Sat.seq ?_
      -- region 3
      refine Sat.region ?_
      refine Tr.move rfl rfl rfl ?_
      refine Tr.assign rfl rfl rfl ?_
      refine Tr.nil ?_
      refine at_n ?_
      refine Sat.seq ?_
      -- region 4
      refine Sat.region ?_
      refine Tr.move rfl rfl rfl ?_
      refine Tr.move rfl rfl rfl ?_
      refine Tr.move rfl rfl rfl ?_
      refine Tr.idxSlP 34 rfl rfl rfl hsp rfl Tryz.underlying25 Sz53 k (by omega) (by omega) ?_
      refine Tr.loadEN r.cells rfl rfl rfl Tryz.underlying53 rfl Sz53 (by simp) hlen hsee ?_
      refine Tr.callCV rfl rfl rfl rfl rfl Body219 (all_cut_1 r d q) (fun w h => ⟨his.ext h rfl, h.keeps.cell (by simp) hq⟩) ?_
      refine Tr.nil ?_
      refine at_n ?_
      first
        | refine Sat.condP rfl (fun hc1 => ?_) (fun hc1 => ?_)
        | refine Sat.condNP rfl (fun hc1 => ?_) (fun hc1 => ?_)
        | refine Sat.cond rfl (fun hc1 => ?_) (fun hc1 => ?_)
      ·
        refine Sat.seq ?_
        -- region 5
        refine Sat.region ?_
        refine Tr.move rfl rfl rfl ?_
        refine Tr.assign rfl rfl rfl ?_
        refine Tr.nil ?_
        refine at_n ?_
        refine Sat.ret ?_
        refine bl_r ?_
        refine at_r ?_
        refine at_r ?_
        refine bl_r ?_
        refine at_r ?_
        refine en_r ?_
        refine ⟨_, [], res_tmp rfl rfl, (by simp), (by simp), ?_, rfl⟩
        first
          | exact congrArg i64 (fstBad_none (by intro j hj; exact hg j (by rw [hs.nd] at hj; exact hj))).symm
          | exact congrArg i64 (fstBad_at hg (by rw [List.getElem?_map, hd]; simpa using hc1)).symm
      ·
        refine Sat.skip ?_
        refine bl_n ?_
        refine at_n ?_
        -- region 6
        refine Sat.region ?_
        refine Tr.add_i64 rfl rfl rfl rfl (by omega) ?_
        refine Tr.move rfl rfl rfl ?_
        refine Tr.nil ?_
        refine at_n ?_
        exact ⟨k + 1, ⟨by omega, fun j hj => by rcases Nat.lt_succ_iff_lt_or_eq.1 hj with h | rfl; exact hg j h; rw [List.getElem?_map, hd]; simpa using hc1⟩, by omega, weak_of (wk1 rfl (wk1 rfl (wk1 rfl (wk1 rfl wk0)))) wh0 (by repeat (first | exact ns_nil | refine ns_keep rfl ?_ | refine ns_skip ?_))⟩
    ·
      obtain rfl : k = s.n := by omega
      refine Sat.exit ?_
      refine at_x ?_
      refine at_x ?_
      refine bl_h ?_
      refine at_n ?_
      refine Sat.seq ?_
      -- region 7
      refine Sat.region ?_
      refine Tr.assign rfl rfl rfl ?_
      refine Tr.nil ?_
      refine at_n ?_
      refine Sat.ret ?_
      refine en_r ?_
      refine ⟨_, [], res_tmp rfl rfl, (by simp), (by simp), ?_, rfl⟩
      first
        | exact congrArg i64 (fstBad_none (by intro j hj; exact hg j (by rw [hs.nd] at hj; exact hj))).symm
        | exact congrArg i64 (fstBad_at hg (by rw [List.getElem?_map, hd]; simpa using hc1)).symm

set_option maxRecDepth 100000 in
set_option maxHeartbeats 1000000 in
theorem contains_cut (s : Sl) (ds : List DCut) (q : Nat) : Meets Tryz.prog 191 [s.v, .func (.func 219) #[] #[ptr q 0]] [] (fun W => CutsAt W s ds ∧ W.cell? ⟨q, 0, none⟩ = some (.func (.func 92) #[] #[])) (fun v out => v = .bool (ds.any (fun d : DCut => !decide (d.check = 0))) ∧ out = []) := by
  intro W hW
  refine calls_of (hp0 := []) Tryz.func191 rfl 9 Tryz.ntmps191 rfl (HRep.nil _) ?_
  refine Sat.seq ?_
  -- region 0
  refine Sat.region ?_
  refine Tr.assign rfl rfl rfl ?_
  refine Tr.nil ?_
  refine at_n ?_
  refine Sat.seq ?_
  -- region 1
  refine Sat.region ?_
  refine Tr.move rfl rfl rfl ?_
  refine Tr.move rfl rfl rfl ?_
  refine Tr.callV rfl rfl rfl rfl Body241 (index_cut s ds q) (fun w h => ⟨Cuts_ext h rfl hW.1, h.keeps.cell (by simp) hW.2⟩) ?_
  refine Tr.geq rfl rfl rfl rfl rfl ?_
  refine Tr.assign rfl rfl rfl ?_
  refine Tr.nil ?_
  refine at_n ?_
  refine Sat.ret ?_
  refine en_r ?_
  refine ⟨_, [], res_tmp rfl rfl, (by simp), (by simp), ?_, rfl⟩
  exact congrArg Value.bool (fstBad_ge _ _)

set_option maxRecDepth 100000 in
set_option maxHeartbeats 1000000 in
theorem all_cut (s : Sl) (ds : List DCut) : Meets Tryz.prog 133 [s.v, .func (.func 92) #[] #[]] [] (fun W => CutsAt W s ds) (fun v out => v = .bool (ds.all fun d => decide (d.check = 0)) ∧ out = []) := by
  intro W hW
  refine calls_of (hp0 := []) Tryz.func133 rfl 9 Tryz.ntmps133 rfl (HRep.nil _) ?_
  refine Sat.seq ?_
  -- region 0
  refine Sat.region ?_
  refine Tr.box1 rfl rfl rfl ?_
  intro n3 hn3 hf3
  refine Tr.assign rfl rfl rfl ?_
  refine Tr.nil ?_
  refine at_n ?_
  refine Sat.seq ?_
  -- region 1
  refine Sat.region ?_
  refine Tr.move rfl rfl rfl ?_
  refine Tr.makeFunc rfl rfl rfl rfl ?_
  refine Tr.callV rfl rfl rfl rfl Body191 (contains_cut s ds n3) (fun w h => ⟨Cuts_ext h rfl hW, (own_blk h (by first | exact mem0 | exact mem1 | exact mem2 | exact mem3 | exact mem4 | exact mem5 | exact mem6 | exact mem7 | (repeat (first | exact List.mem_cons_self | refine List.mem_cons_of_mem _ ?_ | refine mem_seg ?_)))).cell (o := 0) rfl⟩) ?_
  refine Tr.not rfl rfl rfl ?_
  refine Tr.assign rfl rfl rfl ?_
  refine Tr.nil ?_
  refine at_n ?_
  refine Sat.ret ?_
  refine en_r ?_
  refine ⟨_, [], res_tmp rfl rfl, (by simp), (by simp), ?_, rfl⟩
  exact congrArg Value.bool (any_all _ _)

end Go.Proofs.YtejjamifnombhaaGreat
end

section
namespace Go.Proofs.YtejjamifnombhaaGreat
open Go Hw
set_option linter.unusedVariables false
set_option linter.unusedSimpArgs false


def DCut.body (D : DCut) (k : Nat) : List UInt8 := numB D.dHeight ++ D.dPrev ++ numB (UInt64.ofNat D.dHeads.length) ++ (D.dHeads.take k).flatten
def DCut.bytes (D : DCut) : List UInt8 := D.body D.dHeads.length
def cutR (D : DCut) : List UInt8 := if D.check = 0 then D.bytes else []
theorem DCut.small {D : DCut} (h : D.check = 0) : D.dHeads.length ≤ 32 := by
  unfold DCut.check at h
  by_cases h1 : cheadB D.dHeight D.dPrev D.dHeads.length = true
  · rw [if_pos h1] at h; cases h
  · unfold cheadB at h1
    simp at h1
    omega
theorem DCut.body_len {D : DCut} (hp : D.dPrev.length = 32) (hr : ∀ l ∈ D.dHeads, l.length = 32) {k : Nat} (hk : k ≤ D.dHeads.length) : (D.body k).length = szN D.dHeight.toNat + 32 + szN (UInt64.ofNat D.dHeads.length).toNat + k * 32 := by
  simp only [DCut.body, List.length_append, numB_length, hp, flatten_take_len hr hk]
theorem DCut.body_step {D : DCut} {k : Nat} (hk : k < D.dHeads.length) : D.body (k + 1) = D.body k ++ D.dHeads.getD k [] := by
  rw [DCut.body, flatten_take_step hk, ← List.append_assoc]; rfl
theorem cutb_start {C : Cut} {D : DCut} {W : World} {s : Sl} {bl : List Blk} {E : TypeId} (hW : CutIs W C D) (h : Acc s bl (bytesV ([] ++ numB C.fHeight) ++ bytesV C.fPrev ++ bytesV ([] ++ numB (UInt64.ofNat C.fHeads.n))) E (0 + szN C.fHeight.toNat + 32 + (0 + szN (UInt64.ofNat C.fHeads.n).toNat)) 1) : Acc s bl (bytesV (D.body 0)) E (szN D.dHeight.toNat + 32 + szN (UInt64.ofNat D.dHeads.length).toNat + 0 * 32) 1 := by
  have e : bytesV (D.body 0) = bytesV ([] ++ numB C.fHeight) ++ bytesV C.fPrev ++ bytesV ([] ++ numB (UInt64.ofNat C.fHeads.n)) := by simp [DCut.body, hW.fHeight, hW.fPrev, hW.fHeads.len, bytesV]
  rw [e, ← hW.fHeight, hW.fHeads.len, show szN C.fHeight.toNat + 32 + szN (UInt64.ofNat C.fHeads.n).toNat + 0 * 32 = 0 + szN C.fHeight.toNat + 32 + (0 + szN (UInt64.ofNat C.fHeads.n).toNat) by omega]
  exact h
theorem DCut.bytes_small {D : DCut} (h : D.check = 0) (hp : D.dPrev.length = 32) (hr : ∀ l ∈ D.dHeads, l.length = 32) : D.bytes.length ≤ 2000 := by
  have := D.small h
  have hz1 := szN_pos D.dHeight.toNat
  have hz2 := szN_pos (UInt64.ofNat D.dHeads.length).toNat
  rw [DCut.bytes, DCut.body_len hp hr (Nat.le_refl _)]
  omega


set_option maxRecDepth 100000 in
set_option maxHeartbeats 4000000 in
theorem cut_bytes (C : Cut) (D : DCut) : Meets Tryz.prog 122 [agg C.cells] [] (fun W => CutIs W C D) (fun v out => ∃ s, v = .tuple #[s.v, i64 D.check] ∧ Acc s out (bytesV (cutR D)) 5 (cutR D).length 1) := by
  intro W hW
  have hB := hW.ok
  have hll := hW.fHeads.len
  have hz1 := szN_pos C.fHeight.toNat
  have hz2 := szN_pos (UInt64.ofNat C.fHeads.n).toNat
  have hz3 := szN_pos D.dHeight.toNat
  have hz4 := szN_pos (UInt64.ofNat D.dHeads.length).toNat
  refine calls_of (hp0 := []) Tryz.func122 rfl 39 Tryz.ntmps122 rfl (HRep.nil _) ?_
  refine Sat.seq ?_
  -- region 0
  refine Sat.region ?_
  refine Tr.boxA rfl rfl ?_
  intro n1 hn1 hf1
  refine Tr.assign rfl rfl rfl ?_
  refine Tr.assign rfl rfl rfl ?_
  refine Tr.nil ?_
  refine at_n ?_
  refine Sat.seq ?_
  refine Sat.seq ?_
  -- region 1
  refine Sat.region ?_
  refine Tr.loadAll rfl rfl rfl Tryz.underlying53 rfl Sz53 (by first | exact mem0 | exact mem1 | exact mem2 | exact mem3 | exact mem4 | exact mem5 | exact mem6 | exact mem7 | (repeat (first | exact List.mem_cons_self | refine List.mem_cons_of_mem _ ?_ | refine mem_seg ?_))) (Cut.length (by first | assumption | (simp [hB.l_fPrev]; done) | exact Block.zero_ok | exact Vote.zero_ok | exact Reader.zero_ok | exact Cut.zero_ok | exact Cert.zero_ok | exact Msg.zero_ok | exact Inbox.zero_ok | exact Record.zero_ok | exact Kept.zero_ok  | exact hW.ok)) ?_
  refine Tr.callV rfl rfl rfl rfl Body92 (cut_check C D) (fun w h => hW.ext h rfl) ?_
  refine Tr.assign rfl rfl rfl ?_
  refine Tr.nil ?_
  refine at_n ?_
  refine Sat.seq ?_
  -- region 2
  refine Sat.region ?_
  refine Tr.move rfl rfl rfl ?_
  refine Tr.nei rfl rfl rfl rfl rfl ?_
  refine Tr.nil ?_
  refine at_n ?_
  first
    | refine Sat.condP rfl (fun hc0 => ?_) (fun hc0 => ?_)
    | refine Sat.condNP rfl (fun hc0 => ?_) (fun hc0 => ?_)
    | refine Sat.cond rfl (fun hc0 => ?_) (fun hc0 => ?_)
  ·
    refine Sat.seq ?_
    -- region 3
    refine Sat.region ?_
    refine Tr.move rfl rfl rfl ?_
    refine Tr.assign rfl rfl rfl ?_
    refine Tr.assign rfl rfl rfl ?_
    refine Tr.nil ?_
    refine at_n ?_
    refine Sat.ret ?_
    refine at_r ?_
    refine en_r ?_
    refine end_perm (out := []) (res_tmp2 rfl rfl rfl) pm_nil ?_
    exact ⟨Sl.nil, rfl, by rw [show cutR D = [] from if_neg hc0]; exact Acc.none⟩
  ·
    have hc : D.check = 0 := by omega
    have hsm := D.small hc
    refine Sat.skip ?_
    refine at_n ?_
    refine Sat.seq ?_
    -- region 4
    refine Sat.region ?_
    refine Tr.fld rfl rfl rfl Tryz.underlying53 rfl Sz48 (by decide) _ rfl ?_
    refine Tr.load1 rfl rfl rfl Tryz.underlying48 rfl (by first | exact mem0 | exact mem1 | exact mem2 | exact mem3 | exact mem4 | exact mem5 | exact mem6 | exact mem7 | (repeat (first | exact List.mem_cons_self | refine List.mem_cons_of_mem _ ?_ | refine mem_seg ?_))) (by first | exact Cut.get_fHeight (by first | assumption | (simp [hB.l_fPrev]; done) | exact Block.zero_ok | exact Vote.zero_ok | exact Reader.zero_ok | exact Cut.zero_ok | exact Cert.zero_ok | exact Msg.zero_ok | exact Inbox.zero_ok | exact Record.zero_ok | exact Kept.zero_ok  | exact hW.ok) | exact (by first | rfl | exact get_words (by first | omega | (simp [hB.l_fPrev]; done) | (simp [hB.l_fPrev]; omega)) | exact get_bytes (by first | omega | (simp [hB.l_fPrev]; done) | (simp [hB.l_fPrev]; omega)) | exact get_ints (by first | omega | (simp [hB.l_fPrev]; done) | (simp [hB.l_fPrev]; omega)))) ?_
    refine Tr.call4 rfl rfl rfl rfl rfl Body111 (oct_Number none 0 0 [] (C.fHeight) rfl (fun _ => rfl) (by omega)) (fun _ _ => SeesP.nil) ?_
    rintro v15 out15 ⟨q15, c15, rfl, hc15, rfl⟩
    refine Tr.assign rfl rfl rfl ?_
    refine Tr.nil ?_
    refine at_n ?_
    refine Sat.seq ?_
    -- region 5
    refine Sat.region ?_
    refine Tr.move rfl rfl rfl ?_
    refine Tr.fld rfl rfl rfl Tryz.underlying53 rfl Sz50 (by decide) _ rfl ?_
    refine Tr.sliceArr rfl rfl rfl Tryz.underlying50 Sz5 ?_
    refine Tr.appendAcc (z := u8 0) (by' := 1) (bytesV C.fPrev) rfl rfl rfl rfl rfl Tryz.underlying58 Tryz.underlying58 Sz5 Zr5 (by unfold By; kernel_rfl) rfl (Acc.some (cells := bytesV ([] ++ numB C.fHeight)) hc15 (by simp [numB_length])) (by repeat (first | exact sg_here | exact sg_end | apply sg_there | apply sg_seg)) (fun W2 W2h => SeesP.of (sees_part W2h (by first | exact mem0 | exact mem1 | exact mem2 | exact mem3 | exact mem4 | exact mem5 | exact mem6 | exact mem7 | (repeat (first | exact List.mem_cons_self | refine List.mem_cons_of_mem _ ?_ | refine mem_seg ?_))) (Cut.see_fPrev hB))) (fun e => by cases e) (bytesV_cell _) (by omega) (by omega) (by simp [hB.l_fPrev]) ?_
    intro s19 bl19 hac19
    refine Tr.assign rfl rfl rfl ?_
    refine Tr.nil ?_
    refine at_n ?_
    refine Sat.seq ?_
    -- region 6
    refine Sat.region ?_
    refine Tr.move rfl rfl rfl ?_
    refine Tr.fld rfl rfl rfl Tryz.underlying53 rfl Sz51 (by decide) _ rfl ?_
    refine Tr.load1 rfl rfl rfl Tryz.underlying51 rfl (by first | exact mem0 | exact mem1 | exact mem2 | exact mem3 | exact mem4 | exact mem5 | exact mem6 | exact mem7 | (repeat (first | exact List.mem_cons_self | refine List.mem_cons_of_mem _ ?_ | refine mem_seg ?_))) (by first | exact Cut.get_fHeads (by first | assumption | (simp [hB.l_fPrev]; done) | exact Block.zero_ok | exact Vote.zero_ok | exact Reader.zero_ok | exact Cut.zero_ok | exact Cert.zero_ok | exact Msg.zero_ok | exact Inbox.zero_ok | exact Record.zero_ok | exact Kept.zero_ok  | exact hW.ok) | exact (by first | rfl | exact get_words (by first | omega | (simp [hB.l_fPrev]; done) | (simp [hB.l_fPrev]; omega)) | exact get_bytes (by first | omega | (simp [hB.l_fPrev]; done) | (simp [hB.l_fPrev]; omega)) | exact get_ints (by first | omega | (simp [hB.l_fPrev]; done) | (simp [hB.l_fPrev]; omega)))) ?_
    refine Tr.lenSl rfl rfl rfl Tryz.underlying51 ?_
    refine Tr.conv rfl rfl rfl Tryz.underlying3 Tryz.underlying48 (cv_i64_u64 _) ?_
    rw [word_nat (n := C.fHeads.n) (by omega)]
    refine Tr.call4 rfl rfl rfl rfl rfl Body111 (oct_Number none 0 0 [] (UInt64.ofNat C.fHeads.n) rfl (fun _ => rfl) (by omega)) (fun _ _ => SeesP.nil) ?_
    rintro v25 out25 ⟨q25, c25, rfl, hc25, rfl⟩
    refine Tr.appendAcc (z := u8 0) (by' := 1) (bytesV ([] ++ numB (UInt64.ofNat C.fHeads.n))) rfl rfl rfl rfl rfl Tryz.underlying58 Tryz.underlying58 Sz5 Zr5 (by unfold By; kernel_rfl) rfl hac19 (by repeat (first | exact sg_here | exact sg_end | apply sg_there | apply sg_seg)) (fun w h => SeesP.of (sees_own h (by first | exact mem0 | exact mem1 | exact mem2 | exact mem3 | exact mem4 | exact mem5 | exact mem6 | exact mem7 | (repeat (first | exact List.mem_cons_self | refine List.mem_cons_of_mem _ ?_ | refine mem_seg ?_))))) (fun e => by cases e) (bytesV_cell _) (by omega) (by omega) (by simp [numB_length]) ?_
    intro s26 bl26 hac26
    refine Tr.assign rfl rfl rfl ?_
    refine Tr.nil ?_
    refine at_n ?_
    refine Sat.seq ?_
    refine Sat.seq ?_
    -- region 7
    refine Sat.region ?_
    refine Tr.fld rfl rfl rfl Tryz.underlying53 rfl Sz51 (by decide) _ rfl ?_
    refine Tr.load1 rfl rfl rfl Tryz.underlying51 rfl (by first | exact mem0 | exact mem1 | exact mem2 | exact mem3 | exact mem4 | exact mem5 | exact mem6 | exact mem7 | (repeat (first | exact List.mem_cons_self | refine List.mem_cons_of_mem _ ?_ | refine mem_seg ?_))) (by first | exact Cut.get_fHeads (by first | assumption | (simp [hB.l_fPrev]; done) | exact Block.zero_ok | exact Vote.zero_ok | exact Reader.zero_ok | exact Cut.zero_ok | exact Cert.zero_ok | exact Msg.zero_ok | exact Inbox.zero_ok | exact Record.zero_ok | exact Kept.zero_ok  | exact hW.ok) | exact (by first | rfl | exact get_words (by first | omega | (simp [hB.l_fPrev]; done) | (simp [hB.l_fPrev]; omega)) | exact get_bytes (by first | omega | (simp [hB.l_fPrev]; done) | (simp [hB.l_fPrev]; omega)) | exact get_ints (by first | omega | (simp [hB.l_fPrev]; done) | (simp [hB.l_fPrev]; omega)))) ?_
    refine Tr.lenSl rfl rfl rfl Tryz.underlying51 ?_
    refine Tr.move rfl rfl rfl ?_
    refine Tr.nil ?_
    refine at_n ?_
    refine Sat.block ?_
    refine Sat.loop (ι := Nat × Sl × List Blk) (fun p => ⟨[(1, ptr n1 0), (5, p.2.1.v), (28, C.fHeads.v), (29, i64 (C.fHeads.n : Int)), (30, i64 (p.1 : Int))], (p.2.2 ++ (⟨n1, C.cells, 53, C.cells.length⟩ :: []))⟩) (fun p => p.1 ≤ C.fHeads.n ∧ Acc p.2.1 p.2.2 (bytesV (D.body p.1)) 5 (szN D.dHeight.toNat + 32 + szN (UInt64.ofNat D.dHeads.length).toNat + p.1 * 32) 1) (fun p => C.fHeads.n - p.1) ((0, s26, bl26)) ?_ ?_ ?_
    · exact ⟨Nat.zero_le _, cutb_start hW hac26⟩
    · exact weak_perm (wk1 rfl (wk1 rfl (wk1 rfl (wk1 rfl (wk1 rfl wk0))))) (pm_seg (by repeat (first | exact sg_here | exact sg_end | apply sg_there | apply sg_seg)) (pm_cons (by repeat (first | exact rem_here | apply rem_there | apply rem_seg)) pm_nil))
    ·
      rintro p ⟨hp1, hap⟩
      refine Sat.seq ?_
      -- region 8
      refine Sat.region ?_
      refine Tr.lss rfl rfl rfl rfl rfl ?_
      refine Tr.nil ?_
      refine at_n ?_
      refine Sat.seq ?_
      first
        | refine Sat.condP rfl (fun hc1 => ?_) (fun hc1 => ?_)
        | refine Sat.condNP rfl (fun hc1 => ?_) (fun hc1 => ?_)
        | refine Sat.cond rfl (fun hc1 => ?_) (fun hc1 => ?_)
      ·
        have hk2 : p.1 < C.fHeads.n := by omega
        obtain ⟨b, o, hbp, hbs⟩ := hW.fHeads.see.at (by rw [flatB_length hW.fHeads.row]; omega)
        have hr0 : (D.dHeads.getD p.1 []).length = 32 := getD_len hW.fHeads.row (by omega)
        refine Sat.skip ?_
        refine at_n ?_
        refine Sat.seq ?_
        refine Sat.block ?_
        refine Sat.seq ?_
        -- region 9
        refine Sat.region ?_
        refine Tr.idxSlP 32 rfl rfl rfl hbp rfl Tryz.underlying51 Sz50 p.1 rfl (by omega) ?_
        refine Tr.loadEN (bytesV (D.dHeads.getD (p.1) [])) rfl rfl rfl Tryz.underlying50 rfl Sz50 (by simp) (by rw [bytesV, List.length_map]; exact getD_len hW.fHeads.row (by rw [hW.fHeads.len]; omega)) (sees_row hW.fHeads.row hbs (by rw [hW.fHeads.len]; omega)) ?_
        refine Tr.alloc (cs := (bytesV (List.replicate 32 0))) rfl Zr50 rfl ?_
        intro n7 hn7 hf7
        first
          | refine Tr.storeAll rfl rfl rfl rfl (by first | exact bytesV_cell _ | simp [isCell]) Sz50 (by first | assumption | (simp [hB.l_fPrev]; done) | (rw [bytesV, List.length_map]; assumption)) (by first | exact mem0 | exact mem1 | exact mem2 | exact mem3 | exact mem4 | exact mem5 | exact mem6 | exact mem7 | (repeat (first | exact List.mem_cons_self | refine List.mem_cons_of_mem _ ?_ | refine mem_seg ?_))) (by first | assumption | (simp [hB.l_fPrev]; done) | (rw [bytesV, List.length_map]; assumption)) (by first | exact upd0 | exact upd1 | exact upd2 | exact upd3 | exact upd4 | exact upd5 | exact upd6 | exact upd7 | (repeat (first | exact upd0 | apply Upd.tail | apply Upd.seg))) ?_
          | refine Tr.storeN _ rfl rfl rfl rfl rfl (by first | exact bytesV_cell _ | simp [isCell]) Sz50 (by first | assumption | (simp [hB.l_fPrev]; done) | (rw [bytesV, List.length_map]; assumption)) (by first | exact mem0 | exact mem1 | exact mem2 | exact mem3 | exact mem4 | exact mem5 | exact mem6 | exact mem7 | (repeat (first | exact List.mem_cons_self | refine List.mem_cons_of_mem _ ?_ | refine mem_seg ?_))) (by first | assumption | (simp [hB.l_fPrev]; done) | (rw [bytesV, List.length_map]; assumption)) (by exact rfl) (by first | exact upd0 | exact upd1 | exact upd2 | exact upd3 | exact upd4 | exact upd5 | exact upd6 | exact upd7 | (repeat (first | exact upd0 | apply Upd.tail | apply Upd.seg))) ?_
        refine Tr.nil ?_
        refine at_n ?_
        -- region 10
        refine Sat.region ?_
        refine Tr.move rfl rfl rfl ?_
        refine Tr.sliceArr rfl rfl rfl Tryz.underlying50 Sz5 ?_
        refine Tr.appendAcc (z := u8 0) (by' := 1) (bytesV (D.dHeads.getD p.1 [])) rfl rfl rfl rfl rfl Tryz.underlying58 Tryz.underlying58 Sz5 Zr5 (by unfold By; kernel_rfl) rfl hap (by repeat (first | exact sg_here | exact sg_end | apply sg_there | apply sg_seg)) (fun w h => SeesP.of (sees_own h (by first | exact mem0 | exact mem1 | exact mem2 | exact mem3 | exact mem4 | exact mem5 | exact mem6 | exact mem7 | (repeat (first | exact List.mem_cons_self | refine List.mem_cons_of_mem _ ?_ | refine mem_seg ?_))))) (fun e => by cases e) (bytesV_cell _) (by omega) (by omega) (by rw [bytesV, List.length_map, hr0]) ?_
        intro s36 bl36 hac36
        refine Tr.assign rfl rfl rfl ?_
        refine Tr.nil ?_
        refine bl_n ?_
        refine at_n ?_
        -- region 11
        refine Sat.region ?_
        refine Tr.add_i64 rfl rfl rfl rfl (by omega) ?_
        refine Tr.move rfl rfl rfl ?_
        refine Tr.nil ?_
        refine at_n ?_
        refine ⟨(p.1 + 1, s36, bl36), ⟨by simp only []; omega, ?_⟩, by simp only []; omega, weak_perm (wk1 rfl (wk1 rfl (wk1 rfl (wk1 rfl (wk1 rfl wk0))))) (pm_seg (by repeat (first | exact sg_here | exact sg_end | apply sg_there | apply sg_seg)) (pm_cons (by repeat (first | exact rem_here | apply rem_there | apply rem_seg)) pm_nil))⟩
        rw [show (szN D.dHeight.toNat + 32 + szN (UInt64.ofNat D.dHeads.length).toNat + (p.1 + 1) * 32) = (szN D.dHeight.toNat + 32 + szN (UInt64.ofNat D.dHeads.length).toNat + p.1 * 32) + 32 by omega, DCut.body_step (by omega), bytesV_app]
        exact hac36
      ·
        have hpe : p.1 = C.fHeads.n := by omega
        refine Sat.exit ?_
        refine at_x ?_
        refine at_x ?_
        refine bl_h ?_
        refine at_n ?_
        refine Sat.seq ?_
        -- region 12
        refine Sat.region ?_
        refine Tr.move rfl rfl rfl ?_
        refine Tr.assign rfl rfl rfl ?_
        refine Tr.assign rfl rfl rfl ?_
        refine Tr.nil ?_
        refine at_n ?_
        refine Sat.ret ?_
        refine en_r ?_
        refine end_perm (out := (p.2.2 ++ [])) (res_tmp2 rfl rfl rfl) (pm_seg (by repeat (first | exact sg_here | exact sg_end | apply sg_there | apply sg_seg)) pm_nil) ?_
        refine ⟨p.2.1, by rw [hc], ?_⟩
        rw [show cutR D = D.bytes from if_pos hc]
        rw [hpe, ← hll] at hap
        rw [show D.bytes.length = szN D.dHeight.toNat + 32 + szN (UInt64.ofNat D.dHeads.length).toNat + D.dHeads.length * 32 from DCut.body_len (hW.fPrev ▸ hB.l_fPrev) hW.fHeads.row (Nat.le_refl _), List.append_nil]
        exact hap


/-- the name of a cut -/
def cnameD (D : DCut) : List UInt8 := if D.check = 0 then sha256 D.bytes else List.replicate 32 0
theorem cnameD_length (D : DCut) : (cnameD D).length = 32 := by
  unfold cnameD
  split
  · exact sha256_length _
  · rfl


set_option maxRecDepth 100000 in
set_option maxHeartbeats 4000000 in
theorem cut_name (C : Cut) (D : DCut) : Meets Tryz.prog 127 [agg C.cells] [] (fun W => CutIs W C D) (fun v out => v = agg (bytesV (cnameD D)) ∧ out = []) := by
  intro W hW
  have hok := hW.ok
  obtain ⟨k, hk⟩ : ∃ k, Hid (kW = k) := ⟨_, ⟨rfl⟩⟩
  obtain ⟨s0, hs0⟩ : ∃ s0, Hid (xorUp 8 = s0) := ⟨_, ⟨rfl⟩⟩
  obtain ⟨G, hG⟩ : ∃ G, Hid (shaTag = G) := ⟨_, ⟨rfl⟩⟩
  obtain ⟨i0, hi0⟩ : ∃ i0, Hid (allW k s0 G = i0) := ⟨_, ⟨rfl⟩⟩
  have hk80 : k.length = 80 := by rw [← hk.out]; rfl
  have hs8 : s0.length = 8 := by rw [← hs0.out]; exact xorUp_length 8
  have hGl : G.length = 11 := by rw [← hG.out]; rfl
  have hi8 : i0.length = 8 := by rw [← hi0.out, allW_length]; exact hs8
  obtain ⟨r, hr⟩ : ∃ r, Hid (allW k i0 (D.bytes) = r) := ⟨_, ⟨rfl⟩⟩
  obtain ⟨s, hs⟩ : ∃ s, Hid (sumUp r 64 = s) := ⟨_, ⟨rfl⟩⟩
  have hsd : Hid (s.take 32 = sha256 (D.bytes)) := ⟨by rw [← hs.out, ← hr.out, ← hi0.out, ← hG.out, ← hs0.out, ← hk.out]; rfl⟩
  have hs64 : s.length = 64 := by rw [← hs.out]; exact sumUp_length r 64
  have hs32 : (s.take 32).length = 32 := by rw [List.length_take, hs64]; rfl
  refine calls_of (hp0 := []) Tryz.func127 rfl 16 Tryz.ntmps127 rfl (HRep.nil _) ?_
  refine Sat.seq ?_
  -- region 0
  refine Sat.region ?_
  refine Tr.boxA rfl rfl ?_
  intro n1 hn1 hf1
  refine Tr.alloc (cs := (bytesV (List.replicate 32 0))) rfl Zr50 rfl ?_
  intro n2 hn2 hf2
  refine Tr.nil ?_
  refine at_n ?_
  refine Sat.seq ?_
  -- region 1
  refine Sat.region ?_
  refine Tr.loadAll rfl rfl rfl Tryz.underlying53 rfl Sz53 (by first | exact mem0 | exact mem1 | exact mem2 | exact mem3 | exact mem4 | exact mem5 | exact mem6 | exact mem7 | (repeat (first | exact List.mem_cons_self | refine List.mem_cons_of_mem _ ?_ | refine mem_seg ?_))) (Cut.length (by first | assumption | (simp [hs32, hs64]; done) | exact Block.zero_ok | exact Vote.zero_ok | exact Reader.zero_ok | exact Cut.zero_ok | exact Cert.zero_ok | exact Msg.zero_ok | exact Inbox.zero_ok | exact Record.zero_ok | exact Kept.zero_ok  | exact hW.ok)) ?_
  refine Tr.call4 rfl rfl rfl rfl rfl Body122 (cut_bytes C D) (fun w h => hW.ext h rfl) ?_
  rintro v7 out7 ⟨s7, rfl, hac7⟩
  refine Tr.move rfl rfl rfl ?_
  refine Tr.extract rfl rfl rfl rfl ?_
  refine Tr.extract rfl rfl rfl rfl ?_
  refine Tr.assign rfl rfl rfl ?_
  refine Tr.assign rfl rfl rfl ?_
  refine Tr.nil ?_
  refine at_n ?_
  refine Sat.seq ?_
  refine Sat.seq ?_
  -- region 2
  refine Sat.region ?_
  refine Tr.move rfl rfl rfl ?_
  refine two (fun r hr k => Tr.nei rfl rfl rfl rfl hr k) (fun hs2_10 => ?_) (fun hs2_10 => ?_)
  ·
    first | have hs2_1 := of_decide_eq_true hs2_10 | have hs2_1 := of_decide_eq_false hs2_10 | have hs2_1 := nd_t hs2_10 | have hs2_1 := nd_f hs2_10 | have hs2_1 := hs2_10
    skip
    refine Tr.nil ?_
    refine at_n ?_
    refine Sat.cond_t rfl rfl ?_
    refine Sat.seq ?_
    -- region 3
    refine Sat.region ?_
    refine Tr.build (cs := bytesV (List.replicate 32 0)) rfl rfl rfl (fun w => by kernel_rfl) ?_
    first
      | refine Tr.storeAll rfl rfl rfl rfl (by first | exact bytesV_cell _ | simp [isCell]) Sz50 (by first | assumption | (simp [hs32, hs64]; done) | (rw [bytesV, List.length_map]; assumption)) (by first | exact mem0 | exact mem1 | exact mem2 | exact mem3 | exact mem4 | exact mem5 | exact mem6 | exact mem7 | (repeat (first | exact List.mem_cons_self | refine List.mem_cons_of_mem _ ?_ | refine mem_seg ?_))) (by first | assumption | (simp [hs32, hs64]; done) | (rw [bytesV, List.length_map]; assumption)) (by first | exact upd0 | exact upd1 | exact upd2 | exact upd3 | exact upd4 | exact upd5 | exact upd6 | exact upd7 | (repeat (first | exact upd0 | apply Upd.tail | apply Upd.seg))) ?_
      | refine Tr.storeN _ rfl rfl rfl rfl rfl (by first | exact bytesV_cell _ | simp [isCell]) Sz50 (by first | assumption | (simp [hs32, hs64]; done) | (rw [bytesV, List.length_map]; assumption)) (by first | exact mem0 | exact mem1 | exact mem2 | exact mem3 | exact mem4 | exact mem5 | exact mem6 | exact mem7 | (repeat (first | exact List.mem_cons_self | refine List.mem_cons_of_mem _ ?_ | refine mem_seg ?_))) (by first | assumption | (simp [hs32, hs64]; done) | (rw [bytesV, List.length_map]; assumption)) (by exact rfl) (by first | exact upd0 | exact upd1 | exact upd2 | exact upd3 | exact upd4 | exact upd5 | exact upd6 | exact upd7 | (repeat (first | exact upd0 | apply Upd.tail | apply Upd.seg))) ?_
    refine Tr.nil ?_
    refine at_n ?_
    refine Sat.ret ?_
    refine at_r ?_
    refine en_r ?_
    refine ⟨_, [], res_cell rfl rfl Tryz.underlying50 rfl Sz50 (by first | exact mem0 | exact mem1 | exact mem2 | exact mem3 | exact mem4 | exact mem5 | exact mem6 | exact mem7 | (repeat (first | exact List.mem_cons_self | refine List.mem_cons_of_mem _ ?_ | refine mem_seg ?_))) (by simp [hs32, hs64]), (by simp), (by simp), ?_, rfl⟩
    first
      | (rw [cnameD, if_neg hs2_1]; done)
      | (rw [cnameD, if_pos h0, hsd.out]; done)
  ·
    first | have hs2_1 := of_decide_eq_true hs2_10 | have hs2_1 := of_decide_eq_false hs2_10 | have hs2_1 := nd_t hs2_10 | have hs2_1 := nd_f hs2_10 | have hs2_1 := hs2_10
    have h0 : D.check = 0 := by omega
    have hb7 : cutR D = D.bytes := if_pos h0
    refine Tr.nil ?_
    refine at_n ?_
    refine Sat.cond_f rfl rfl ?_
    refine Sat.skip ?_
    refine at_n ?_
    refine Sat.seq ?_
    -- region 4
    refine Sat.region ?_
    refine Tr.move rfl rfl rfl ?_
    refine Tr.mkRow (z := .slice none 0 0) [s7.v] [s7.v] rfl rfl rfl Tryz.underlying91 Sz58 Zr58 rfl rfl (by intro v hv; rw [List.mem_singleton.1 hv]; rfl) (by decide) rfl ?_
    intro q14
    refine Tr.callV rfl rfl rfl rfl Body215 (sha_Sum k s0 i0 G hk hk80 hs0 hs8 hG hGl hi0 hi8 (some ⟨q14, 0, none⟩) 1 1 [s7] [D.bytes] rfl rfl (fun j hj => (by obtain rfl : j = 0 := (by omega); exact ⟨by simp [hac7.num, hb7], fun e => hac7.nil e⟩)) D.bytes (by simp) (by have := D.bytes_small h0 (hW.fPrev ▸ hW.ok.l_fPrev) hW.fHeads.row; omega) (by decide) r hr s hs) (fun w h => ⟨SeesP.of (sees_own h (by first | exact mem0 | exact mem1 | exact mem2 | exact mem3 | exact mem4 | exact mem5 | exact mem6 | exact mem7 | (repeat (first | exact List.mem_cons_self | refine List.mem_cons_of_mem _ ?_ | refine mem_seg ?_)))), fun j hj => (by obtain rfl : j = 0 := (by omega); exact (by have := hac7.see (Lies.of h (by repeat (first | exact in_here | exact in_all | refine in_there ?_ | refine in_seg ?_))); rw [hb7] at this; exact this))⟩) ?_
    first
      | refine Tr.storeAll rfl rfl rfl rfl (by first | exact bytesV_cell _ | simp [isCell]) Sz50 (by first | assumption | (simp [hs32, hs64]; done) | (rw [bytesV, List.length_map]; assumption)) (by first | exact mem0 | exact mem1 | exact mem2 | exact mem3 | exact mem4 | exact mem5 | exact mem6 | exact mem7 | (repeat (first | exact List.mem_cons_self | refine List.mem_cons_of_mem _ ?_ | refine mem_seg ?_))) (by first | assumption | (simp [hs32, hs64]; done) | (rw [bytesV, List.length_map]; assumption)) (by first | exact upd0 | exact upd1 | exact upd2 | exact upd3 | exact upd4 | exact upd5 | exact upd6 | exact upd7 | (repeat (first | exact upd0 | apply Upd.tail | apply Upd.seg))) ?_
      | refine Tr.storeN _ rfl rfl rfl rfl rfl (by first | exact bytesV_cell _ | simp [isCell]) Sz50 (by first | assumption | (simp [hs32, hs64]; done) | (rw [bytesV, List.length_map]; assumption)) (by first | exact mem0 | exact mem1 | exact mem2 | exact mem3 | exact mem4 | exact mem5 | exact mem6 | exact mem7 | (repeat (first | exact List.mem_cons_self | refine List.mem_cons_of_mem _ ?_ | refine mem_seg ?_))) (by first | assumption | (simp [hs32, hs64]; done) | (rw [bytesV, List.length_map]; assumption)) (by exact rfl) (by first | exact upd0 | exact upd1 | exact upd2 | exact upd3 | exact upd4 | exact upd5 | exact upd6 | exact upd7 | (repeat (first | exact upd0 | apply Upd.tail | apply Upd.seg))) ?_
    refine Tr.nil ?_
    refine at_n ?_
    refine Sat.ret ?_
    refine en_r ?_
    refine ⟨_, [], res_cell rfl rfl Tryz.underlying50 rfl Sz50 (by first | exact mem0 | exact mem1 | exact mem2 | exact mem3 | exact mem4 | exact mem5 | exact mem6 | exact mem7 | (repeat (first | exact List.mem_cons_self | refine List.mem_cons_of_mem _ ?_ | refine mem_seg ?_))) (by simp [hs32, hs64]), (by simp), (by simp), ?_, rfl⟩
    first
      | (rw [cnameD, if_neg hs2_1]; done)
      | (rw [cnameD, if_pos h0, hsd.out]; done)

end Go.Proofs.YtejjamifnombhaaGreat
end

section
namespace Go.Proofs.YtejjamifnombhaaGreat
open Go Hw
set_option linter.unusedVariables false
set_option linter.unusedSimpArgs false


def DCert.vote (D : DCert) (k : Nat) : Vote := D.dVotes.getD k Vote.zero
def DCert.head (D : DCert) : Bool := (!decide (D.dCut.check = 0)) || (decide ((D.dVotes.length : Int) < 1) || decide ((16 : Int) < (D.dVotes.length : Int)))
/-- what is wrong with one of the votes -/
def DCert.bad (D : DCert) (k : Nat) : Prop := ¬ vcheck (D.vote k) = 0 ∨ ¬ (D.vote k).fPhase = 3 ∨ ¬ ((D.vote k).fHeight.toNat : Int) = (D.dCut.dHeight.toNat : Int) ∨ ¬ (D.vote k).fValue = cnameD D.dCut ∨ ¬ ((D.vote k).fRound.toNat : Int) = ((D.vote 0).fRound.toNat : Int) ∨ (0 < k ∧ (0 : Int) ≤ cmpB (D.vote (k - 1)).fVoter (D.vote k).fVoter)
open Classical in
noncomputable def DCert.check (D : DCert) : Int := if D.head = true ∨ ∃ k, k < D.dVotes.length ∧ D.bad k then 2 else 0
theorem cert_bad1 {D : DCert} (h : D.head = true) : D.check = 2 := if_pos (.inl h)
theorem cert_bad2 {D : DCert} {k : Nat} (h : k < D.dVotes.length) (hb : D.bad k) : D.check = 2 := if_pos (.inr ⟨k, h, hb⟩)
theorem cert_good {D : DCert} (h : ¬ D.head = true) (hb : ∀ j, j < D.dVotes.length → ¬ D.bad j) : D.check = 0 := if_neg fun e => e.elim h fun ⟨j, h1, h2⟩ => hb j h1 h2
theorem sees_sub {w : World} {b o off : Nat} {cs l : List Value} (hs : Sees w b o cs) (h : ∀ (j : Nat) (v : Value), l[j]? = some v → cs[off + j]? = some v) : Sees w b (o + off) l := fun j v hj => by
  have := hs _ v (h j v hj)
  rwa [← Nat.add_assoc] at this
theorem vote_is {D : DCert} {k : Nat} {V : Vote} (h : D.dVotes[k]? = some V) : D.vote k = V := by simp [DCert.vote, List.getD_eq_getElem?_getD, h]


set_option maxRecDepth 100000 in
set_option maxHeartbeats 4000000 in
theorem cert_check (C : Cert) (D : DCert) : Meets Tryz.prog 34 [agg C.cells] [] (fun W => CertIs W C D) (fun v out => v = i64 D.check ∧ out = []) := by
  intro W hW
  obtain ⟨rs, hV⟩ := hW.fVotes
  have hok := hW.ok
  have hmax := hV.max
  simp only [maxLen] at hmax
  have hcap := hV.cap
  have hnd := hV.nd
  have ehh := hW.fCut.fHeight
  refine calls_of (hp0 := []) Tryz.func34 rfl 79 Tryz.ntmps34 rfl (HRep.nil _) ?_
  refine Sat.seq ?_
  -- region 0
  refine Sat.region ?_
  refine Tr.boxA rfl rfl ?_
  intro n1 hn1 hf1
  refine Tr.assign rfl rfl rfl ?_
  refine Tr.nil ?_
  refine at_n ?_
  refine Sat.seq ?_
  refine Sat.seq ?_
  -- region 1
  refine Sat.region ?_
  refine Tr.fld rfl rfl rfl Tryz.underlying55 rfl Sz53 (by decide) _ rfl ?_
  refine Tr.loadN (Cut.cells _) rfl rfl rfl Tryz.underlying53 rfl Sz53 (by first | exact mem0 | exact mem1 | exact mem2 | exact mem3 | exact mem4 | exact mem5 | exact mem6 | exact mem7 | (repeat (first | exact List.mem_cons_self | refine List.mem_cons_of_mem _ ?_ | refine mem_seg ?_))) (Cert.row_fCut (by first | assumption | (simp [cnameD_length, hW.fCut.ok.l_fPrev]; done) | exact Block.zero_ok | exact Vote.zero_ok | exact Reader.zero_ok | exact Cut.zero_ok | exact Cert.zero_ok | exact Msg.zero_ok | exact Inbox.zero_ok | exact Record.zero_ok | exact Kept.zero_ok  | exact hok | exact hVk | exact hok.o_fCut)) (Cert.rl_fCut (by first | assumption | (simp [cnameD_length, hW.fCut.ok.l_fPrev]; done) | exact Block.zero_ok | exact Vote.zero_ok | exact Reader.zero_ok | exact Cut.zero_ok | exact Cert.zero_ok | exact Msg.zero_ok | exact Inbox.zero_ok | exact Record.zero_ok | exact Kept.zero_ok  | exact hok | exact hVk | exact hok.o_fCut)) ?_
  refine Tr.callV rfl rfl rfl rfl Body92 (cut_check C.fCut D.dCut) (fun w h => hW.fCut.ext h rfl) ?_
  refine two (fun r hr k => Tr.nei rfl rfl rfl rfl hr k) (fun hs1_30 => ?_) (fun hs1_30 => ?_)
  ·
    first | have hs1_3 := of_decide_eq_true hs1_30 | have hs1_3 := of_decide_eq_false hs1_30 | have hs1_3 := nd_t hs1_30 | have hs1_3 := nd_f hs1_30 | have hs1_3 := hs1_30
    refine Tr.move rfl rfl rfl ?_
    refine Tr.skp rfl rfl ?_
    refine Tr.skp rfl rfl ?_
    refine Tr.skp rfl rfl ?_
    refine Tr.skp rfl rfl ?_
    refine Tr.pick rfl rfl rfl rfl rfl rfl ?_
    refine Tr.move rfl rfl rfl ?_
    refine Tr.skp rfl rfl ?_
    refine Tr.skp rfl rfl ?_
    refine Tr.skp rfl rfl ?_
    refine Tr.skp rfl rfl ?_
    refine Tr.pick rfl rfl rfl rfl rfl rfl ?_
    refine Tr.nil ?_
    refine at_n ?_
    refine Sat.cond_t rfl rfl ?_
    refine Sat.seq ?_
    -- region 2
    refine Sat.region ?_
    refine Tr.assign rfl rfl rfl ?_
    refine Tr.nil ?_
    refine at_n ?_
    refine Sat.ret ?_
    refine at_r ?_
    refine en_r ?_
    refine ⟨_, [], res_tmp rfl rfl, (by simp), (by simp), ?_, rfl⟩
    first
      | exact congrArg i64 (cert_bad1 (by simp only [DCert.head, hnd, Bool.or_eq_true, Bool.not_eq_true', decide_eq_true_eq, decide_eq_false_iff_not]; omega)).symm
      | exact congrArg i64 (cert_bad2 (k := k) (by omega) (by
          simp only [DCert.bad, hvk, hv0, ← ehh]
          first
            | exact .inl ‹_›
            | exact .inr (.inl ‹_›)
            | exact .inr (.inr (.inl ‹_›))
            | exact .inr (.inr (.inr (.inl ‹_›)))
            | exact .inr (.inr (.inr (.inr (.inl ‹_›))))
            | (rw [vote_is hdp]; exact .inr (.inr (.inr (.inr (.inr ⟨by omega, by omega⟩))))))).symm
      | exact congrArg i64 (cert_good hnb (by rw [hnd]; exact hg)).symm
  ·
    first | have hs1_3 := of_decide_eq_true hs1_30 | have hs1_3 := of_decide_eq_false hs1_30 | have hs1_3 := nd_t hs1_30 | have hs1_3 := nd_f hs1_30 | have hs1_3 := hs1_30
    refine Tr.move rfl rfl rfl ?_
    refine Tr.fld rfl rfl rfl Tryz.underlying55 rfl Sz24 (by decide) _ rfl ?_
    refine Tr.load1 rfl rfl rfl Tryz.underlying24 rfl (by first | exact mem0 | exact mem1 | exact mem2 | exact mem3 | exact mem4 | exact mem5 | exact mem6 | exact mem7 | (repeat (first | exact List.mem_cons_self | refine List.mem_cons_of_mem _ ?_ | refine mem_seg ?_))) (by first | exact Cert.get_fVotes (by first | assumption | (simp [cnameD_length, hW.fCut.ok.l_fPrev]; done) | exact Block.zero_ok | exact Vote.zero_ok | exact Reader.zero_ok | exact Cut.zero_ok | exact Cert.zero_ok | exact Msg.zero_ok | exact Inbox.zero_ok | exact Record.zero_ok | exact Kept.zero_ok  | exact hok | exact hVk | exact hok.o_fCut) | exact (by first | rfl | exact get_words (by first | omega | (simp [cnameD_length, hW.fCut.ok.l_fPrev]; done) | (simp [cnameD_length, hW.fCut.ok.l_fPrev]; omega)) | exact get_bytes (by first | omega | (simp [cnameD_length, hW.fCut.ok.l_fPrev]; done) | (simp [cnameD_length, hW.fCut.ok.l_fPrev]; omega)) | exact get_ints (by first | omega | (simp [cnameD_length, hW.fCut.ok.l_fPrev]; done) | (simp [cnameD_length, hW.fCut.ok.l_fPrev]; omega)))) ?_
    refine Tr.lenSl rfl rfl rfl Tryz.underlying24 ?_
    refine two (fun r hr k => Tr.lss rfl rfl rfl rfl hr k) (fun hs1_80 => ?_) (fun hs1_80 => ?_)
    ·
      first | have hs1_8 := of_decide_eq_true hs1_80 | have hs1_8 := of_decide_eq_false hs1_80 | have hs1_8 := nd_t hs1_80 | have hs1_8 := nd_f hs1_80 | have hs1_8 := hs1_80
      refine Tr.pick rfl rfl rfl rfl rfl rfl ?_
      refine Tr.move rfl rfl rfl ?_
      refine Tr.skp rfl rfl ?_
      refine Tr.skp rfl rfl ?_
      refine Tr.skp rfl rfl ?_
      refine Tr.skp rfl rfl ?_
      refine Tr.pick rfl rfl rfl rfl rfl rfl ?_
      refine Tr.nil ?_
      refine at_n ?_
      refine Sat.cond_t rfl rfl ?_
      refine Sat.seq ?_
      -- region 2
      refine Sat.region ?_
      refine Tr.assign rfl rfl rfl ?_
      refine Tr.nil ?_
      refine at_n ?_
      refine Sat.ret ?_
      refine at_r ?_
      refine en_r ?_
      refine ⟨_, [], res_tmp rfl rfl, (by simp), (by simp), ?_, rfl⟩
      first
        | exact congrArg i64 (cert_bad1 (by simp only [DCert.head, hnd, Bool.or_eq_true, Bool.not_eq_true', decide_eq_true_eq, decide_eq_false_iff_not]; omega)).symm
        | exact congrArg i64 (cert_bad2 (k := k) (by omega) (by
            simp only [DCert.bad, hvk, hv0, ← ehh]
            first
              | exact .inl ‹_›
              | exact .inr (.inl ‹_›)
              | exact .inr (.inr (.inl ‹_›))
              | exact .inr (.inr (.inr (.inl ‹_›)))
              | exact .inr (.inr (.inr (.inr (.inl ‹_›))))
              | (rw [vote_is hdp]; exact .inr (.inr (.inr (.inr (.inr ⟨by omega, by omega⟩))))))).symm
        | exact congrArg i64 (cert_good hnb (by rw [hnd]; exact hg)).symm
    ·
      first | have hs1_8 := of_decide_eq_true hs1_80 | have hs1_8 := of_decide_eq_false hs1_80 | have hs1_8 := nd_t hs1_80 | have hs1_8 := nd_f hs1_80 | have hs1_8 := hs1_80
      refine Tr.pick rfl rfl rfl rfl rfl rfl ?_
      refine Tr.move rfl rfl rfl ?_
      refine Tr.fld rfl rfl rfl Tryz.underlying55 rfl Sz24 (by decide) _ rfl ?_
      refine Tr.load1 rfl rfl rfl Tryz.underlying24 rfl (by first | exact mem0 | exact mem1 | exact mem2 | exact mem3 | exact mem4 | exact mem5 | exact mem6 | exact mem7 | (repeat (first | exact List.mem_cons_self | refine List.mem_cons_of_mem _ ?_ | refine mem_seg ?_))) (by first | exact Cert.get_fVotes (by first | assumption | (simp [cnameD_length, hW.fCut.ok.l_fPrev]; done) | exact Block.zero_ok | exact Vote.zero_ok | exact Reader.zero_ok | exact Cut.zero_ok | exact Cert.zero_ok | exact Msg.zero_ok | exact Inbox.zero_ok | exact Record.zero_ok | exact Kept.zero_ok  | exact hok | exact hVk | exact hok.o_fCut) | exact (by first | rfl | exact get_words (by first | omega | (simp [cnameD_length, hW.fCut.ok.l_fPrev]; done) | (simp [cnameD_length, hW.fCut.ok.l_fPrev]; omega)) | exact get_bytes (by first | omega | (simp [cnameD_length, hW.fCut.ok.l_fPrev]; done) | (simp [cnameD_length, hW.fCut.ok.l_fPrev]; omega)) | exact get_ints (by first | omega | (simp [cnameD_length, hW.fCut.ok.l_fPrev]; done) | (simp [cnameD_length, hW.fCut.ok.l_fPrev]; omega)))) ?_
      refine Tr.lenSl rfl rfl rfl Tryz.underlying24 ?_
      refine Tr.gtr rfl rfl rfl rfl rfl ?_
      refine Tr.pick rfl rfl rfl rfl rfl rfl ?_
      refine Tr.nil ?_
      refine at_n ?_
      first
        | refine Sat.condP rfl (fun hc0 => ?_) (fun hc0 => ?_)
        | refine Sat.condNP rfl (fun hc0 => ?_) (fun hc0 => ?_)
        | refine Sat.cond rfl (fun hc0 => ?_) (fun hc0 => ?_)
      ·
        refine Sat.seq ?_
        -- region 2
        refine Sat.region ?_
        refine Tr.assign rfl rfl rfl ?_
        refine Tr.nil ?_
        refine at_n ?_
        refine Sat.ret ?_
        refine at_r ?_
        refine en_r ?_
        refine ⟨_, [], res_tmp rfl rfl, (by simp), (by simp), ?_, rfl⟩
        first
          | exact congrArg i64 (cert_bad1 (by simp only [DCert.head, hnd, Bool.or_eq_true, Bool.not_eq_true', decide_eq_true_eq, decide_eq_false_iff_not]; omega)).symm
          | exact congrArg i64 (cert_bad2 (k := k) (by omega) (by
              simp only [DCert.bad, hvk, hv0, ← ehh]
              first
                | exact .inl ‹_›
                | exact .inr (.inl ‹_›)
                | exact .inr (.inr (.inl ‹_›))
                | exact .inr (.inr (.inr (.inl ‹_›)))
                | exact .inr (.inr (.inr (.inr (.inl ‹_›))))
                | (rw [vote_is hdp]; exact .inr (.inr (.inr (.inr (.inr ⟨by omega, by omega⟩))))))).symm
          | exact congrArg i64 (cert_good hnb (by rw [hnd]; exact hg)).symm
      ·
        have hnb : ¬ D.head = true := by simp only [DCert.head, hnd, Bool.or_eq_true, Bool.not_eq_true', decide_eq_true_eq, decide_eq_false_iff_not]; omega
        refine Sat.skip ?_
        refine at_n ?_
        refine Sat.seq ?_
        -- region 3
        refine Sat.region ?_
        refine Tr.fld rfl rfl rfl Tryz.underlying55 rfl Sz53 (by decide) _ rfl ?_
        refine Tr.loadN (Cut.cells _) rfl rfl rfl Tryz.underlying53 rfl Sz53 (by first | exact mem0 | exact mem1 | exact mem2 | exact mem3 | exact mem4 | exact mem5 | exact mem6 | exact mem7 | (repeat (first | exact List.mem_cons_self | refine List.mem_cons_of_mem _ ?_ | refine mem_seg ?_))) (Cert.row_fCut (by first | assumption | (simp [cnameD_length, hW.fCut.ok.l_fPrev]; done) | exact Block.zero_ok | exact Vote.zero_ok | exact Reader.zero_ok | exact Cut.zero_ok | exact Cert.zero_ok | exact Msg.zero_ok | exact Inbox.zero_ok | exact Record.zero_ok | exact Kept.zero_ok  | exact hok | exact hVk | exact hok.o_fCut)) (Cert.rl_fCut (by first | assumption | (simp [cnameD_length, hW.fCut.ok.l_fPrev]; done) | exact Block.zero_ok | exact Vote.zero_ok | exact Reader.zero_ok | exact Cut.zero_ok | exact Cert.zero_ok | exact Msg.zero_ok | exact Inbox.zero_ok | exact Record.zero_ok | exact Kept.zero_ok  | exact hok | exact hVk | exact hok.o_fCut)) ?_
        refine Tr.callV rfl rfl rfl rfl Body127 (cut_name C.fCut D.dCut) (fun w h => hW.fCut.ext h rfl) ?_
        refine Tr.alloc (cs := (bytesV (List.replicate 32 0))) rfl Zr50 rfl ?_
        intro n3 hn3 hf3
        first
          | refine Tr.storeAll rfl rfl rfl rfl (by first | exact bytesV_cell _ | simp [isCell]) Sz50 (by first | assumption | (simp [cnameD_length, hW.fCut.ok.l_fPrev]; done) | (rw [bytesV, List.length_map]; assumption)) (by first | exact mem0 | exact mem1 | exact mem2 | exact mem3 | exact mem4 | exact mem5 | exact mem6 | exact mem7 | (repeat (first | exact List.mem_cons_self | refine List.mem_cons_of_mem _ ?_ | refine mem_seg ?_))) (by first | assumption | (simp [cnameD_length, hW.fCut.ok.l_fPrev]; done) | (rw [bytesV, List.length_map]; assumption)) (by first | exact upd0 | exact upd1 | exact upd2 | exact upd3 | exact upd4 | exact upd5 | exact upd6 | exact upd7 | (repeat (first | exact upd0 | apply Upd.tail | apply Upd.seg))) ?_
          | refine Tr.storeN _ rfl rfl rfl rfl rfl (by first | exact bytesV_cell _ | simp [isCell]) Sz50 (by first | assumption | (simp [cnameD_length, hW.fCut.ok.l_fPrev]; done) | (rw [bytesV, List.length_map]; assumption)) (by first | exact mem0 | exact mem1 | exact mem2 | exact mem3 | exact mem4 | exact mem5 | exact mem6 | exact mem7 | (repeat (first | exact List.mem_cons_self | refine List.mem_cons_of_mem _ ?_ | refine mem_seg ?_))) (by first | assumption | (simp [cnameD_length, hW.fCut.ok.l_fPrev]; done) | (rw [bytesV, List.length_map]; assumption)) (by exact rfl) (by first | exact upd0 | exact upd1 | exact upd2 | exact upd3 | exact upd4 | exact upd5 | exact upd6 | exact upd7 | (repeat (first | exact upd0 | apply Upd.tail | apply Upd.seg))) ?_
        refine Tr.nil ?_
        refine at_n ?_
        refine Sat.seq ?_
        refine Sat.seq ?_
        -- region 4
        refine Sat.region ?_
        refine Tr.fld rfl rfl rfl Tryz.underlying55 rfl Sz24 (by decide) _ rfl ?_
        refine Tr.load1 rfl rfl rfl Tryz.underlying24 rfl (by first | exact mem0 | exact mem1 | exact mem2 | exact mem3 | exact mem4 | exact mem5 | exact mem6 | exact mem7 | (repeat (first | exact List.mem_cons_self | refine List.mem_cons_of_mem _ ?_ | refine mem_seg ?_))) (by first | exact Cert.get_fVotes (by first | assumption | (simp [cnameD_length, hW.fCut.ok.l_fPrev]; done) | exact Block.zero_ok | exact Vote.zero_ok | exact Reader.zero_ok | exact Cut.zero_ok | exact Cert.zero_ok | exact Msg.zero_ok | exact Inbox.zero_ok | exact Record.zero_ok | exact Kept.zero_ok  | exact hok | exact hVk | exact hok.o_fCut) | exact (by first | rfl | exact get_words (by first | omega | (simp [cnameD_length, hW.fCut.ok.l_fPrev]; done) | (simp [cnameD_length, hW.fCut.ok.l_fPrev]; omega)) | exact get_bytes (by first | omega | (simp [cnameD_length, hW.fCut.ok.l_fPrev]; done) | (simp [cnameD_length, hW.fCut.ok.l_fPrev]; omega)) | exact get_ints (by first | omega | (simp [cnameD_length, hW.fCut.ok.l_fPrev]; done) | (simp [cnameD_length, hW.fCut.ok.l_fPrev]; omega)))) ?_
        refine Tr.lenSl rfl rfl rfl Tryz.underlying24 ?_
        refine Tr.move rfl rfl rfl ?_
        refine Tr.nil ?_
        refine at_n ?_
        refine Sat.block ?_
        refine Sat.loop (ι := Nat) (fun k => ⟨[(1, ptr n1 0), (3, ptr n3 0), (26, C.fVotes.v), (27, i64 (C.fVotes.n : Int)), (28, i64 (k : Int))], [⟨n3, bytesV (cnameD D.dCut), 50, 32⟩, ⟨n1, C.cells, 55, C.cells.length⟩]⟩) (fun k => k ≤ C.fVotes.n ∧ ∀ j, j < k → ¬ D.bad j) (fun k => C.fVotes.n - k) (0) ?_ ?_ ?_
        · exact ⟨by omega, fun j hj => by omega⟩
        · exact weak_of (wk1 rfl (wk1 rfl (wk1 rfl (wk1 rfl (wk1 rfl wk0))))) (wh1 (by first | exact mem0 | exact mem1 | exact mem2 | exact mem3 | exact mem4 | exact mem5 | exact mem6 | exact mem7 | (repeat (first | exact List.mem_cons_self | refine List.mem_cons_of_mem _ ?_ | refine mem_seg ?_))) (wh1 (by first | exact mem0 | exact mem1 | exact mem2 | exact mem3 | exact mem4 | exact mem5 | exact mem6 | exact mem7 | (repeat (first | exact List.mem_cons_self | refine List.mem_cons_of_mem _ ?_ | refine mem_seg ?_))) wh0)) (by repeat (first | exact ns_nil | refine ns_keep rfl ?_ | refine ns_skip ?_))
        ·
          rintro k ⟨hk, hg⟩
          refine Sat.seq ?_
          -- region 5
          refine Sat.region ?_
          refine Tr.lss rfl rfl rfl rfl rfl ?_
          refine Tr.nil ?_
          refine at_n ?_
          refine Sat.seq ?_
          first
            | refine Sat.condP rfl (fun hc1 => ?_) (fun hc1 => ?_)
            | refine Sat.condNP rfl (fun hc1 => ?_) (fun hc1 => ?_)
            | refine Sat.cond rfl (fun hc1 => ?_) (fun hc1 => ?_)
          ·
            have hk2 : k < C.fVotes.n := by omega
            obtain ⟨b, o, Vk, d, hsp, hr, hd, his, hlen, hsee⟩ := hV.at (by decide) hk2
            obtain rfl := his.eq
            have hVk := his.ok
            have hlv := hVk.l_fValue
            obtain ⟨b0, o0, V0, d0, hsp0, hr0, hd0, his0, hlen0, hsee0⟩ := hV.at (by decide) (show 0 < C.fVotes.n by omega)
            obtain rfl := his0.eq
            have hV0 := his0.ok
            have hvk := vote_is hd
            have hv0 := vote_is hd0
            refine Sat.skip ?_
            refine at_n ?_
            refine Sat.seq ?_
            refine Sat.block ?_
            refine Sat.seq ?_
            -- region 6
            refine Sat.region ?_
            refine Tr.move rfl rfl rfl ?_
            refine Tr.idxSlP 132 rfl rfl rfl hsp rfl Tryz.underlying24 Sz81 (k) (by omega) (by omega) ?_
            refine Tr.loadEN Vk.cells rfl rfl rfl Tryz.underlying81 rfl Sz81 (by simp) hlen hsee ?_
            refine Tr.alloc (cs := Vote.zero.cells) rfl Vote.zr rfl ?_
            intro n5 hn5 hf5
            refine Tr.assign rfl rfl rfl ?_
            refine Tr.storeAll rfl rfl rfl rfl (Vote.isCell (by first | assumption | (simp [cnameD_length, hW.fCut.ok.l_fPrev]; done) | exact Block.zero_ok | exact Vote.zero_ok | exact Reader.zero_ok | exact Cut.zero_ok | exact Cert.zero_ok | exact Msg.zero_ok | exact Inbox.zero_ok | exact Record.zero_ok | exact Kept.zero_ok  | exact hok | exact hVk | exact hok.o_fCut)) Sz81 (Vote.length (by first | assumption | (simp [cnameD_length, hW.fCut.ok.l_fPrev]; done) | exact Block.zero_ok | exact Vote.zero_ok | exact Reader.zero_ok | exact Cut.zero_ok | exact Cert.zero_ok | exact Msg.zero_ok | exact Inbox.zero_ok | exact Record.zero_ok | exact Kept.zero_ok  | exact hok | exact hVk | exact hok.o_fCut)) (by first | exact mem0 | exact mem1 | exact mem2 | exact mem3 | exact mem4 | exact mem5 | exact mem6 | exact mem7 | (repeat (first | exact List.mem_cons_self | refine List.mem_cons_of_mem _ ?_ | refine mem_seg ?_))) (Vote.length (by first | assumption | (simp [cnameD_length, hW.fCut.ok.l_fPrev]; done) | exact Block.zero_ok | exact Vote.zero_ok | exact Reader.zero_ok | exact Cut.zero_ok | exact Cert.zero_ok | exact Msg.zero_ok | exact Inbox.zero_ok | exact Record.zero_ok | exact Kept.zero_ok  | exact hok | exact hVk | exact hok.o_fCut)) (by first | exact upd0 | exact upd1 | exact upd2 | exact upd3 | exact upd4 | exact upd5 | exact upd6 | exact upd7 | (repeat (first | exact upd0 | apply Upd.tail | apply Upd.seg))) ?_
            refine Tr.nil ?_
            refine at_n ?_
            refine Sat.seq ?_
            refine Sat.seq ?_
            -- region 7
            refine Sat.region ?_
            refine Tr.loadAll rfl rfl rfl Tryz.underlying81 rfl Sz81 (by first | exact mem0 | exact mem1 | exact mem2 | exact mem3 | exact mem4 | exact mem5 | exact mem6 | exact mem7 | (repeat (first | exact List.mem_cons_self | refine List.mem_cons_of_mem _ ?_ | refine mem_seg ?_))) (Vote.length (by first | assumption | (simp [cnameD_length, hW.fCut.ok.l_fPrev]; done) | exact Block.zero_ok | exact Vote.zero_ok | exact Reader.zero_ok | exact Cut.zero_ok | exact Cert.zero_ok | exact Msg.zero_ok | exact Inbox.zero_ok | exact Record.zero_ok | exact Kept.zero_ok  | exact hok | exact hVk | exact hok.o_fCut)) ?_
            refine Tr.callV rfl rfl rfl rfl Body90 (vote_check Vk hVk) (fun _ _ => trivial) ?_
            refine two (fun r hr k => Tr.nei rfl rfl rfl rfl hr k) (fun hs7_20 => ?_) (fun hs7_20 => ?_)
            ·
              first | have hs7_2 := of_decide_eq_true hs7_20 | have hs7_2 := of_decide_eq_false hs7_20 | have hs7_2 := nd_t hs7_20 | have hs7_2 := nd_f hs7_20 | have hs7_2 := hs7_20
              refine Tr.move rfl rfl rfl ?_
              refine Tr.skp rfl rfl ?_
              refine Tr.skp rfl rfl ?_
              refine Tr.skp rfl rfl ?_
              refine Tr.pick rfl rfl rfl rfl rfl rfl ?_
              refine Tr.move rfl rfl rfl ?_
              refine Tr.skp rfl rfl ?_
              refine Tr.skp rfl rfl ?_
              refine Tr.skp rfl rfl ?_
              refine Tr.skp rfl rfl ?_
              refine Tr.skp rfl rfl ?_
              refine Tr.skp rfl rfl ?_
              refine Tr.pick rfl rfl rfl rfl rfl rfl ?_
              refine Tr.nil ?_
              refine at_n ?_
              refine Sat.cond_t rfl rfl ?_
              refine Sat.seq ?_
              -- region 8
              refine Sat.region ?_
              refine Tr.assign rfl rfl rfl ?_
              refine Tr.nil ?_
              refine at_n ?_
              refine Sat.ret ?_
              refine at_r ?_
              refine bl_r ?_
              refine at_r ?_
              refine at_r ?_
              refine bl_r ?_
              refine at_r ?_
              refine en_r ?_
              refine ⟨_, [], res_tmp rfl rfl, (by simp), (by simp), ?_, rfl⟩
              first
                | exact congrArg i64 (cert_bad1 (by simp only [DCert.head, hnd, Bool.or_eq_true, Bool.not_eq_true', decide_eq_true_eq, decide_eq_false_iff_not]; omega)).symm
                | exact congrArg i64 (cert_bad2 (k := k) (by omega) (by
                    simp only [DCert.bad, hvk, hv0, ← ehh]
                    first
                      | exact .inl ‹_›
                      | exact .inr (.inl ‹_›)
                      | exact .inr (.inr (.inl ‹_›))
                      | exact .inr (.inr (.inr (.inl ‹_›)))
                      | exact .inr (.inr (.inr (.inr (.inl ‹_›))))
                      | (rw [vote_is hdp]; exact .inr (.inr (.inr (.inr (.inr ⟨by omega, by omega⟩))))))).symm
                | exact congrArg i64 (cert_good hnb (by rw [hnd]; exact hg)).symm
            ·
              first | have hs7_2 := of_decide_eq_true hs7_20 | have hs7_2 := of_decide_eq_false hs7_20 | have hs7_2 := nd_t hs7_20 | have hs7_2 := nd_f hs7_20 | have hs7_2 := hs7_20
              refine Tr.move rfl rfl rfl ?_
              refine Tr.fld rfl rfl rfl Tryz.underlying81 rfl Sz3 (by decide) _ rfl ?_
              refine Tr.load1 rfl rfl rfl Tryz.underlying3 rfl (by first | exact mem0 | exact mem1 | exact mem2 | exact mem3 | exact mem4 | exact mem5 | exact mem6 | exact mem7 | (repeat (first | exact List.mem_cons_self | refine List.mem_cons_of_mem _ ?_ | refine mem_seg ?_))) (by first | exact Vote.get_fPhase (by first | assumption | (simp [cnameD_length, hW.fCut.ok.l_fPrev]; done) | exact Block.zero_ok | exact Vote.zero_ok | exact Reader.zero_ok | exact Cut.zero_ok | exact Cert.zero_ok | exact Msg.zero_ok | exact Inbox.zero_ok | exact Record.zero_ok | exact Kept.zero_ok  | exact hok | exact hVk | exact hok.o_fCut) | exact (by first | rfl | exact get_words (by first | omega | (simp [cnameD_length, hW.fCut.ok.l_fPrev]; done) | (simp [cnameD_length, hW.fCut.ok.l_fPrev]; omega)) | exact get_bytes (by first | omega | (simp [cnameD_length, hW.fCut.ok.l_fPrev]; done) | (simp [cnameD_length, hW.fCut.ok.l_fPrev]; omega)) | exact get_ints (by first | omega | (simp [cnameD_length, hW.fCut.ok.l_fPrev]; done) | (simp [cnameD_length, hW.fCut.ok.l_fPrev]; omega)))) ?_
              refine two (fun r hr k => Tr.nei rfl rfl rfl rfl hr k) (fun hs7_60 => ?_) (fun hs7_60 => ?_)
              ·
                first | have hs7_6 := of_decide_eq_true hs7_60 | have hs7_6 := of_decide_eq_false hs7_60 | have hs7_6 := nd_t hs7_60 | have hs7_6 := nd_f hs7_60 | have hs7_6 := hs7_60
                refine Tr.pick rfl rfl rfl rfl rfl rfl ?_
                refine Tr.move rfl rfl rfl ?_
                refine Tr.skp rfl rfl ?_
                refine Tr.skp rfl rfl ?_
                refine Tr.skp rfl rfl ?_
                refine Tr.skp rfl rfl ?_
                refine Tr.skp rfl rfl ?_
                refine Tr.skp rfl rfl ?_
                refine Tr.pick rfl rfl rfl rfl rfl rfl ?_
                refine Tr.nil ?_
                refine at_n ?_
                refine Sat.cond_t rfl rfl ?_
                refine Sat.seq ?_
                -- region 8
                refine Sat.region ?_
                refine Tr.assign rfl rfl rfl ?_
                refine Tr.nil ?_
                refine at_n ?_
                refine Sat.ret ?_
                refine at_r ?_
                refine bl_r ?_
                refine at_r ?_
                refine at_r ?_
                refine bl_r ?_
                refine at_r ?_
                refine en_r ?_
                refine ⟨_, [], res_tmp rfl rfl, (by simp), (by simp), ?_, rfl⟩
                first
                  | exact congrArg i64 (cert_bad1 (by simp only [DCert.head, hnd, Bool.or_eq_true, Bool.not_eq_true', decide_eq_true_eq, decide_eq_false_iff_not]; omega)).symm
                  | exact congrArg i64 (cert_bad2 (k := k) (by omega) (by
                      simp only [DCert.bad, hvk, hv0, ← ehh]
                      first
                        | exact .inl ‹_›
                        | exact .inr (.inl ‹_›)
                        | exact .inr (.inr (.inl ‹_›))
                        | exact .inr (.inr (.inr (.inl ‹_›)))
                        | exact .inr (.inr (.inr (.inr (.inl ‹_›))))
                        | (rw [vote_is hdp]; exact .inr (.inr (.inr (.inr (.inr ⟨by omega, by omega⟩))))))).symm
                  | exact congrArg i64 (cert_good hnb (by rw [hnd]; exact hg)).symm
              ·
                first | have hs7_6 := of_decide_eq_true hs7_60 | have hs7_6 := of_decide_eq_false hs7_60 | have hs7_6 := nd_t hs7_60 | have hs7_6 := nd_f hs7_60 | have hs7_6 := hs7_60
                refine Tr.pick rfl rfl rfl rfl rfl rfl ?_
                refine Tr.move rfl rfl rfl ?_
                refine Tr.fld rfl rfl rfl Tryz.underlying81 rfl Sz48 (by decide) _ rfl ?_
                refine Tr.load1 rfl rfl rfl Tryz.underlying48 rfl (by first | exact mem0 | exact mem1 | exact mem2 | exact mem3 | exact mem4 | exact mem5 | exact mem6 | exact mem7 | (repeat (first | exact List.mem_cons_self | refine List.mem_cons_of_mem _ ?_ | refine mem_seg ?_))) (by first | exact Vote.get_fHeight (by first | assumption | (simp [cnameD_length, hW.fCut.ok.l_fPrev]; done) | exact Block.zero_ok | exact Vote.zero_ok | exact Reader.zero_ok | exact Cut.zero_ok | exact Cert.zero_ok | exact Msg.zero_ok | exact Inbox.zero_ok | exact Record.zero_ok | exact Kept.zero_ok  | exact hok | exact hVk | exact hok.o_fCut) | exact (by first | rfl | exact get_words (by first | omega | (simp [cnameD_length, hW.fCut.ok.l_fPrev]; done) | (simp [cnameD_length, hW.fCut.ok.l_fPrev]; omega)) | exact get_bytes (by first | omega | (simp [cnameD_length, hW.fCut.ok.l_fPrev]; done) | (simp [cnameD_length, hW.fCut.ok.l_fPrev]; omega)) | exact get_ints (by first | omega | (simp [cnameD_length, hW.fCut.ok.l_fPrev]; done) | (simp [cnameD_length, hW.fCut.ok.l_fPrev]; omega)))) ?_
                refine Tr.fld rfl rfl rfl Tryz.underlying55 rfl Sz53 (by decide) _ rfl ?_
                refine Tr.fld rfl rfl rfl Tryz.underlying53 rfl Sz48 (by decide) _ rfl ?_
                refine Tr.load1 rfl rfl rfl Tryz.underlying48 rfl (by first | exact mem0 | exact mem1 | exact mem2 | exact mem3 | exact mem4 | exact mem5 | exact mem6 | exact mem7 | (repeat (first | exact List.mem_cons_self | refine List.mem_cons_of_mem _ ?_ | refine mem_seg ?_))) (Cert.see_fCut hok 0 _ (Cut.get_fHeight hok.o_fCut)) ?_
                refine Tr.nei rfl rfl rfl rfl rfl ?_
                refine Tr.pick rfl rfl rfl rfl rfl rfl ?_
                refine Tr.nil ?_
                refine at_n ?_
                first
                  | refine Sat.condP rfl (fun hc2 => ?_) (fun hc2 => ?_)
                  | refine Sat.condNP rfl (fun hc2 => ?_) (fun hc2 => ?_)
                  | refine Sat.cond rfl (fun hc2 => ?_) (fun hc2 => ?_)
                ·
                  refine Sat.seq ?_
                  -- region 8
                  refine Sat.region ?_
                  refine Tr.assign rfl rfl rfl ?_
                  refine Tr.nil ?_
                  refine at_n ?_
                  refine Sat.ret ?_
                  refine at_r ?_
                  refine bl_r ?_
                  refine at_r ?_
                  refine at_r ?_
                  refine bl_r ?_
                  refine at_r ?_
                  refine en_r ?_
                  refine ⟨_, [], res_tmp rfl rfl, (by simp), (by simp), ?_, rfl⟩
                  first
                    | exact congrArg i64 (cert_bad1 (by simp only [DCert.head, hnd, Bool.or_eq_true, Bool.not_eq_true', decide_eq_true_eq, decide_eq_false_iff_not]; omega)).symm
                    | exact congrArg i64 (cert_bad2 (k := k) (by omega) (by
                        simp only [DCert.bad, hvk, hv0, ← ehh]
                        first
                          | exact .inl ‹_›
                          | exact .inr (.inl ‹_›)
                          | exact .inr (.inr (.inl ‹_›))
                          | exact .inr (.inr (.inr (.inl ‹_›)))
                          | exact .inr (.inr (.inr (.inr (.inl ‹_›))))
                          | (rw [vote_is hdp]; exact .inr (.inr (.inr (.inr (.inr ⟨by omega, by omega⟩))))))).symm
                    | exact congrArg i64 (cert_good hnb (by rw [hnd]; exact hg)).symm
                ·
                  refine Sat.skip ?_
                  refine at_n ?_
                  refine Sat.seq ?_
                  refine Sat.seq ?_
                  -- region 9
                  refine Sat.draw [(0, 0), (1, 1), (1, 2), (0, 3), (0, 4), (0, 5), (1, 6), (0, 7), (1, 8), (0, 9), (0, 10), (1, 11), (0, 12), (0, 13)] Mixed (by kernel_rfl) ?_
                  refine Tr.fld rfl rfl rfl Tryz.underlying81 rfl Sz50 (by decide) _ rfl ?_
                  first
                    | refine Tr.loadN (bytesV _) rfl rfl rfl Tryz.underlying50 rfl Sz50 (by first | exact mem0 | exact mem1 | exact mem2 | exact mem3 | exact mem4 | exact mem5 | exact mem6 | exact mem7 | (repeat (first | exact List.mem_cons_self | refine List.mem_cons_of_mem _ ?_ | refine mem_seg ?_))) (Vote.row_fValue (by first | assumption | (simp [cnameD_length, hW.fCut.ok.l_fPrev]; done) | exact Block.zero_ok | exact Vote.zero_ok | exact Reader.zero_ok | exact Cut.zero_ok | exact Cert.zero_ok | exact Msg.zero_ok | exact Inbox.zero_ok | exact Record.zero_ok | exact Kept.zero_ok  | exact hok | exact hVk | exact hok.o_fCut)) (Vote.rl_fValue (by first | assumption | (simp [cnameD_length, hW.fCut.ok.l_fPrev]; done) | exact Block.zero_ok | exact Vote.zero_ok | exact Reader.zero_ok | exact Cut.zero_ok | exact Cert.zero_ok | exact Msg.zero_ok | exact Inbox.zero_ok | exact Record.zero_ok | exact Kept.zero_ok  | exact hok | exact hVk | exact hok.o_fCut)) ?_
                  first
                    | refine Tr.loadAll rfl rfl rfl Tryz.underlying50 rfl Sz50 (by first | exact mem0 | exact mem1 | exact mem2 | exact mem3 | exact mem4 | exact mem5 | exact mem6 | exact mem7 | (repeat (first | exact List.mem_cons_self | refine List.mem_cons_of_mem _ ?_ | refine mem_seg ?_))) (by first | assumption | (simp [cnameD_length, hW.fCut.ok.l_fPrev]; done) | (rw [bytesV, List.length_map]; assumption)) ?_
                    | refine Tr.loadN _ rfl rfl rfl Tryz.underlying50 rfl Sz50 (by first | exact mem0 | exact mem1 | exact mem2 | exact mem3 | exact mem4 | exact mem5 | exact mem6 | exact mem7 | (repeat (first | exact List.mem_cons_self | refine List.mem_cons_of_mem _ ?_ | refine mem_seg ?_))) (by exact rfl) (by first | assumption | (simp [cnameD_length, hW.fCut.ok.l_fPrev]; done) | (rw [bytesV, List.length_map]; assumption)) ?_
                  refine two (fun r hr k => Tr.neq_bytes rfl rfl rfl rfl Tryz.eqGuardType50 Tryz.underlying50 Tryz.underlying5 Sz5 (by first | assumption | (simp [cnameD_length, hW.fCut.ok.l_fPrev]; done) | (rw [bytesV, List.length_map]; assumption)) (by first | assumption | (simp [cnameD_length, hW.fCut.ok.l_fPrev]; done) | (rw [bytesV, List.length_map]; assumption)) hr k) (fun hs9_30 => ?_) (fun hs9_30 => ?_)
                  ·
                    first | have hs9_3 := of_decide_eq_true hs9_30 | have hs9_3 := of_decide_eq_false hs9_30 | have hs9_3 := nd_t hs9_30 | have hs9_3 := nd_f hs9_30 | have hs9_3 := hs9_30
                    refine Tr.move rfl rfl rfl ?_
                    refine Tr.skp rfl rfl ?_
                    refine Tr.skp rfl rfl ?_
                    refine Tr.skp rfl rfl ?_
                    refine Tr.skp rfl rfl ?_
                    refine Tr.skp rfl rfl ?_
                    refine Tr.skp rfl rfl ?_
                    refine Tr.skp rfl rfl ?_
                    refine Tr.skp rfl rfl ?_
                    refine Tr.pick rfl rfl rfl rfl rfl rfl ?_
                    refine Tr.nil ?_
                    refine at_n ?_
                    refine Sat.cond_t rfl rfl ?_
                    refine Sat.seq ?_
                    -- region 10
                    refine Sat.region ?_
                    refine Tr.assign rfl rfl rfl ?_
                    refine Tr.nil ?_
                    refine at_n ?_
                    refine Sat.ret ?_
                    refine at_r ?_
                    refine bl_r ?_
                    refine at_r ?_
                    refine at_r ?_
                    refine bl_r ?_
                    refine at_r ?_
                    refine en_r ?_
                    refine ⟨_, [], res_tmp rfl rfl, (by simp), (by simp), ?_, rfl⟩
                    first
                      | exact congrArg i64 (cert_bad1 (by simp only [DCert.head, hnd, Bool.or_eq_true, Bool.not_eq_true', decide_eq_true_eq, decide_eq_false_iff_not]; omega)).symm
                      | exact congrArg i64 (cert_bad2 (k := k) (by omega) (by
                          simp only [DCert.bad, hvk, hv0, ← ehh]
                          first
                            | exact .inl ‹_›
                            | exact .inr (.inl ‹_›)
                            | exact .inr (.inr (.inl ‹_›))
                            | exact .inr (.inr (.inr (.inl ‹_›)))
                            | exact .inr (.inr (.inr (.inr (.inl ‹_›))))
                            | (rw [vote_is hdp]; exact .inr (.inr (.inr (.inr (.inr ⟨by omega, by omega⟩))))))).symm
                      | exact congrArg i64 (cert_good hnb (by rw [hnd]; exact hg)).symm
                  ·
                    first | have hs9_3 := of_decide_eq_true hs9_30 | have hs9_3 := of_decide_eq_false hs9_30 | have hs9_3 := nd_t hs9_30 | have hs9_3 := nd_f hs9_30 | have hs9_3 := hs9_30
                    refine Tr.move rfl rfl rfl ?_
                    refine Tr.fld rfl rfl rfl Tryz.underlying81 rfl Sz48 (by decide) _ rfl ?_
                    refine Tr.load1 rfl rfl rfl Tryz.underlying48 rfl (by first | exact mem0 | exact mem1 | exact mem2 | exact mem3 | exact mem4 | exact mem5 | exact mem6 | exact mem7 | (repeat (first | exact List.mem_cons_self | refine List.mem_cons_of_mem _ ?_ | refine mem_seg ?_))) (by first | exact Vote.get_fRound (by first | assumption | (simp [cnameD_length, hW.fCut.ok.l_fPrev]; done) | exact Block.zero_ok | exact Vote.zero_ok | exact Reader.zero_ok | exact Cut.zero_ok | exact Cert.zero_ok | exact Msg.zero_ok | exact Inbox.zero_ok | exact Record.zero_ok | exact Kept.zero_ok  | exact hok | exact hVk | exact hok.o_fCut) | exact (by first | rfl | exact get_words (by first | omega | (simp [cnameD_length, hW.fCut.ok.l_fPrev]; done) | (simp [cnameD_length, hW.fCut.ok.l_fPrev]; omega)) | exact get_bytes (by first | omega | (simp [cnameD_length, hW.fCut.ok.l_fPrev]; done) | (simp [cnameD_length, hW.fCut.ok.l_fPrev]; omega)) | exact get_ints (by first | omega | (simp [cnameD_length, hW.fCut.ok.l_fPrev]; done) | (simp [cnameD_length, hW.fCut.ok.l_fPrev]; omega)))) ?_
                    refine Tr.fld rfl rfl rfl Tryz.underlying55 rfl Sz24 (by decide) _ rfl ?_
                    refine Tr.load1 rfl rfl rfl Tryz.underlying24 rfl (by first | exact mem0 | exact mem1 | exact mem2 | exact mem3 | exact mem4 | exact mem5 | exact mem6 | exact mem7 | (repeat (first | exact List.mem_cons_self | refine List.mem_cons_of_mem _ ?_ | refine mem_seg ?_))) (by first | exact Cert.get_fVotes (by first | assumption | (simp [cnameD_length, hW.fCut.ok.l_fPrev]; done) | exact Block.zero_ok | exact Vote.zero_ok | exact Reader.zero_ok | exact Cut.zero_ok | exact Cert.zero_ok | exact Msg.zero_ok | exact Inbox.zero_ok | exact Record.zero_ok | exact Kept.zero_ok  | exact hok | exact hVk | exact hok.o_fCut) | exact (by first | rfl | exact get_words (by first | omega | (simp [cnameD_length, hW.fCut.ok.l_fPrev]; done) | (simp [cnameD_length, hW.fCut.ok.l_fPrev]; omega)) | exact get_bytes (by first | omega | (simp [cnameD_length, hW.fCut.ok.l_fPrev]; done) | (simp [cnameD_length, hW.fCut.ok.l_fPrev]; omega)) | exact get_ints (by first | omega | (simp [cnameD_length, hW.fCut.ok.l_fPrev]; done) | (simp [cnameD_length, hW.fCut.ok.l_fPrev]; omega)))) ?_
                    refine Tr.idxSlP 132 rfl rfl rfl hsp0 rfl Tryz.underlying24 Sz81 (0) (by omega) (by omega) ?_
                    refine Tr.fld rfl rfl rfl Tryz.underlying81 rfl Sz48 (by decide) _ rfl ?_
                    refine Tr.loadE rfl rfl rfl Tryz.underlying48 rfl (by first | (simp; done) | (simp; exact hW.2.2) | (simp [Cx.with]; done) | (simp [Cx.with]; omega)) (hsee0 1 _ (Vote.get_fRound hV0)) ?_
                    refine Tr.nei rfl rfl rfl rfl rfl ?_
                    refine Tr.pick rfl rfl rfl rfl rfl rfl ?_
                    refine Tr.nil ?_
                    refine at_n ?_
                    first
                      | refine Sat.condP rfl (fun hc3 => ?_) (fun hc3 => ?_)
                      | refine Sat.condNP rfl (fun hc3 => ?_) (fun hc3 => ?_)
                      | refine Sat.cond rfl (fun hc3 => ?_) (fun hc3 => ?_)
                    ·
                      refine Sat.seq ?_
                      -- region 10
                      refine Sat.region ?_
                      refine Tr.assign rfl rfl rfl ?_
                      refine Tr.nil ?_
                      refine at_n ?_
                      refine Sat.ret ?_
                      refine at_r ?_
                      refine bl_r ?_
                      refine at_r ?_
                      refine at_r ?_
                      refine bl_r ?_
                      refine at_r ?_
                      refine en_r ?_
                      refine ⟨_, [], res_tmp rfl rfl, (by simp), (by simp), ?_, rfl⟩
                      first
                        | exact congrArg i64 (cert_bad1 (by simp only [DCert.head, hnd, Bool.or_eq_true, Bool.not_eq_true', decide_eq_true_eq, decide_eq_false_iff_not]; omega)).symm
                        | exact congrArg i64 (cert_bad2 (k := k) (by omega) (by
                            simp only [DCert.bad, hvk, hv0, ← ehh]
                            first
                              | exact .inl ‹_›
                              | exact .inr (.inl ‹_›)
                              | exact .inr (.inr (.inl ‹_›))
                              | exact .inr (.inr (.inr (.inl ‹_›)))
                              | exact .inr (.inr (.inr (.inr (.inl ‹_›))))
                              | (rw [vote_is hdp]; exact .inr (.inr (.inr (.inr (.inr ⟨by omega, by omega⟩))))))).symm
                        | exact congrArg i64 (cert_good hnb (by rw [hnd]; exact hg)).symm
                    ·
                      refine Sat.skip ?_
                      refine at_n ?_
                      refine Sat.seq ?_
                      -- region 11
                      refine Sat.draw [(0, 0), (0, 1), (0, 2), (0, 3), (1, 4), (0, 5), (0, 6), (0, 7), (0, 8), (0, 9), (0, 10), (0, 11), (3, 12), (0, 13), (0, 14)] Mixed (by kernel_rfl) ?_
                      refine Tr.move rfl rfl rfl ?_
                      refine two (fun r hr k => Tr.gtr rfl rfl rfl rfl hr k) (fun hs11_10 => ?_) (fun hs11_10 => ?_)
                      ·
                        first | have hs11_1 := of_decide_eq_true hs11_10 | have hs11_1 := of_decide_eq_false hs11_10 | have hs11_1 := nd_t hs11_10 | have hs11_1 := nd_f hs11_10 | have hs11_1 := hs11_10
                        obtain ⟨bp, op, Vp, dp, hspp, hrp, hdp, hisp, hlenp, hseep⟩ := hV.at (by decide) (show k - 1 < C.fVotes.n by omega)
                        obtain rfl := hisp.eq
                        have hVp := hisp.ok
                        refine Tr.move rfl rfl rfl ?_
                        refine Tr.fld rfl rfl rfl Tryz.underlying55 rfl Sz24 (by decide) _ rfl ?_
                        refine Tr.load1 rfl rfl rfl Tryz.underlying24 rfl (by first | exact mem0 | exact mem1 | exact mem2 | exact mem3 | exact mem4 | exact mem5 | exact mem6 | exact mem7 | (repeat (first | exact List.mem_cons_self | refine List.mem_cons_of_mem _ ?_ | refine mem_seg ?_))) (by first | exact Cert.get_fVotes (by first | assumption | (simp [cnameD_length, hW.fCut.ok.l_fPrev]; done) | exact Block.zero_ok | exact Vote.zero_ok | exact Reader.zero_ok | exact Cut.zero_ok | exact Cert.zero_ok | exact Msg.zero_ok | exact Inbox.zero_ok | exact Record.zero_ok | exact Kept.zero_ok  | exact hok | exact hVk | exact hok.o_fCut) | exact (by first | rfl | exact get_words (by first | omega | (simp [cnameD_length, hW.fCut.ok.l_fPrev]; done) | (simp [cnameD_length, hW.fCut.ok.l_fPrev]; omega)) | exact get_bytes (by first | omega | (simp [cnameD_length, hW.fCut.ok.l_fPrev]; done) | (simp [cnameD_length, hW.fCut.ok.l_fPrev]; omega)) | exact get_ints (by first | omega | (simp [cnameD_length, hW.fCut.ok.l_fPrev]; done) | (simp [cnameD_length, hW.fCut.ok.l_fPrev]; omega)))) ?_
                        refine Tr.move rfl rfl rfl ?_
                        refine Tr.sub_i64 rfl rfl rfl rfl (by omega) ?_
                        refine Tr.idxSlP 132 rfl rfl rfl hspp rfl Tryz.underlying24 Sz81 (k - 1) (by omega) (by omega) ?_
                        refine Tr.fld rfl rfl rfl Tryz.underlying81 rfl Sz75 (by decide) _ rfl ?_
                        refine Tr.sliceArr rfl rfl rfl Tryz.underlying75 Sz5 ?_
                        refine Tr.fld rfl rfl rfl Tryz.underlying81 rfl Sz75 (by decide) _ rfl ?_
                        refine Tr.sliceArr rfl rfl rfl Tryz.underlying75 Sz5 ?_
                        refine Tr.callV rfl rfl rfl rfl Body128 (bytes_cmp _ _ _ _ _ _ Vp.fVoter Vk.fVoter hVp.l_fVoter hVk.l_fVoter) (fun W2 W2h => ⟨SeesP.of (sees_ext W2h (by simp) (sees_sub hseep (Vote.see_fVoter hVp))), SeesP.of (sees_part W2h (by first | exact mem0 | exact mem1 | exact mem2 | exact mem3 | exact mem4 | exact mem5 | exact mem6 | exact mem7 | (repeat (first | exact List.mem_cons_self | refine List.mem_cons_of_mem _ ?_ | refine mem_seg ?_))) (Vote.see_fVoter hVk))⟩) ?_
                        refine Tr.geq rfl rfl rfl rfl rfl ?_
                        refine Tr.pick rfl rfl rfl rfl rfl rfl ?_
                        refine Tr.nil ?_
                        refine at_n ?_
                        first
                          | refine Sat.condP rfl (fun hc4 => ?_) (fun hc4 => ?_)
                          | refine Sat.condNP rfl (fun hc4 => ?_) (fun hc4 => ?_)
                          | refine Sat.cond rfl (fun hc4 => ?_) (fun hc4 => ?_)
                        ·
                          refine Sat.seq ?_
                          -- region 12
                          refine Sat.region ?_
                          refine Tr.assign rfl rfl rfl ?_
                          refine Tr.nil ?_
                          refine at_n ?_
                          refine Sat.ret ?_
                          refine bl_r ?_
                          refine at_r ?_
                          refine at_r ?_
                          refine bl_r ?_
                          refine at_r ?_
                          refine en_r ?_
                          refine ⟨_, [], res_tmp rfl rfl, (by simp), (by simp), ?_, rfl⟩
                          first
                            | exact congrArg i64 (cert_bad1 (by simp only [DCert.head, hnd, Bool.or_eq_true, Bool.not_eq_true', decide_eq_true_eq, decide_eq_false_iff_not]; omega)).symm
                            | exact congrArg i64 (cert_bad2 (k := k) (by omega) (by
                                simp only [DCert.bad, hvk, hv0, ← ehh]
                                first
                                  | exact .inl ‹_›
                                  | exact .inr (.inl ‹_›)
                                  | exact .inr (.inr (.inl ‹_›))
                                  | exact .inr (.inr (.inr (.inl ‹_›)))
                                  | exact .inr (.inr (.inr (.inr (.inl ‹_›))))
                                  | (rw [vote_is hdp]; exact .inr (.inr (.inr (.inr (.inr ⟨by omega, by omega⟩))))))).symm
                            | exact congrArg i64 (cert_good hnb (by rw [hnd]; exact hg)).symm
                        ·
                          refine Sat.skip ?_
                          refine bl_n ?_
                          refine at_n ?_
                          -- region 13
                          refine Sat.region ?_
                          refine Tr.add_i64 rfl rfl rfl rfl (by omega) ?_
                          refine Tr.move rfl rfl rfl ?_
                          refine Tr.nil ?_
                          refine at_n ?_
                          exact ⟨k + 1, ⟨by omega, fun j hj => by rcases Nat.lt_succ_iff_lt_or_eq.1 hj with h | rfl; exact hg j h; exact (by
                            simp only [DCert.bad, hvk, hv0, ← ehh]
                            rintro (h | h | h | h | h | ⟨h1, h2⟩) <;> first | exact h ‹_› | omega | (rw [vote_is hdp] at h2; omega))⟩, by omega, weak_of (wk1 rfl (wk1 rfl (wk1 rfl (wk1 rfl (wk1 rfl wk0))))) (wh1 (by first | exact mem0 | exact mem1 | exact mem2 | exact mem3 | exact mem4 | exact mem5 | exact mem6 | exact mem7 | (repeat (first | exact List.mem_cons_self | refine List.mem_cons_of_mem _ ?_ | refine mem_seg ?_))) (wh1 (by first | exact mem0 | exact mem1 | exact mem2 | exact mem3 | exact mem4 | exact mem5 | exact mem6 | exact mem7 | (repeat (first | exact List.mem_cons_self | refine List.mem_cons_of_mem _ ?_ | refine mem_seg ?_))) wh0)) (by repeat (first | exact ns_nil | refine ns_keep rfl ?_ | refine ns_skip ?_))⟩
                      ·
                        first | have hs11_1 := of_decide_eq_true hs11_10 | have hs11_1 := of_decide_eq_false hs11_10 | have hs11_1 := nd_t hs11_10 | have hs11_1 := nd_f hs11_10 | have hs11_1 := hs11_10
                        skip
                        refine Tr.move rfl rfl rfl ?_
                        refine Tr.skp rfl rfl ?_
                        refine Tr.skp rfl rfl ?_
                        refine Tr.skp rfl rfl ?_
                        refine Tr.skp rfl rfl ?_
                        refine Tr.skp rfl rfl ?_
                        refine Tr.skp rfl rfl ?_
                        refine Tr.skp rfl rfl ?_
                        refine Tr.skp rfl rfl ?_
                        refine Tr.skp rfl rfl ?_
                        refine Tr.skp rfl rfl ?_
                        refine Tr.skp rfl rfl ?_
                        refine Tr.pick rfl rfl rfl rfl rfl rfl ?_
                        refine Tr.nil ?_
                        refine at_n ?_
                        refine Sat.cond_f rfl rfl ?_
                        refine Sat.skip ?_
                        refine bl_n ?_
                        refine at_n ?_
                        -- region 13
                        refine Sat.region ?_
                        refine Tr.add_i64 rfl rfl rfl rfl (by omega) ?_
                        refine Tr.move rfl rfl rfl ?_
                        refine Tr.nil ?_
                        refine at_n ?_
                        exact ⟨k + 1, ⟨by omega, fun j hj => by rcases Nat.lt_succ_iff_lt_or_eq.1 hj with h | rfl; exact hg j h; exact (by
                          simp only [DCert.bad, hvk, hv0, ← ehh]
                          rintro (h | h | h | h | h | ⟨h1, h2⟩) <;> first | exact h ‹_› | omega | (rw [vote_is hdp] at h2; omega))⟩, by omega, weak_of (wk1 rfl (wk1 rfl (wk1 rfl (wk1 rfl (wk1 rfl wk0))))) (wh1 (by first | exact mem0 | exact mem1 | exact mem2 | exact mem3 | exact mem4 | exact mem5 | exact mem6 | exact mem7 | (repeat (first | exact List.mem_cons_self | refine List.mem_cons_of_mem _ ?_ | refine mem_seg ?_))) (wh1 (by first | exact mem0 | exact mem1 | exact mem2 | exact mem3 | exact mem4 | exact mem5 | exact mem6 | exact mem7 | (repeat (first | exact List.mem_cons_self | refine List.mem_cons_of_mem _ ?_ | refine mem_seg ?_))) wh0)) (by repeat (first | exact ns_nil | refine ns_keep rfl ?_ | refine ns_skip ?_))⟩
          ·
            obtain rfl : k = C.fVotes.n := by omega
            refine Sat.exit ?_
            refine at_x ?_
            refine at_x ?_
            refine bl_h ?_
            refine at_n ?_
            refine Sat.seq ?_
            -- region 14
            refine Sat.region ?_
            refine Tr.assign rfl rfl rfl ?_
            refine Tr.nil ?_
            refine at_n ?_
            refine Sat.ret ?_
            refine en_r ?_
            refine ⟨_, [], res_tmp rfl rfl, (by simp), (by simp), ?_, rfl⟩
            first
              | exact congrArg i64 (cert_bad1 (by simp only [DCert.head, hnd, Bool.or_eq_true, Bool.not_eq_true', decide_eq_true_eq, decide_eq_false_iff_not]; omega)).symm
              | exact congrArg i64 (cert_bad2 (k := k) (by omega) (by
                  simp only [DCert.bad, hvk, hv0, ← ehh]
                  first
                    | exact .inl ‹_›
                    | exact .inr (.inl ‹_›)
                    | exact .inr (.inr (.inl ‹_›))
                    | exact .inr (.inr (.inr (.inl ‹_›)))
                    | exact .inr (.inr (.inr (.inr (.inl ‹_›))))
                    | (rw [vote_is hdp]; exact .inr (.inr (.inr (.inr (.inr ⟨by omega, by omega⟩))))))).symm
              | exact congrArg i64 (cert_good hnb (by rw [hnd]; exact hg)).symm

end Go.Proofs.YtejjamifnombhaaGreat
end

section
namespace Hw
open Go Go.RowKit
set_option linter.unusedSimpArgs false
set_option linter.unusedVariables false
def orI (x y : Int) : Int := IntKind.i64.wrap (((BitVec.ofInt 64 x ||| BitVec.ofInt 64 y).toNat : Nat) : Int)
def andI (x y : Int) : Int := IntKind.i64.wrap (((BitVec.ofInt 64 x &&& BitVec.ofInt 64 y).toNat : Nat) : Int)
def andNotI (x y : Int) : Int := IntKind.i64.wrap (((BitVec.ofInt 64 x &&& ~~~ BitVec.ofInt 64 y).toNat : Nat) : Int)
section
variable {C : Cx} {ops : Array Oper} {rest : List (Nat × Oper)} {sl : List (Nat × Value)} {hp : List Blk} {Q : St → Prop} {c d : Nat} {ty : TypeId} {pos : String} {af : Array Edge} {g : Option (Nat × Bool)} {x y : Operand} {xT yT : TypeId} {a b : Int}
theorem Tr.or_i64 (hg : guardOk ops sl g = true) (hk : okD c d C.N = true) (hx : evIn sl x = some (i64 a)) (hy : evIn sl y = some (i64 b))
    (k : Tr C ops rest ⟨(d, i64 (orI a b)) :: sl, hp⟩ Q) : Tr C ops ((c, ⟨some d, .binOp .or xT x y yT, ty, pos, af, g⟩) :: rest) ⟨sl, hp⟩ Q :=
  .bin hg hk hx hy (fun w => rfl) k
theorem Tr.and_i64 (hg : guardOk ops sl g = true) (hk : okD c d C.N = true) (hx : evIn sl x = some (i64 a)) (hy : evIn sl y = some (i64 b))
    (k : Tr C ops rest ⟨(d, i64 (andI a b)) :: sl, hp⟩ Q) : Tr C ops ((c, ⟨some d, .binOp .and xT x y yT, ty, pos, af, g⟩) :: rest) ⟨sl, hp⟩ Q :=
  .bin hg hk hx hy (fun w => rfl) k
theorem Tr.andNot_i64 (hg : guardOk ops sl g = true) (hk : okD c d C.N = true) (hx : evIn sl x = some (i64 a)) (hy : evIn sl y = some (i64 b))
    (k : Tr C ops rest ⟨(d, i64 (andNotI a b)) :: sl, hp⟩ Q) : Tr C ops ((c, ⟨some d, .binOp .andNot xT x y yT, ty, pos, af, g⟩) :: rest) ⟨sl, hp⟩ Q :=
  .bin hg hk hx hy (fun w => rfl) k
theorem wrap_small {n : Int} (h0 : 0 ≤ n) (h : n < 9223372036854775808) : IntKind.i64.wrap n = n := i64_wrap (by omega)
theorem Tr.shl_i64 {ky : IntKind} (hg : guardOk ops sl g = true) (hk : okD c d C.N = true) (hx : evIn sl x = some (i64 1)) (hy : evIn sl y = some (.int ky b)) (n : Nat) (hn : b = n) (hr : n < 63)
    (k : Tr C ops rest ⟨(d, i64 (2 ^ n : Nat)) :: sl, hp⟩ Q) : Tr C ops ((c, ⟨some d, .binOp .shl xT x y yT, ty, pos, af, g⟩) :: rest) ⟨sl, hp⟩ Q :=
  .bin hg hk hx hy (fun w => by
    subst hn
    simp only [binOp, Op.shift, IntKind.bits]
    rw [if_neg (by omega), Int.toNat_natCast, Nat.min_eq_left (by omega)]
    have h2 : (2 : Nat) ^ n < 2 ^ 63 := Nat.pow_lt_pow_right (by decide) hr
    have e : (1 * 2 ^ n : Int) = ((2 ^ n : Nat) : Int) := by simp
    rw [e, wrap_small (Int.natCast_nonneg _) (Int.ofNat_lt.2 (Nat.lt_of_lt_of_eq h2 (by decide)))]; rfl) k
end
theorem or_small : ((List.range 7).all fun k => (List.range (2 ^ k)).all fun p => orI (p : Int) ((2 ^ k : Nat) : Int) == ((p + 2 ^ k : Nat) : Int)) = true := by kernel_rfl
theorem orI_step {k p : Nat} (hk : k < 7) (hp : p < 2 ^ k) : orI (p : Int) ((2 ^ k : Nat) : Int) = ((p + 2 ^ k : Nat) : Int) := by
  have := List.all_eq_true.1 (List.all_eq_true.1 or_small k (List.mem_range.2 hk)) p (List.mem_range.2 hp)
  exact eq_of_beq this
/-- the number of these bits -/
def usedN (bs : List Bool) : Nat → Nat
  | 0 => 0
  | k + 1 => usedN bs k + (if bs.getD k false = true then 2 ^ k else 0)
theorem usedN_lt (bs : List Bool) : ∀ k, usedN bs k < 2 ^ k
  | 0 => by simp [usedN]
  | k + 1 => by
    have := usedN_lt bs k
    simp only [usedN, Nat.pow_succ]
    split <;> omega
theorem usedN_on {bs : List Bool} {k : Nat} (h : bs.getD k false = true) : usedN bs (k + 1) = usedN bs k + 2 ^ k := by simp only [usedN, if_pos h]
theorem usedN_off {bs : List Bool} {k : Nat} (h : bs.getD k false = false) : usedN bs (k + 1) = usedN bs k := by
  simp only [usedN]
  rw [if_neg (by rw [h]; simp), Nat.add_zero]
end Hw
end

section
namespace Go.Proofs.YtejjamifnombhaaGreat
open Go Hw
set_option linter.unusedVariables false
set_option linter.unusedSimpArgs false


def partsL : List Int := [0, 3, 6, 8, 48, 64, 1]
def partsI (k : Int) : Int := if 0 ≤ k ∧ k < 7 then partsL.getD k.toNat 0 else 0
theorem parts_get {k : Int} (h0 : 0 ≤ k) (h7 : k < 7) : ([i64 0, i64 3, i64 6, i64 8, i64 48, i64 64, i64 1] : List Value)[k.toNat]? = some (i64 (partsI k)) := by
  show (intsV partsL)[k.toNat]? = _
  have h : k.toNat < partsL.length := by simp [partsL]; omega
  rw [intsV, List.getElem?_map, List.getElem?_eq_getElem h, partsI, if_pos ⟨h0, h7⟩, List.getD_eq_getElem?_getD, List.getElem?_eq_getElem h]
  rfl
theorem parts_out {k : Int} (h : ¬ (0 ≤ k ∧ k < 7)) : partsI k = 0 := if_neg h
def DMsg.bits (D : DMsg) : List Bool := [!decide ((D.dHeight.toNat : Int) = 0), decide ((0 : Int) < (D.dHeads.length : Int)), decide ((0 : Int) < (D.dWant.length : Int)), decide ((0 : Int) < (D.dBlocks.length : Int)), decide ((0 : Int) < (D.dVotes.length : Int)), decide ((0 : Int) < (D.dCuts.length : Int)), decide ((0 : Int) < (D.dCerts.length : Int))]
def DMsg.used (D : DMsg) : Int := (usedN D.bits 7 : Nat)
/-- the lengths of a message's lists -/
structure MsgIs.lens (m : Msg) (D : DMsg) : Prop where
  heads : m.fHeads.n = D.dHeads.length
  want : m.fWant.n = D.dWant.length
  blocks : m.fBlocks.n = D.dBlocks.length
  votes : m.fVotes.n = D.dVotes.length
  cuts : m.fCuts.n = D.dCuts.length
  certs : m.fCerts.n = D.dCerts.length
theorem MsgIs.len {W : World} {m : Msg} {D : DMsg} (h : MsgIs W m D) : MsgIs.lens m D := by
  obtain ⟨_, h1⟩ := h.fBlocks
  obtain ⟨_, h2⟩ := h.fVotes
  obtain ⟨_, h3⟩ := h.fCuts
  obtain ⟨_, h4⟩ := h.fCerts
  exact ⟨h.fHeads.len.symm, h.fWant.len.symm, h1.nd.symm, h2.nd.symm, h3.nd.symm, h4.nd.symm⟩
def mbits (m : Msg) : List Bool := [!decide ((m.fHeight.toNat : Int) = 0), decide ((0 : Int) < (m.fHeads.n : Int)), decide ((0 : Int) < (m.fWant.n : Int)), decide ((0 : Int) < (m.fBlocks.n : Int)), decide ((0 : Int) < (m.fVotes.n : Int)), decide ((0 : Int) < (m.fCuts.n : Int)), decide ((0 : Int) < (m.fCerts.n : Int))]
theorem mbits_eq {W : World} {m : Msg} {D : DMsg} (h : MsgIs W m D) : mbits m = D.bits := by
  have l := h.len
  simp only [mbits, DMsg.bits, l.heads, l.want, l.blocks, l.votes, l.cuts, l.certs, h.fHeight]
theorem bit_at {bs : List Bool} {l : List Value} {k : Nat} (h : bs.map Value.bool = l) (hk : k < bs.length) : l[k]? = some (.bool (bs.getD k false)) := by
  rw [← h, List.getElem?_map, List.getElem?_eq_getElem hk, List.getD_eq_getElem?_getD, List.getElem?_eq_getElem hk]; rfl


set_option maxRecDepth 100000 in
set_option maxHeartbeats 1000000 in
theorem sync_parts (k : Int) : Meets Tryz.prog 98 [i64 k] [] (fun _ => True) (fun v out => v = i64 (partsI k) ∧ out = []) := by
  intro W hW
  refine calls_of (hp0 := []) Tryz.func98 rfl 14 Tryz.ntmps98 rfl (HRep.nil _) ?_
  refine Sat.seq ?_
  -- region 0
  refine Sat.region ?_
  refine Tr.assign rfl rfl rfl ?_
  refine Tr.nil ?_
  refine at_n ?_
  refine Sat.seq ?_
  -- region 1
  refine Sat.region ?_
  refine Tr.build (cs := [i64 0, i64 3, i64 6, i64 8, i64 48, i64 64, i64 1]) rfl rfl rfl (fun w => by kernel_rfl) ?_
  refine Tr.alloc (cs := (intsV (List.replicate 7 0))) rfl Zr232 rfl ?_
  intro n3 hn3 hf3
  first
    | refine Tr.storeAll rfl rfl rfl rfl (by first | exact bytesV_cell _ | simp [isCell]) Sz232 (by first | assumption | (simp; done) | (rw [bytesV, List.length_map]; assumption)) (by first | exact mem0 | exact mem1 | exact mem2 | exact mem3 | exact mem4 | exact mem5 | exact mem6 | exact mem7 | (repeat (first | exact List.mem_cons_self | refine List.mem_cons_of_mem _ ?_ | refine mem_seg ?_))) (by first | assumption | (simp; done) | (rw [bytesV, List.length_map]; assumption)) (by first | exact upd0 | exact upd1 | exact upd2 | exact upd3 | exact upd4 | exact upd5 | exact upd6 | exact upd7 | (repeat (first | exact upd0 | apply Upd.tail | apply Upd.seg))) ?_
    | refine Tr.storeN _ rfl rfl rfl rfl rfl (by first | exact bytesV_cell _ | simp [isCell]) Sz232 (by first | assumption | (simp; done) | (rw [bytesV, List.length_map]; assumption)) (by first | exact mem0 | exact mem1 | exact mem2 | exact mem3 | exact mem4 | exact mem5 | exact mem6 | exact mem7 | (repeat (first | exact List.mem_cons_self | refine List.mem_cons_of_mem _ ?_ | refine mem_seg ?_))) (by first | assumption | (simp; done) | (rw [bytesV, List.length_map]; assumption)) (by exact rfl) (by first | exact upd0 | exact upd1 | exact upd2 | exact upd3 | exact upd4 | exact upd5 | exact upd6 | exact upd7 | (repeat (first | exact upd0 | apply Upd.tail | apply Upd.seg))) ?_
  refine Tr.nil ?_
  refine at_n ?_
  refine Sat.seq ?_
  refine Sat.seq ?_
  -- region 2
  refine Sat.region ?_
  refine Tr.move rfl rfl rfl ?_
  refine two (fun r hr k => Tr.lss rfl rfl rfl rfl hr k) (fun hs2_10 => ?_) (fun hs2_10 => ?_)
  ·
    first | have hs2_1 := of_decide_eq_true hs2_10 | have hs2_1 := of_decide_eq_false hs2_10 | have hs2_1 := nd_t hs2_10 | have hs2_1 := nd_f hs2_10 | have hs2_1 := hs2_10
    refine Tr.move rfl rfl rfl ?_
    refine Tr.skp rfl rfl ?_
    refine Tr.skp rfl rfl ?_
    refine Tr.pick rfl rfl rfl rfl rfl rfl ?_
    refine Tr.nil ?_
    refine at_n ?_
    refine Sat.cond_t rfl rfl ?_
    refine Sat.seq ?_
    -- region 3
    refine Sat.region ?_
    refine Tr.assign rfl rfl rfl ?_
    refine Tr.nil ?_
    refine at_n ?_
    refine Sat.ret ?_
    refine at_r ?_
    refine en_r ?_
    refine ⟨_, [], res_tmp rfl rfl, (by simp), (by simp), ?_, rfl⟩
    first
      | rfl
      | exact congrArg i64 (parts_out (by omega)).symm
  ·
    first | have hs2_1 := of_decide_eq_true hs2_10 | have hs2_1 := of_decide_eq_false hs2_10 | have hs2_1 := nd_t hs2_10 | have hs2_1 := nd_f hs2_10 | have hs2_1 := hs2_10
    refine Tr.move rfl rfl rfl ?_
    refine Tr.move rfl rfl rfl ?_
    refine Tr.geq rfl rfl rfl rfl rfl ?_
    refine Tr.pick rfl rfl rfl rfl rfl rfl ?_
    refine Tr.nil ?_
    refine at_n ?_
    first
      | refine Sat.condP rfl (fun hc0 => ?_) (fun hc0 => ?_)
      | refine Sat.condNP rfl (fun hc0 => ?_) (fun hc0 => ?_)
      | refine Sat.cond rfl (fun hc0 => ?_) (fun hc0 => ?_)
    ·
      refine Sat.seq ?_
      -- region 3
      refine Sat.region ?_
      refine Tr.assign rfl rfl rfl ?_
      refine Tr.nil ?_
      refine at_n ?_
      refine Sat.ret ?_
      refine at_r ?_
      refine en_r ?_
      refine ⟨_, [], res_tmp rfl rfl, (by simp), (by simp), ?_, rfl⟩
      first
        | rfl
        | exact congrArg i64 (parts_out (by omega)).symm
    ·
      refine Sat.skip ?_
      refine at_n ?_
      refine Sat.seq ?_
      -- region 4
      refine Sat.region ?_
      refine Tr.move rfl rfl rfl ?_
      first
        | refine Tr.idxArr1 rfl rfl rfl rfl Tryz.underlying232 Sz3 k.toNat (by omega) (by omega) ?_
        | refine Tr.idxArrO rfl rfl rfl rfl Tryz.underlying232 Sz3 k.toNat (by omega) (by omega) ?_
      refine Tr.load1 rfl rfl rfl Tryz.underlying3 rfl (by first | exact mem0 | exact mem1 | exact mem2 | exact mem3 | exact mem4 | exact mem5 | exact mem6 | exact mem7 | (repeat (first | exact List.mem_cons_self | refine List.mem_cons_of_mem _ ?_ | refine mem_seg ?_))) (parts_get (by omega) (by omega)) ?_
      refine Tr.assign rfl rfl rfl ?_
      refine Tr.nil ?_
      refine at_n ?_
      refine Sat.ret ?_
      refine en_r ?_
      refine ⟨_, [], res_tmp rfl rfl, (by simp), (by simp), ?_, rfl⟩
      first
        | rfl
        | exact congrArg i64 (parts_out (by omega)).symm

set_option maxRecDepth 100000 in
set_option maxHeartbeats 4000000 in
theorem sync_used (m : Msg) (hm : m.ok) : Meets Tryz.prog 130 [agg m.cells] [] (fun _ => True) (fun v out => v = i64 ((usedN (mbits m) 7 : Nat) : Int) ∧ out = []) := by
  intro W hW
  refine calls_of (hp0 := []) Tryz.func130 rfl 45 Tryz.ntmps130 rfl (HRep.nil _) ?_
  refine Sat.seq ?_
  -- region 0
  refine Sat.region ?_
  refine Tr.boxA rfl rfl ?_
  intro n1 hn1 hf1
  refine Tr.assign rfl rfl rfl ?_
  refine Tr.nil ?_
  refine at_n ?_
  refine Sat.seq ?_
  -- region 1
  refine Sat.region ?_
  refine Tr.assign rfl rfl rfl ?_
  refine Tr.nil ?_
  refine at_n ?_
  refine Sat.seq ?_
  refine Sat.seq ?_
  -- region 2
  refine Sat.region ?_
  refine Tr.fld rfl rfl rfl Tryz.underlying57 rfl Sz48 (by decide) _ rfl ?_
  refine Tr.load1 rfl rfl rfl Tryz.underlying48 rfl (by first | exact mem0 | exact mem1 | exact mem2 | exact mem3 | exact mem4 | exact mem5 | exact mem6 | exact mem7 | (repeat (first | exact List.mem_cons_self | refine List.mem_cons_of_mem _ ?_ | refine mem_seg ?_))) (by first | exact Msg.get_fHeight (by first | assumption | (simp; done) | exact Block.zero_ok | exact Vote.zero_ok | exact Reader.zero_ok | exact Cut.zero_ok | exact Cert.zero_ok | exact Msg.zero_ok | exact Inbox.zero_ok | exact Record.zero_ok | exact Kept.zero_ok  | exact hm) | exact (by first | rfl | exact get_words (by first | omega | (simp; done) | (simp; omega)) | exact get_bytes (by first | omega | (simp; done) | (simp; omega)) | exact get_ints (by first | omega | (simp; done) | (simp; omega)))) ?_
  refine Tr.nei rfl rfl rfl rfl rfl ?_
  refine Tr.fld rfl rfl rfl Tryz.underlying57 rfl Sz51 (by decide) _ rfl ?_
  refine Tr.load1 rfl rfl rfl Tryz.underlying51 rfl (by first | exact mem0 | exact mem1 | exact mem2 | exact mem3 | exact mem4 | exact mem5 | exact mem6 | exact mem7 | (repeat (first | exact List.mem_cons_self | refine List.mem_cons_of_mem _ ?_ | refine mem_seg ?_))) (by first | exact Msg.get_fHeads (by first | assumption | (simp; done) | exact Block.zero_ok | exact Vote.zero_ok | exact Reader.zero_ok | exact Cut.zero_ok | exact Cert.zero_ok | exact Msg.zero_ok | exact Inbox.zero_ok | exact Record.zero_ok | exact Kept.zero_ok  | exact hm) | exact (by first | rfl | exact get_words (by first | omega | (simp; done) | (simp; omega)) | exact get_bytes (by first | omega | (simp; done) | (simp; omega)) | exact get_ints (by first | omega | (simp; done) | (simp; omega)))) ?_
  refine Tr.lenSl rfl rfl rfl Tryz.underlying51 ?_
  refine Tr.gtr rfl rfl rfl rfl rfl ?_
  refine Tr.fld rfl rfl rfl Tryz.underlying57 rfl Sz51 (by decide) _ rfl ?_
  refine Tr.load1 rfl rfl rfl Tryz.underlying51 rfl (by first | exact mem0 | exact mem1 | exact mem2 | exact mem3 | exact mem4 | exact mem5 | exact mem6 | exact mem7 | (repeat (first | exact List.mem_cons_self | refine List.mem_cons_of_mem _ ?_ | refine mem_seg ?_))) (by first | exact Msg.get_fWant (by first | assumption | (simp; done) | exact Block.zero_ok | exact Vote.zero_ok | exact Reader.zero_ok | exact Cut.zero_ok | exact Cert.zero_ok | exact Msg.zero_ok | exact Inbox.zero_ok | exact Record.zero_ok | exact Kept.zero_ok  | exact hm) | exact (by first | rfl | exact get_words (by first | omega | (simp; done) | (simp; omega)) | exact get_bytes (by first | omega | (simp; done) | (simp; omega)) | exact get_ints (by first | omega | (simp; done) | (simp; omega)))) ?_
  refine Tr.lenSl rfl rfl rfl Tryz.underlying51 ?_
  refine Tr.gtr rfl rfl rfl rfl rfl ?_
  refine Tr.fld rfl rfl rfl Tryz.underlying57 rfl Sz22 (by decide) _ rfl ?_
  refine Tr.load1 rfl rfl rfl Tryz.underlying22 rfl (by first | exact mem0 | exact mem1 | exact mem2 | exact mem3 | exact mem4 | exact mem5 | exact mem6 | exact mem7 | (repeat (first | exact List.mem_cons_self | refine List.mem_cons_of_mem _ ?_ | refine mem_seg ?_))) (by first | exact Msg.get_fBlocks (by first | assumption | (simp; done) | exact Block.zero_ok | exact Vote.zero_ok | exact Reader.zero_ok | exact Cut.zero_ok | exact Cert.zero_ok | exact Msg.zero_ok | exact Inbox.zero_ok | exact Record.zero_ok | exact Kept.zero_ok  | exact hm) | exact (by first | rfl | exact get_words (by first | omega | (simp; done) | (simp; omega)) | exact get_bytes (by first | omega | (simp; done) | (simp; omega)) | exact get_ints (by first | omega | (simp; done) | (simp; omega)))) ?_
  refine Tr.lenSl rfl rfl rfl Tryz.underlying22 ?_
  refine Tr.gtr rfl rfl rfl rfl rfl ?_
  refine Tr.fld rfl rfl rfl Tryz.underlying57 rfl Sz24 (by decide) _ rfl ?_
  refine Tr.load1 rfl rfl rfl Tryz.underlying24 rfl (by first | exact mem0 | exact mem1 | exact mem2 | exact mem3 | exact mem4 | exact mem5 | exact mem6 | exact mem7 | (repeat (first | exact List.mem_cons_self | refine List.mem_cons_of_mem _ ?_ | refine mem_seg ?_))) (by first | exact Msg.get_fVotes (by first | assumption | (simp; done) | exact Block.zero_ok | exact Vote.zero_ok | exact Reader.zero_ok | exact Cut.zero_ok | exact Cert.zero_ok | exact Msg.zero_ok | exact Inbox.zero_ok | exact Record.zero_ok | exact Kept.zero_ok  | exact hm) | exact (by first | rfl | exact get_words (by first | omega | (simp; done) | (simp; omega)) | exact get_bytes (by first | omega | (simp; done) | (simp; omega)) | exact get_ints (by first | omega | (simp; done) | (simp; omega)))) ?_
  refine Tr.lenSl rfl rfl rfl Tryz.underlying24 ?_
  refine Tr.gtr rfl rfl rfl rfl rfl ?_
  refine Tr.fld rfl rfl rfl Tryz.underlying57 rfl Sz25 (by decide) _ rfl ?_
  refine Tr.load1 rfl rfl rfl Tryz.underlying25 rfl (by first | exact mem0 | exact mem1 | exact mem2 | exact mem3 | exact mem4 | exact mem5 | exact mem6 | exact mem7 | (repeat (first | exact List.mem_cons_self | refine List.mem_cons_of_mem _ ?_ | refine mem_seg ?_))) (by first | exact Msg.get_fCuts (by first | assumption | (simp; done) | exact Block.zero_ok | exact Vote.zero_ok | exact Reader.zero_ok | exact Cut.zero_ok | exact Cert.zero_ok | exact Msg.zero_ok | exact Inbox.zero_ok | exact Record.zero_ok | exact Kept.zero_ok  | exact hm) | exact (by first | rfl | exact get_words (by first | omega | (simp; done) | (simp; omega)) | exact get_bytes (by first | omega | (simp; done) | (simp; omega)) | exact get_ints (by first | omega | (simp; done) | (simp; omega)))) ?_
  refine Tr.lenSl rfl rfl rfl Tryz.underlying25 ?_
  refine Tr.gtr rfl rfl rfl rfl rfl ?_
  refine Tr.fld rfl rfl rfl Tryz.underlying57 rfl Sz23 (by decide) _ rfl ?_
  refine Tr.load1 rfl rfl rfl Tryz.underlying23 rfl (by first | exact mem0 | exact mem1 | exact mem2 | exact mem3 | exact mem4 | exact mem5 | exact mem6 | exact mem7 | (repeat (first | exact List.mem_cons_self | refine List.mem_cons_of_mem _ ?_ | refine mem_seg ?_))) (by first | exact Msg.get_fCerts (by first | assumption | (simp; done) | exact Block.zero_ok | exact Vote.zero_ok | exact Reader.zero_ok | exact Cut.zero_ok | exact Cert.zero_ok | exact Msg.zero_ok | exact Inbox.zero_ok | exact Record.zero_ok | exact Kept.zero_ok  | exact hm) | exact (by first | rfl | exact get_words (by first | omega | (simp; done) | (simp; omega)) | exact get_bytes (by first | omega | (simp; done) | (simp; omega)) | exact get_ints (by first | omega | (simp; done) | (simp; omega)))) ?_
  refine Tr.lenSl rfl rfl rfl Tryz.underlying23 ?_
  refine Tr.gtr rfl rfl rfl rfl rfl ?_
  refine Tr.build (cs := (mbits m).map Value.bool) rfl rfl rfl (fun w => by kernel_rfl) ?_
  refine Tr.move rfl rfl rfl ?_
  refine Tr.nil ?_
  refine at_n ?_
  refine Sat.block ?_
  refine Sat.loop (ι := Nat) (fun k => ⟨[(3, i64 ((usedN (mbits m) k : Nat) : Int)), (33, agg ((mbits m).map Value.bool)), (34, i64 (k : Int))], []⟩) (fun k => k ≤ 7) (fun k => 7 - k) (0) ?_ ?_ ?_
  · exact Nat.zero_le _
  · exact weak_of (wk1 rfl (wk1 rfl (wk1 rfl wk0))) wh0 (by repeat (first | exact ns_nil | refine ns_keep rfl ?_ | refine ns_skip ?_))
  ·
    rintro k hk
    refine Sat.seq ?_
    -- region 3
    refine Sat.region ?_
    refine Tr.lss rfl rfl rfl rfl rfl ?_
    refine Tr.nil ?_
    refine at_n ?_
    refine Sat.seq ?_
    first
      | refine Sat.condP rfl (fun hc0 => ?_) (fun hc0 => ?_)
      | refine Sat.condNP rfl (fun hc0 => ?_) (fun hc0 => ?_)
      | refine Sat.cond rfl (fun hc0 => ?_) (fun hc0 => ?_)
    ·
      refine Sat.skip ?_
      refine at_n ?_
      refine Sat.seq ?_
      refine Sat.block ?_
      refine Sat.seq ?_
      -- region 4
      refine Sat.region ?_
      refine Tr.move rfl rfl rfl ?_
      refine Tr.idxA1 rfl rfl rfl rfl Tryz.underlying248 Sz4 Tryz.underlying4 rfl k rfl (by omega) (bit_at rfl (by simp [mbits]; omega)) ?_
      refine Tr.assign rfl rfl rfl ?_
      refine Tr.assign rfl rfl rfl ?_
      refine Tr.nil ?_
      refine at_n ?_
      refine Sat.seq ?_
      -- region 5
      refine Sat.region ?_
      refine Tr.move rfl rfl rfl ?_
      refine Tr.nil ?_
      refine at_n ?_
      refine Sat.cond rfl (fun hc1 => ?_) (fun hc1 => ?_)
      ·
        -- region 6
        refine Sat.region ?_
        refine Tr.move rfl rfl rfl ?_
        refine Tr.move rfl rfl rfl ?_
        refine Tr.shl_i64 rfl rfl rfl rfl k rfl (by omega) ?_
        refine Tr.or_i64 rfl rfl rfl rfl ?_
        refine Tr.assign rfl rfl rfl ?_
        refine Tr.nil ?_
        refine bl_n ?_
        refine at_n ?_
        -- region 7
        refine Sat.region ?_
        refine Tr.add_i64 rfl rfl rfl rfl (by omega) ?_
        refine Tr.move rfl rfl rfl ?_
        refine Tr.nil ?_
        refine at_n ?_
        exact ⟨k + 1, by omega, by omega, by first | (rw [usedN_on hc1, orI_step (by omega) (usedN_lt _ _)]; exact weak_of (wk1 rfl (wk1 rfl (wk1 rfl wk0))) wh0 (by repeat (first | exact ns_nil | refine ns_keep rfl ?_ | refine ns_skip ?_))) | (rw [usedN_off (by simpa using hc1)]; exact weak_of (wk1 rfl (wk1 rfl (wk1 rfl wk0))) wh0 (by repeat (first | exact ns_nil | refine ns_keep rfl ?_ | refine ns_skip ?_)))⟩
      ·
        refine Sat.skip ?_
        refine bl_n ?_
        refine at_n ?_
        -- region 7
        refine Sat.region ?_
        refine Tr.add_i64 rfl rfl rfl rfl (by omega) ?_
        refine Tr.move rfl rfl rfl ?_
        refine Tr.nil ?_
        refine at_n ?_
        exact ⟨k + 1, by omega, by omega, by first | (rw [usedN_on hc1, orI_step (by omega) (usedN_lt _ _)]; exact weak_of (wk1 rfl (wk1 rfl (wk1 rfl wk0))) wh0 (by repeat (first | exact ns_nil | refine ns_keep rfl ?_ | refine ns_skip ?_))) | (rw [usedN_off (by simpa using hc1)]; exact weak_of (wk1 rfl (wk1 rfl (wk1 rfl wk0))) wh0 (by repeat (first | exact ns_nil | refine ns_keep rfl ?_ | refine ns_skip ?_)))⟩
    ·
      obtain rfl : k = 7 := by omega
      refine Sat.exit ?_
      refine at_x ?_
      refine at_x ?_
      refine bl_h ?_
      refine at_n ?_
      refine Sat.seq ?_
      -- region 8
      refine Sat.region ?_
      refine Tr.move rfl rfl rfl ?_
      refine Tr.assign rfl rfl rfl ?_
      refine Tr.nil ?_
      refine at_n ?_
      refine Sat.ret ?_
      refine en_r ?_
      refine ⟨_, [], res_tmp rfl rfl, (by simp), (by simp), ?_, rfl⟩
      rfl

end Go.Proofs.YtejjamifnombhaaGreat
end
