/- Contracts of functions of the loaded program, and the lemmas that they need (part 4). It proves no statement by itself; it has no conditions. -/
import Derived.WalkKit
import Derived.Orders
import Derived.Deep.LoopGhost
import Derived.IntWalk
import Derived.Laws.StructEq
import Derived.ArgAppend
import Derived.Deep.AppendSrc
import Derived.Lib.Bytealg
import Derived.Lib.BytesEntry
import Derived.Laws.IdiomStrings
import Derived.WideKeyArr2
import Derived.ProofKit
import Derived.OpenShut
import Derived.Deep.Slices
import Derived.Laws.Pointers
import Derived.Laws.Cover3
import Derived.LaidEqlPtr
import Derived.LoopN
import Derived.RangeFuncLeaves
import Derived.RangeFuncSeq
import Derived.OrdersIn
import Derived.Test.YtejjamifnombhaaRows
import Derived.KernelRfl
import Derived.Laws.Externs
import Derived.ChangeOld
import Derived.Below
import Derived.Test.YtejjamifnombhaaFieldsC3
section
namespace Go.Proofs.Ytejjamifnombhaa
open Go Hw
set_option linter.unusedVariables false
set_option linter.unusedSimpArgs false

set_option maxRecDepth 100000 in
set_option maxHeartbeats 1000000 in
theorem all_cert_1 (x : Cert) (d : DCert) (q : Nat) : Meets Try.prog 113 [agg x.cells, ptr q 0] [] (fun W => CertIs W x d ∧ W.cell? ⟨q, 0, none⟩ = some (.func (.func 58) #[] #[])) (fun v out => v = .bool (!decide (d.check = 0)) ∧ out = []) := by
  intro W hW
  refine calls_of (hp0 := []) Try.func113 rfl 8 Try.ntmps113 rfl (HRep.nil _) ?_
  refine Sat.seq ?_
  -- region 0
  refine Sat.region ?_
  refine Tr.boxA rfl rfl ?_
  intro n2 hn2 hf2
  refine Tr.assign rfl rfl rfl ?_
  refine Tr.nil ?_
  refine at_n ?_
  refine Sat.seq ?_
  -- region 1
  refine Sat.region ?_
  refine Tr.loadE rfl rfl rfl Try.underlying111 rfl (by first | (simp; done) | (simp; exact hW.2.2) | (simp [Cx.with]; omega)) (hW.2) ?_
  refine Tr.loadAll rfl rfl rfl Try.underlying70 rfl Sz70 (by first | exact mem0 | exact mem1 | exact mem2 | exact mem3 | exact mem4 | exact mem5 | exact mem6 | exact mem7 | (repeat (first | exact List.mem_cons_self | refine List.mem_cons_of_mem _ ?_ | refine mem_seg ?_))) (Cert.length (by first | assumption | (simp; done) | exact Block.zero_ok | exact Vote.zero_ok | exact Reader.zero_ok | exact Cut.zero_ok | exact Cert.zero_ok | exact Msg.zero_ok | exact Inbox.zero_ok | exact Record.zero_ok | exact Kept.zero_ok  | exact hW.1.ok)) ?_
  refine Tr.callV rfl rfl rfl rfl Body58 (cert_check x d) (fun w h => hW.1.ext h rfl) ?_
  refine Tr.nei rfl rfl rfl rfl rfl ?_
  refine Tr.assign rfl rfl rfl ?_
  refine Tr.nil ?_
  refine at_n ?_
  refine Sat.ret ?_
  refine en_r ?_
  refine ⟨_, [], res_tmp rfl rfl, (by simp), (by simp), ?_, rfl⟩
  first
    | rfl
    | simp

set_option maxRecDepth 100000 in
set_option maxHeartbeats 1000000 in
theorem index_cert (s : Sl) (ds : List DCert) (q : Nat) : Meets Try.prog 145 [s.v, .func (.func 113) #[] #[ptr q 0]] [] (fun W => CertsAt W s ds ∧ W.cell? ⟨q, 0, none⟩ = some (.func (.func 58) #[] #[])) (fun v out => v = i64 (fstBad (fun d : DCert => !decide (d.check = 0)) ds) ∧ out = []) := by
  intro W hW
  obtain ⟨⟨rs, hs⟩, hq⟩ := hW
  have hmax := hs.max
  simp only [maxLen] at hmax
  have hcap := hs.cap
  refine calls_of (hp0 := []) Try.func145 rfl 19 Try.ntmps145 rfl (HRep.nil _) ?_
  refine Sat.seq ?_
  -- region 0
  refine Sat.region ?_
  refine Tr.assign rfl rfl rfl ?_
  refine Tr.nil ?_
  refine at_n ?_
  refine Sat.seq ?_
  refine Sat.seq ?_
  -- region 1
  refine Sat.region ?_
  refine Tr.move rfl rfl rfl ?_
  refine Tr.lenSl rfl rfl rfl Try.underlying47 ?_
  refine Tr.move rfl rfl rfl ?_
  refine Tr.nil ?_
  refine at_n ?_
  refine Sat.block ?_
  refine Sat.loop (ι := Nat) (fun k => ⟨[(0, s.v), (1, .func (.func 113) #[] #[ptr q 0]), (7, i64 (s.n : Int)), (8, i64 (k : Int))], []⟩) (fun k => k ≤ s.n ∧ ∀ j, j < k → (ds.map (fun d : DCert => !decide (d.check = 0)))[j]? = some false) (fun k => s.n - k) (0) ?_ ?_ ?_
  · exact ⟨by omega, fun j hj => by omega⟩
  · exact weak_of (wk1 rfl (wk1 rfl (wk1 rfl (wk1 rfl wk0)))) wh0 (by repeat (first | exact ns_nil | refine ns_keep rfl ?_ | refine ns_skip ?_))
  ·
    rintro k ⟨hk, hg⟩
    refine Sat.seq ?_
    -- region 2
    refine Sat.region ?_
    refine Tr.lss rfl rfl rfl rfl rfl ?_
    refine Tr.nil ?_
    refine at_n ?_
    refine Sat.seq ?_
    first
      | refine Sat.condP rfl (fun hc0 => ?_) (fun hc0 => ?_)
      | refine Sat.condNP rfl (fun hc0 => ?_) (fun hc0 => ?_)
      | refine Sat.cond rfl (fun hc0 => ?_) (fun hc0 => ?_)
    ·
      have hk2 : k < s.n := by omega
      obtain ⟨b, o, r, d, hsp, hr, hd, his, hlen, hsee⟩ := hs.at (by decide) hk2
      refine Sat.skip ?_
      refine at_n ?_
      refine Sat.seq ?_
      refine Sat.block ?_
      refine Sat.seq ?_
      -- region 3
      refine Sat.region ?_
      refine Tr.move rfl rfl rfl ?_
      refine Tr.assign rfl rfl rfl ?_
      refine Tr.nil ?_
      refine at_n ?_
      refine Sat.seq ?_
      -- region 4
      refine Sat.region ?_
      refine Tr.move rfl rfl rfl ?_
      refine Tr.move rfl rfl rfl ?_
      refine Tr.move rfl rfl rfl ?_
      refine Tr.idxSlP 35 rfl rfl rfl hsp rfl Try.underlying47 Sz70 k (by omega) (by omega) ?_
      refine Tr.loadEN r.cells rfl rfl rfl Try.underlying70 rfl Sz70 (by simp) hlen hsee ?_
      refine Tr.callCV rfl rfl rfl rfl rfl Body113 (all_cert_1 r d q) (fun w h => ⟨his.ext h rfl, h.keeps.cell (by simp) hq⟩) ?_
      refine Tr.nil ?_
      refine at_n ?_
      first
        | refine Sat.condP rfl (fun hc1 => ?_) (fun hc1 => ?_)
        | refine Sat.condNP rfl (fun hc1 => ?_) (fun hc1 => ?_)
        | refine Sat.cond rfl (fun hc1 => ?_) (fun hc1 => ?_)
      ·
        refine Sat.seq ?_
        -- region 5
        refine Sat.region ?_
        refine Tr.move rfl rfl rfl ?_
        refine Tr.assign rfl rfl rfl ?_
        refine Tr.nil ?_
        refine at_n ?_
        refine Sat.ret ?_
        refine bl_r ?_
        refine at_r ?_
        refine at_r ?_
        refine bl_r ?_
        refine at_r ?_
        refine en_r ?_
        refine ⟨_, [], res_tmp rfl rfl, (by simp), (by simp), ?_, rfl⟩
        first
          | exact congrArg i64 (fstBad_none (by intro j hj; exact hg j (by rw [hs.nd] at hj; exact hj))).symm
          | exact congrArg i64 (fstBad_at hg (by rw [List.getElem?_map, hd]; simpa using hc1)).symm
      ·
        refine Sat.skip ?_
        refine bl_n ?_
        refine at_n ?_
        -- region 6
        refine Sat.region ?_
        refine Tr.add_i64 rfl rfl rfl rfl (by omega) ?_
        refine Tr.move rfl rfl rfl ?_
        refine Tr.nil ?_
        refine at_n ?_
        exact ⟨k + 1, ⟨by omega, fun j hj => by rcases Nat.lt_succ_iff_lt_or_eq.1 hj with h | rfl; exact hg j h; rw [List.getElem?_map, hd]; simpa using hc1⟩, by omega, weak_of (wk1 rfl (wk1 rfl (wk1 rfl (wk1 rfl wk0)))) wh0 (by repeat (first | exact ns_nil | refine ns_keep rfl ?_ | refine ns_skip ?_))⟩
    ·
      obtain rfl : k = s.n := by omega
      refine Sat.exit ?_
      refine at_x ?_
      refine at_x ?_
      refine bl_h ?_
      refine at_n ?_
      refine Sat.seq ?_
      -- region 7
      refine Sat.region ?_
      refine Tr.assign rfl rfl rfl ?_
      refine Tr.nil ?_
      refine at_n ?_
      refine Sat.ret ?_
      refine en_r ?_
      refine ⟨_, [], res_tmp rfl rfl, (by simp), (by simp), ?_, rfl⟩
      first
        | exact congrArg i64 (fstBad_none (by intro j hj; exact hg j (by rw [hs.nd] at hj; exact hj))).symm
        | exact congrArg i64 (fstBad_at hg (by rw [List.getElem?_map, hd]; simpa using hc1)).symm

set_option maxRecDepth 100000 in
set_option maxHeartbeats 1000000 in
theorem contains_cert (s : Sl) (ds : List DCert) (q : Nat) : Meets Try.prog 112 [s.v, .func (.func 113) #[] #[ptr q 0]] [] (fun W => CertsAt W s ds ∧ W.cell? ⟨q, 0, none⟩ = some (.func (.func 58) #[] #[])) (fun v out => v = .bool (ds.any (fun d : DCert => !decide (d.check = 0))) ∧ out = []) := by
  intro W hW
  refine calls_of (hp0 := []) Try.func112 rfl 9 Try.ntmps112 rfl (HRep.nil _) ?_
  refine Sat.seq ?_
  -- region 0
  refine Sat.region ?_
  refine Tr.assign rfl rfl rfl ?_
  refine Tr.nil ?_
  refine at_n ?_
  refine Sat.seq ?_
  -- region 1
  refine Sat.region ?_
  refine Tr.move rfl rfl rfl ?_
  refine Tr.move rfl rfl rfl ?_
  refine Tr.callV rfl rfl rfl rfl Body145 (index_cert s ds q) (fun w h => ⟨Certs_ext h rfl hW.1, h.keeps.cell (by simp) hW.2⟩) ?_
  refine Tr.geq rfl rfl rfl rfl rfl ?_
  refine Tr.assign rfl rfl rfl ?_
  refine Tr.nil ?_
  refine at_n ?_
  refine Sat.ret ?_
  refine en_r ?_
  refine ⟨_, [], res_tmp rfl rfl, (by simp), (by simp), ?_, rfl⟩
  exact congrArg Value.bool (fstBad_ge _ _)

set_option maxRecDepth 100000 in
set_option maxHeartbeats 1000000 in
theorem all_cert (s : Sl) (ds : List DCert) : Meets Try.prog 57 [s.v, .func (.func 58) #[] #[]] [] (fun W => CertsAt W s ds) (fun v out => v = .bool (ds.all fun d => decide (d.check = 0)) ∧ out = []) := by
  intro W hW
  refine calls_of (hp0 := []) Try.func57 rfl 9 Try.ntmps57 rfl (HRep.nil _) ?_
  refine Sat.seq ?_
  -- region 0
  refine Sat.region ?_
  refine Tr.box1 rfl rfl rfl ?_
  intro n3 hn3 hf3
  refine Tr.assign rfl rfl rfl ?_
  refine Tr.nil ?_
  refine at_n ?_
  refine Sat.seq ?_
  -- region 1
  refine Sat.region ?_
  refine Tr.move rfl rfl rfl ?_
  refine Tr.makeFunc rfl rfl rfl rfl ?_
  refine Tr.callV rfl rfl rfl rfl Body112 (contains_cert s ds n3) (fun w h => ⟨Certs_ext h rfl hW, (own_blk h (by first | exact mem0 | exact mem1 | exact mem2 | exact mem3 | exact mem4 | exact mem5 | exact mem6 | exact mem7 | (repeat (first | exact List.mem_cons_self | refine List.mem_cons_of_mem _ ?_ | refine mem_seg ?_)))).cell (o := 0) rfl⟩) ?_
  refine Tr.not rfl rfl rfl ?_
  refine Tr.assign rfl rfl rfl ?_
  refine Tr.nil ?_
  refine at_n ?_
  refine Sat.ret ?_
  refine en_r ?_
  refine ⟨_, [], res_tmp rfl rfl, (by simp), (by simp), ?_, rfl⟩
  exact congrArg Value.bool (any_all _ _)


/-- what is wrong with a message -/
def DMsg.bad (D : DMsg) : Prop := partsI D.dKind = 0 ∨ (4294967295 : Int) < (D.dHeight.toNat : Int) ∨ ¬ andNotI D.used (partsI D.dKind) = 0 ∨ (32 : Int) < (D.dHeads.length : Int) ∨ (32 : Int) < (D.dWant.length : Int) ∨ (8 : Int) < (D.dBlocks.length : Int) ∨ (20 : Int) < (D.dVotes.length : Int) ∨ (4 : Int) < (D.dCuts.length : Int) ∨ (2 : Int) < (D.dCerts.length : Int) ∨ (¬ D.dKind = 1 ∧ ¬ D.dKind = 2 ∧ D.used = 0) ∨
  ¬ (D.dBlocks.all fun d => decide (d.check = 0)) = true ∨ ¬ (D.dVotes.all fun d => decide (vcheck d = 0)) = true ∨ ¬ (D.dCuts.all fun d => decide (d.check = 0)) = true ∨ ¬ (D.dCerts.all fun d => decide (d.check = 0)) = true
open Classical in
noncomputable def DMsg.check (D : DMsg) : Int := if D.bad then 2 else 0
theorem msg_bad {D : DMsg} (h : D.bad) : D.check = 2 := if_pos h
theorem msg_good {D : DMsg} (h : ¬ D.bad) : D.check = 0 := if_neg h


set_option maxRecDepth 100000 in
set_option maxHeartbeats 4000000 in
theorem msg_check (m : Msg) (D : DMsg) : Meets Try.prog 18 [agg m.cells] [] (fun W => MsgIs W m D) (fun v out => v = i64 D.check ∧ out = []) := by
  intro W hW
  have hok := hW.ok
  have hl := hW.len
  have hbits := mbits_eq hW
  have hu : ((usedN (mbits m) 7 : Nat) : Int) = D.used := by rw [hbits]; rfl
  have eK := hW.fKind
  have eH := hW.fHeight
  refine calls_of (hp0 := []) Try.func18 rfl 90 Try.ntmps18 rfl (HRep.nil _) ?_
  refine Sat.seq ?_
  -- region 0
  refine Sat.region ?_
  refine Tr.boxA rfl rfl ?_
  intro n1 hn1 hf1
  refine Tr.assign rfl rfl rfl ?_
  refine Tr.nil ?_
  refine at_n ?_
  refine Sat.seq ?_
  -- region 1
  refine Sat.region ?_
  refine Tr.fld rfl rfl rfl Try.underlying49 rfl Sz3 (by decide) _ rfl ?_
  refine Tr.load1 rfl rfl rfl Try.underlying3 rfl (by first | exact mem0 | exact mem1 | exact mem2 | exact mem3 | exact mem4 | exact mem5 | exact mem6 | exact mem7 | (repeat (first | exact List.mem_cons_self | refine List.mem_cons_of_mem _ ?_ | refine mem_seg ?_))) (by first | exact Msg.get_fKind (by first | assumption | (simp; done) | exact Block.zero_ok | exact Vote.zero_ok | exact Reader.zero_ok | exact Cut.zero_ok | exact Cert.zero_ok | exact Msg.zero_ok | exact Inbox.zero_ok | exact Record.zero_ok | exact Kept.zero_ok  | exact hok) | exact (by first | rfl | exact get_words (by first | omega | (simp; done) | (simp; omega)) | exact get_bytes (by first | omega | (simp; done) | (simp; omega)) | exact get_ints (by first | omega | (simp; done) | (simp; omega)))) ?_
  refine Tr.callV rfl rfl rfl rfl Body50 (sync_parts m.fKind) (fun _ _ => trivial) ?_
  refine Tr.assign rfl rfl rfl ?_
  refine Tr.nil ?_
  refine at_n ?_
  refine Sat.seq ?_
  refine Sat.seq ?_
  -- region 2
  refine Sat.region ?_
  refine Tr.move rfl rfl rfl ?_
  refine two (fun r hr k => Tr.eqi rfl rfl rfl rfl hr k) (fun hs2_10 => ?_) (fun hs2_10 => ?_)
  ·
    first | have hs2_1 := of_decide_eq_true hs2_10 | have hs2_1 := of_decide_eq_false hs2_10 | have hs2_1 := nd_t hs2_10 | have hs2_1 := nd_f hs2_10 | have hs2_1 := hs2_10
    refine Tr.move rfl rfl rfl ?_
    refine Tr.skp rfl rfl ?_
    refine Tr.skp rfl rfl ?_
    refine Tr.skp rfl rfl ?_
    refine Tr.pick rfl rfl rfl rfl rfl rfl ?_
    refine Tr.move rfl rfl rfl ?_
    refine Tr.skp rfl rfl ?_
    refine Tr.skp rfl rfl ?_
    refine Tr.skp rfl rfl ?_
    refine Tr.skp rfl rfl ?_
    refine Tr.skp rfl rfl ?_
    refine Tr.pick rfl rfl rfl rfl rfl rfl ?_
    refine Tr.nil ?_
    refine at_n ?_
    refine Sat.cond_t rfl rfl ?_
    refine Sat.seq ?_
    -- region 3
    refine Sat.region ?_
    refine Tr.assign rfl rfl rfl ?_
    refine Tr.nil ?_
    refine at_n ?_
    refine Sat.ret ?_
    refine at_r ?_
    refine en_r ?_
    refine ⟨_, [], res_tmp rfl rfl, (by simp), (by simp), ?_, rfl⟩
    first
      | exact congrArg i64 (msg_bad (by
          simp only [DMsg.bad, ← eK, ← eH, ← hu, ← hl.heads, ← hl.want, ← hl.blocks, ← hl.votes, ← hl.cuts, ← hl.certs]
          first
            | exact .inl (‹_›)
            | exact .inr (.inl (‹_›))
            | exact .inr (.inr (.inl (‹_›)))
            | exact .inr (.inr (.inr (.inl (‹_›))))
            | exact .inr (.inr (.inr (.inr (.inl (‹_›)))))
            | exact .inr (.inr (.inr (.inr (.inr (.inl (‹_›))))))
            | exact .inr (.inr (.inr (.inr (.inr (.inr (.inl (‹_›)))))))
            | exact .inr (.inr (.inr (.inr (.inr (.inr (.inr (.inl (‹_›))))))))
            | exact .inr (.inr (.inr (.inr (.inr (.inr (.inr (.inr (.inl (‹_›)))))))))
            | exact .inr (.inr (.inr (.inr (.inr (.inr (.inr (.inr (.inr (.inl (⟨‹_›, ‹_›, ‹_›⟩))))))))))
            | exact .inr (.inr (.inr (.inr (.inr (.inr (.inr (.inr (.inr (.inl (⟨by omega, by omega, by omega⟩))))))))))
            | exact .inr (.inr (.inr (.inr (.inr (.inr (.inr (.inr (.inr (.inr (.inl (‹_›)))))))))))
            | exact .inr (.inr (.inr (.inr (.inr (.inr (.inr (.inr (.inr (.inr (.inr (.inl (‹_›))))))))))))
            | exact .inr (.inr (.inr (.inr (.inr (.inr (.inr (.inr (.inr (.inr (.inr (.inr (.inl (‹_›)))))))))))))
            | exact .inr (.inr (.inr (.inr (.inr (.inr (.inr (.inr (.inr (.inr (.inr (.inr (.inr (‹_›)))))))))))))
            | exact .inr (.inr (.inr (.inr (.inr (.inr (.inr (.inr (.inr (.inr (.inl (fun e => Bool.noConfusion (hs8_2.symm.trans e))))))))))))
            | exact .inr (.inr (.inr (.inr (.inr (.inr (.inr (.inr (.inr (.inr (.inr (.inl (fun e => Bool.noConfusion (hs8_7.symm.trans e)))))))))))))
            | exact .inr (.inr (.inr (.inr (.inr (.inr (.inr (.inr (.inr (.inr (.inr (.inr (.inl (fun e => Bool.noConfusion (hs8_13.symm.trans e)))))))))))))))).symm
      | exact congrArg i64 (msg_good (by
          simp only [DMsg.bad, ← eK, ← eH, ← hu, ← hl.heads, ← hl.want, ← hl.blocks, ← hl.votes, ← hl.cuts, ← hl.certs]
          rintro (h | h | h | h | h | h | h | h | h | h | h | h | h | h)
          all_goals first | exact h ‹_› | omega | (simp_all; done))).symm
  ·
    first | have hs2_1 := of_decide_eq_true hs2_10 | have hs2_1 := of_decide_eq_false hs2_10 | have hs2_1 := nd_t hs2_10 | have hs2_1 := nd_f hs2_10 | have hs2_1 := hs2_10
    refine Tr.move rfl rfl rfl ?_
    refine Tr.fld rfl rfl rfl Try.underlying49 rfl Sz24 (by decide) _ rfl ?_
    refine Tr.load1 rfl rfl rfl Try.underlying24 rfl (by first | exact mem0 | exact mem1 | exact mem2 | exact mem3 | exact mem4 | exact mem5 | exact mem6 | exact mem7 | (repeat (first | exact List.mem_cons_self | refine List.mem_cons_of_mem _ ?_ | refine mem_seg ?_))) (by first | exact Msg.get_fHeight (by first | assumption | (simp; done) | exact Block.zero_ok | exact Vote.zero_ok | exact Reader.zero_ok | exact Cut.zero_ok | exact Cert.zero_ok | exact Msg.zero_ok | exact Inbox.zero_ok | exact Record.zero_ok | exact Kept.zero_ok  | exact hok) | exact (by first | rfl | exact get_words (by first | omega | (simp; done) | (simp; omega)) | exact get_bytes (by first | omega | (simp; done) | (simp; omega)) | exact get_ints (by first | omega | (simp; done) | (simp; omega)))) ?_
    refine two (fun r hr k => Tr.gtr rfl rfl rfl rfl hr k) (fun hs2_50 => ?_) (fun hs2_50 => ?_)
    ·
      first | have hs2_5 := of_decide_eq_true hs2_50 | have hs2_5 := of_decide_eq_false hs2_50 | have hs2_5 := nd_t hs2_50 | have hs2_5 := nd_f hs2_50 | have hs2_5 := hs2_50
      refine Tr.pick rfl rfl rfl rfl rfl rfl ?_
      refine Tr.move rfl rfl rfl ?_
      refine Tr.skp rfl rfl ?_
      refine Tr.skp rfl rfl ?_
      refine Tr.skp rfl rfl ?_
      refine Tr.skp rfl rfl ?_
      refine Tr.skp rfl rfl ?_
      refine Tr.pick rfl rfl rfl rfl rfl rfl ?_
      refine Tr.nil ?_
      refine at_n ?_
      refine Sat.cond_t rfl rfl ?_
      refine Sat.seq ?_
      -- region 3
      refine Sat.region ?_
      refine Tr.assign rfl rfl rfl ?_
      refine Tr.nil ?_
      refine at_n ?_
      refine Sat.ret ?_
      refine at_r ?_
      refine en_r ?_
      refine ⟨_, [], res_tmp rfl rfl, (by simp), (by simp), ?_, rfl⟩
      first
        | exact congrArg i64 (msg_bad (by
            simp only [DMsg.bad, ← eK, ← eH, ← hu, ← hl.heads, ← hl.want, ← hl.blocks, ← hl.votes, ← hl.cuts, ← hl.certs]
            first
              | exact .inl (‹_›)
              | exact .inr (.inl (‹_›))
              | exact .inr (.inr (.inl (‹_›)))
              | exact .inr (.inr (.inr (.inl (‹_›))))
              | exact .inr (.inr (.inr (.inr (.inl (‹_›)))))
              | exact .inr (.inr (.inr (.inr (.inr (.inl (‹_›))))))
              | exact .inr (.inr (.inr (.inr (.inr (.inr (.inl (‹_›)))))))
              | exact .inr (.inr (.inr (.inr (.inr (.inr (.inr (.inl (‹_›))))))))
              | exact .inr (.inr (.inr (.inr (.inr (.inr (.inr (.inr (.inl (‹_›)))))))))
              | exact .inr (.inr (.inr (.inr (.inr (.inr (.inr (.inr (.inr (.inl (⟨‹_›, ‹_›, ‹_›⟩))))))))))
              | exact .inr (.inr (.inr (.inr (.inr (.inr (.inr (.inr (.inr (.inl (⟨by omega, by omega, by omega⟩))))))))))
              | exact .inr (.inr (.inr (.inr (.inr (.inr (.inr (.inr (.inr (.inr (.inl (‹_›)))))))))))
              | exact .inr (.inr (.inr (.inr (.inr (.inr (.inr (.inr (.inr (.inr (.inr (.inl (‹_›))))))))))))
              | exact .inr (.inr (.inr (.inr (.inr (.inr (.inr (.inr (.inr (.inr (.inr (.inr (.inl (‹_›)))))))))))))
              | exact .inr (.inr (.inr (.inr (.inr (.inr (.inr (.inr (.inr (.inr (.inr (.inr (.inr (‹_›)))))))))))))
              | exact .inr (.inr (.inr (.inr (.inr (.inr (.inr (.inr (.inr (.inr (.inl (fun e => Bool.noConfusion (hs8_2.symm.trans e))))))))))))
              | exact .inr (.inr (.inr (.inr (.inr (.inr (.inr (.inr (.inr (.inr (.inr (.inl (fun e => Bool.noConfusion (hs8_7.symm.trans e)))))))))))))
              | exact .inr (.inr (.inr (.inr (.inr (.inr (.inr (.inr (.inr (.inr (.inr (.inr (.inl (fun e => Bool.noConfusion (hs8_13.symm.trans e)))))))))))))))).symm
        | exact congrArg i64 (msg_good (by
            simp only [DMsg.bad, ← eK, ← eH, ← hu, ← hl.heads, ← hl.want, ← hl.blocks, ← hl.votes, ← hl.cuts, ← hl.certs]
            rintro (h | h | h | h | h | h | h | h | h | h | h | h | h | h)
            all_goals first | exact h ‹_› | omega | (simp_all; done))).symm
    ·
      first | have hs2_5 := of_decide_eq_true hs2_50 | have hs2_5 := of_decide_eq_false hs2_50 | have hs2_5 := nd_t hs2_50 | have hs2_5 := nd_f hs2_50 | have hs2_5 := hs2_50
      refine Tr.pick rfl rfl rfl rfl rfl rfl ?_
      refine Tr.move rfl rfl rfl ?_
      refine Tr.loadAll rfl rfl rfl Try.underlying49 rfl Sz49 (by first | exact mem0 | exact mem1 | exact mem2 | exact mem3 | exact mem4 | exact mem5 | exact mem6 | exact mem7 | (repeat (first | exact List.mem_cons_self | refine List.mem_cons_of_mem _ ?_ | refine mem_seg ?_))) (Msg.length (by first | assumption | (simp; done) | exact Block.zero_ok | exact Vote.zero_ok | exact Reader.zero_ok | exact Cut.zero_ok | exact Cert.zero_ok | exact Msg.zero_ok | exact Inbox.zero_ok | exact Record.zero_ok | exact Kept.zero_ok  | exact hok)) ?_
      refine Tr.callV rfl rfl rfl rfl Body51 (sync_used m hok) (fun _ _ => trivial) ?_
      refine Tr.move rfl rfl rfl ?_
      refine Tr.andNot_i64 rfl rfl rfl rfl ?_
      refine Tr.nei rfl rfl rfl rfl rfl ?_
      refine Tr.pick rfl rfl rfl rfl rfl rfl ?_
      refine Tr.nil ?_
      refine at_n ?_
      first
        | refine Sat.condP rfl (fun hc0 => ?_) (fun hc0 => ?_)
        | refine Sat.condNP rfl (fun hc0 => ?_) (fun hc0 => ?_)
        | refine Sat.cond rfl (fun hc0 => ?_) (fun hc0 => ?_)
      ·
        refine Sat.seq ?_
        -- region 3
        refine Sat.region ?_
        refine Tr.assign rfl rfl rfl ?_
        refine Tr.nil ?_
        refine at_n ?_
        refine Sat.ret ?_
        refine at_r ?_
        refine en_r ?_
        refine ⟨_, [], res_tmp rfl rfl, (by simp), (by simp), ?_, rfl⟩
        first
          | exact congrArg i64 (msg_bad (by
              simp only [DMsg.bad, ← eK, ← eH, ← hu, ← hl.heads, ← hl.want, ← hl.blocks, ← hl.votes, ← hl.cuts, ← hl.certs]
              first
                | exact .inl (‹_›)
                | exact .inr (.inl (‹_›))
                | exact .inr (.inr (.inl (‹_›)))
                | exact .inr (.inr (.inr (.inl (‹_›))))
                | exact .inr (.inr (.inr (.inr (.inl (‹_›)))))
                | exact .inr (.inr (.inr (.inr (.inr (.inl (‹_›))))))
                | exact .inr (.inr (.inr (.inr (.inr (.inr (.inl (‹_›)))))))
                | exact .inr (.inr (.inr (.inr (.inr (.inr (.inr (.inl (‹_›))))))))
                | exact .inr (.inr (.inr (.inr (.inr (.inr (.inr (.inr (.inl (‹_›)))))))))
                | exact .inr (.inr (.inr (.inr (.inr (.inr (.inr (.inr (.inr (.inl (⟨‹_›, ‹_›, ‹_›⟩))))))))))
                | exact .inr (.inr (.inr (.inr (.inr (.inr (.inr (.inr (.inr (.inl (⟨by omega, by omega, by omega⟩))))))))))
                | exact .inr (.inr (.inr (.inr (.inr (.inr (.inr (.inr (.inr (.inr (.inl (‹_›)))))))))))
                | exact .inr (.inr (.inr (.inr (.inr (.inr (.inr (.inr (.inr (.inr (.inr (.inl (‹_›))))))))))))
                | exact .inr (.inr (.inr (.inr (.inr (.inr (.inr (.inr (.inr (.inr (.inr (.inr (.inl (‹_›)))))))))))))
                | exact .inr (.inr (.inr (.inr (.inr (.inr (.inr (.inr (.inr (.inr (.inr (.inr (.inr (‹_›)))))))))))))
                | exact .inr (.inr (.inr (.inr (.inr (.inr (.inr (.inr (.inr (.inr (.inl (fun e => Bool.noConfusion (hs8_2.symm.trans e))))))))))))
                | exact .inr (.inr (.inr (.inr (.inr (.inr (.inr (.inr (.inr (.inr (.inr (.inl (fun e => Bool.noConfusion (hs8_7.symm.trans e)))))))))))))
                | exact .inr (.inr (.inr (.inr (.inr (.inr (.inr (.inr (.inr (.inr (.inr (.inr (.inl (fun e => Bool.noConfusion (hs8_13.symm.trans e)))))))))))))))).symm
          | exact congrArg i64 (msg_good (by
              simp only [DMsg.bad, ← eK, ← eH, ← hu, ← hl.heads, ← hl.want, ← hl.blocks, ← hl.votes, ← hl.cuts, ← hl.certs]
              rintro (h | h | h | h | h | h | h | h | h | h | h | h | h | h)
              all_goals first | exact h ‹_› | omega | (simp_all; done))).symm
      ·
        refine Sat.skip ?_
        refine at_n ?_
        refine Sat.seq ?_
        refine Sat.seq ?_
        -- region 4
        refine Sat.region ?_
        refine Tr.fld rfl rfl rfl Try.underlying49 rfl Sz26 (by decide) _ rfl ?_
        refine Tr.load1 rfl rfl rfl Try.underlying26 rfl (by first | exact mem0 | exact mem1 | exact mem2 | exact mem3 | exact mem4 | exact mem5 | exact mem6 | exact mem7 | (repeat (first | exact List.mem_cons_self | refine List.mem_cons_of_mem _ ?_ | refine mem_seg ?_))) (by first | exact Msg.get_fHeads (by first | assumption | (simp; done) | exact Block.zero_ok | exact Vote.zero_ok | exact Reader.zero_ok | exact Cut.zero_ok | exact Cert.zero_ok | exact Msg.zero_ok | exact Inbox.zero_ok | exact Record.zero_ok | exact Kept.zero_ok  | exact hok) | exact (by first | rfl | exact get_words (by first | omega | (simp; done) | (simp; omega)) | exact get_bytes (by first | omega | (simp; done) | (simp; omega)) | exact get_ints (by first | omega | (simp; done) | (simp; omega)))) ?_
        refine Tr.lenSl rfl rfl rfl Try.underlying26 ?_
        refine two (fun r hr k => Tr.gtr rfl rfl rfl rfl hr k) (fun hs4_30 => ?_) (fun hs4_30 => ?_)
        ·
          first | have hs4_3 := of_decide_eq_true hs4_30 | have hs4_3 := of_decide_eq_false hs4_30 | have hs4_3 := nd_t hs4_30 | have hs4_3 := nd_f hs4_30 | have hs4_3 := hs4_30
          refine Tr.move rfl rfl rfl ?_
          refine Tr.skp rfl rfl ?_
          refine Tr.skp rfl rfl ?_
          refine Tr.skp rfl rfl ?_
          refine Tr.skp rfl rfl ?_
          refine Tr.pick rfl rfl rfl rfl rfl rfl ?_
          refine Tr.move rfl rfl rfl ?_
          refine Tr.skp rfl rfl ?_
          refine Tr.skp rfl rfl ?_
          refine Tr.skp rfl rfl ?_
          refine Tr.skp rfl rfl ?_
          refine Tr.pick rfl rfl rfl rfl rfl rfl ?_
          refine Tr.move rfl rfl rfl ?_
          refine Tr.skp rfl rfl ?_
          refine Tr.skp rfl rfl ?_
          refine Tr.skp rfl rfl ?_
          refine Tr.skp rfl rfl ?_
          refine Tr.pick rfl rfl rfl rfl rfl rfl ?_
          refine Tr.move rfl rfl rfl ?_
          refine Tr.skp rfl rfl ?_
          refine Tr.skp rfl rfl ?_
          refine Tr.skp rfl rfl ?_
          refine Tr.skp rfl rfl ?_
          refine Tr.pick rfl rfl rfl rfl rfl rfl ?_
          refine Tr.move rfl rfl rfl ?_
          refine Tr.skp rfl rfl ?_
          refine Tr.skp rfl rfl ?_
          refine Tr.skp rfl rfl ?_
          refine Tr.skp rfl rfl ?_
          refine Tr.pick rfl rfl rfl rfl rfl rfl ?_
          refine Tr.nil ?_
          refine at_n ?_
          refine Sat.cond_t rfl rfl ?_
          refine Sat.seq ?_
          -- region 5
          refine Sat.region ?_
          refine Tr.assign rfl rfl rfl ?_
          refine Tr.nil ?_
          refine at_n ?_
          refine Sat.ret ?_
          refine at_r ?_
          refine en_r ?_
          refine ⟨_, [], res_tmp rfl rfl, (by simp), (by simp), ?_, rfl⟩
          first
            | exact congrArg i64 (msg_bad (by
                simp only [DMsg.bad, ← eK, ← eH, ← hu, ← hl.heads, ← hl.want, ← hl.blocks, ← hl.votes, ← hl.cuts, ← hl.certs]
                first
                  | exact .inl (‹_›)
                  | exact .inr (.inl (‹_›))
                  | exact .inr (.inr (.inl (‹_›)))
                  | exact .inr (.inr (.inr (.inl (‹_›))))
                  | exact .inr (.inr (.inr (.inr (.inl (‹_›)))))
                  | exact .inr (.inr (.inr (.inr (.inr (.inl (‹_›))))))
                  | exact .inr (.inr (.inr (.inr (.inr (.inr (.inl (‹_›)))))))
                  | exact .inr (.inr (.inr (.inr (.inr (.inr (.inr (.inl (‹_›))))))))
                  | exact .inr (.inr (.inr (.inr (.inr (.inr (.inr (.inr (.inl (‹_›)))))))))
                  | exact .inr (.inr (.inr (.inr (.inr (.inr (.inr (.inr (.inr (.inl (⟨‹_›, ‹_›, ‹_›⟩))))))))))
                  | exact .inr (.inr (.inr (.inr (.inr (.inr (.inr (.inr (.inr (.inl (⟨by omega, by omega, by omega⟩))))))))))
                  | exact .inr (.inr (.inr (.inr (.inr (.inr (.inr (.inr (.inr (.inr (.inl (‹_›)))))))))))
                  | exact .inr (.inr (.inr (.inr (.inr (.inr (.inr (.inr (.inr (.inr (.inr (.inl (‹_›))))))))))))
                  | exact .inr (.inr (.inr (.inr (.inr (.inr (.inr (.inr (.inr (.inr (.inr (.inr (.inl (‹_›)))))))))))))
                  | exact .inr (.inr (.inr (.inr (.inr (.inr (.inr (.inr (.inr (.inr (.inr (.inr (.inr (‹_›)))))))))))))
                  | exact .inr (.inr (.inr (.inr (.inr (.inr (.inr (.inr (.inr (.inr (.inl (fun e => Bool.noConfusion (hs8_2.symm.trans e))))))))))))
                  | exact .inr (.inr (.inr (.inr (.inr (.inr (.inr (.inr (.inr (.inr (.inr (.inl (fun e => Bool.noConfusion (hs8_7.symm.trans e)))))))))))))
                  | exact .inr (.inr (.inr (.inr (.inr (.inr (.inr (.inr (.inr (.inr (.inr (.inr (.inl (fun e => Bool.noConfusion (hs8_13.symm.trans e)))))))))))))))).symm
            | exact congrArg i64 (msg_good (by
                simp only [DMsg.bad, ← eK, ← eH, ← hu, ← hl.heads, ← hl.want, ← hl.blocks, ← hl.votes, ← hl.cuts, ← hl.certs]
                rintro (h | h | h | h | h | h | h | h | h | h | h | h | h | h)
                all_goals first | exact h ‹_› | omega | (simp_all; done))).symm
        ·
          first | have hs4_3 := of_decide_eq_true hs4_30 | have hs4_3 := of_decide_eq_false hs4_30 | have hs4_3 := nd_t hs4_30 | have hs4_3 := nd_f hs4_30 | have hs4_3 := hs4_30
          refine Tr.move rfl rfl rfl ?_
          refine Tr.fld rfl rfl rfl Try.underlying49 rfl Sz26 (by decide) _ rfl ?_
          refine Tr.load1 rfl rfl rfl Try.underlying26 rfl (by first | exact mem0 | exact mem1 | exact mem2 | exact mem3 | exact mem4 | exact mem5 | exact mem6 | exact mem7 | (repeat (first | exact List.mem_cons_self | refine List.mem_cons_of_mem _ ?_ | refine mem_seg ?_))) (by first | exact Msg.get_fWant (by first | assumption | (simp; done) | exact Block.zero_ok | exact Vote.zero_ok | exact Reader.zero_ok | exact Cut.zero_ok | exact Cert.zero_ok | exact Msg.zero_ok | exact Inbox.zero_ok | exact Record.zero_ok | exact Kept.zero_ok  | exact hok) | exact (by first | rfl | exact get_words (by first | omega | (simp; done) | (simp; omega)) | exact get_bytes (by first | omega | (simp; done) | (simp; omega)) | exact get_ints (by first | omega | (simp; done) | (simp; omega)))) ?_
          refine Tr.lenSl rfl rfl rfl Try.underlying26 ?_
          refine two (fun r hr k => Tr.gtr rfl rfl rfl rfl hr k) (fun hs4_80 => ?_) (fun hs4_80 => ?_)
          ·
            first | have hs4_8 := of_decide_eq_true hs4_80 | have hs4_8 := of_decide_eq_false hs4_80 | have hs4_8 := nd_t hs4_80 | have hs4_8 := nd_f hs4_80 | have hs4_8 := hs4_80
            refine Tr.pick rfl rfl rfl rfl rfl rfl ?_
            refine Tr.move rfl rfl rfl ?_
            refine Tr.skp rfl rfl ?_
            refine Tr.skp rfl rfl ?_
            refine Tr.skp rfl rfl ?_
            refine Tr.skp rfl rfl ?_
            refine Tr.pick rfl rfl rfl rfl rfl rfl ?_
            refine Tr.move rfl rfl rfl ?_
            refine Tr.skp rfl rfl ?_
            refine Tr.skp rfl rfl ?_
            refine Tr.skp rfl rfl ?_
            refine Tr.skp rfl rfl ?_
            refine Tr.pick rfl rfl rfl rfl rfl rfl ?_
            refine Tr.move rfl rfl rfl ?_
            refine Tr.skp rfl rfl ?_
            refine Tr.skp rfl rfl ?_
            refine Tr.skp rfl rfl ?_
            refine Tr.skp rfl rfl ?_
            refine Tr.pick rfl rfl rfl rfl rfl rfl ?_
            refine Tr.move rfl rfl rfl ?_
            refine Tr.skp rfl rfl ?_
            refine Tr.skp rfl rfl ?_
            refine Tr.skp rfl rfl ?_
            refine Tr.skp rfl rfl ?_
            refine Tr.pick rfl rfl rfl rfl rfl rfl ?_
            refine Tr.nil ?_
            refine at_n ?_
            refine Sat.cond_t rfl rfl ?_
            refine Sat.seq ?_
            -- region 5
            refine Sat.region ?_
            refine Tr.assign rfl rfl rfl ?_
            refine Tr.nil ?_
            refine at_n ?_
            refine Sat.ret ?_
            refine at_r ?_
            refine en_r ?_
            refine ⟨_, [], res_tmp rfl rfl, (by simp), (by simp), ?_, rfl⟩
            first
              | exact congrArg i64 (msg_bad (by
                  simp only [DMsg.bad, ← eK, ← eH, ← hu, ← hl.heads, ← hl.want, ← hl.blocks, ← hl.votes, ← hl.cuts, ← hl.certs]
                  first
                    | exact .inl (‹_›)
                    | exact .inr (.inl (‹_›))
                    | exact .inr (.inr (.inl (‹_›)))
                    | exact .inr (.inr (.inr (.inl (‹_›))))
                    | exact .inr (.inr (.inr (.inr (.inl (‹_›)))))
                    | exact .inr (.inr (.inr (.inr (.inr (.inl (‹_›))))))
                    | exact .inr (.inr (.inr (.inr (.inr (.inr (.inl (‹_›)))))))
                    | exact .inr (.inr (.inr (.inr (.inr (.inr (.inr (.inl (‹_›))))))))
                    | exact .inr (.inr (.inr (.inr (.inr (.inr (.inr (.inr (.inl (‹_›)))))))))
                    | exact .inr (.inr (.inr (.inr (.inr (.inr (.inr (.inr (.inr (.inl (⟨‹_›, ‹_›, ‹_›⟩))))))))))
                    | exact .inr (.inr (.inr (.inr (.inr (.inr (.inr (.inr (.inr (.inl (⟨by omega, by omega, by omega⟩))))))))))
                    | exact .inr (.inr (.inr (.inr (.inr (.inr (.inr (.inr (.inr (.inr (.inl (‹_›)))))))))))
                    | exact .inr (.inr (.inr (.inr (.inr (.inr (.inr (.inr (.inr (.inr (.inr (.inl (‹_›))))))))))))
                    | exact .inr (.inr (.inr (.inr (.inr (.inr (.inr (.inr (.inr (.inr (.inr (.inr (.inl (‹_›)))))))))))))
                    | exact .inr (.inr (.inr (.inr (.inr (.inr (.inr (.inr (.inr (.inr (.inr (.inr (.inr (‹_›)))))))))))))
                    | exact .inr (.inr (.inr (.inr (.inr (.inr (.inr (.inr (.inr (.inr (.inl (fun e => Bool.noConfusion (hs8_2.symm.trans e))))))))))))
                    | exact .inr (.inr (.inr (.inr (.inr (.inr (.inr (.inr (.inr (.inr (.inr (.inl (fun e => Bool.noConfusion (hs8_7.symm.trans e)))))))))))))
                    | exact .inr (.inr (.inr (.inr (.inr (.inr (.inr (.inr (.inr (.inr (.inr (.inr (.inl (fun e => Bool.noConfusion (hs8_13.symm.trans e)))))))))))))))).symm
              | exact congrArg i64 (msg_good (by
                  simp only [DMsg.bad, ← eK, ← eH, ← hu, ← hl.heads, ← hl.want, ← hl.blocks, ← hl.votes, ← hl.cuts, ← hl.certs]
                  rintro (h | h | h | h | h | h | h | h | h | h | h | h | h | h)
                  all_goals first | exact h ‹_› | omega | (simp_all; done))).symm
          ·
            first | have hs4_8 := of_decide_eq_true hs4_80 | have hs4_8 := of_decide_eq_false hs4_80 | have hs4_8 := nd_t hs4_80 | have hs4_8 := nd_f hs4_80 | have hs4_8 := hs4_80
            refine Tr.pick rfl rfl rfl rfl rfl rfl ?_
            refine Tr.move rfl rfl rfl ?_
            refine Tr.fld rfl rfl rfl Try.underlying49 rfl Sz34 (by decide) _ rfl ?_
            refine Tr.load1 rfl rfl rfl Try.underlying34 rfl (by first | exact mem0 | exact mem1 | exact mem2 | exact mem3 | exact mem4 | exact mem5 | exact mem6 | exact mem7 | (repeat (first | exact List.mem_cons_self | refine List.mem_cons_of_mem _ ?_ | refine mem_seg ?_))) (by first | exact Msg.get_fBlocks (by first | assumption | (simp; done) | exact Block.zero_ok | exact Vote.zero_ok | exact Reader.zero_ok | exact Cut.zero_ok | exact Cert.zero_ok | exact Msg.zero_ok | exact Inbox.zero_ok | exact Record.zero_ok | exact Kept.zero_ok  | exact hok) | exact (by first | rfl | exact get_words (by first | omega | (simp; done) | (simp; omega)) | exact get_bytes (by first | omega | (simp; done) | (simp; omega)) | exact get_ints (by first | omega | (simp; done) | (simp; omega)))) ?_
            refine Tr.lenSl rfl rfl rfl Try.underlying34 ?_
            refine two (fun r hr k => Tr.gtr rfl rfl rfl rfl hr k) (fun hs4_140 => ?_) (fun hs4_140 => ?_)
            ·
              first | have hs4_14 := of_decide_eq_true hs4_140 | have hs4_14 := of_decide_eq_false hs4_140 | have hs4_14 := nd_t hs4_140 | have hs4_14 := nd_f hs4_140 | have hs4_14 := hs4_140
              refine Tr.pick rfl rfl rfl rfl rfl rfl ?_
              refine Tr.move rfl rfl rfl ?_
              refine Tr.skp rfl rfl ?_
              refine Tr.skp rfl rfl ?_
              refine Tr.skp rfl rfl ?_
              refine Tr.skp rfl rfl ?_
              refine Tr.pick rfl rfl rfl rfl rfl rfl ?_
              refine Tr.move rfl rfl rfl ?_
              refine Tr.skp rfl rfl ?_
              refine Tr.skp rfl rfl ?_
              refine Tr.skp rfl rfl ?_
              refine Tr.skp rfl rfl ?_
              refine Tr.pick rfl rfl rfl rfl rfl rfl ?_
              refine Tr.move rfl rfl rfl ?_
              refine Tr.skp rfl rfl ?_
              refine Tr.skp rfl rfl ?_
              refine Tr.skp rfl rfl ?_
              refine Tr.skp rfl rfl ?_
              refine Tr.pick rfl rfl rfl rfl rfl rfl ?_
              refine Tr.nil ?_
              refine at_n ?_
              refine Sat.cond_t rfl rfl ?_
              refine Sat.seq ?_
              -- region 5
              refine Sat.region ?_
              refine Tr.assign rfl rfl rfl ?_
              refine Tr.nil ?_
              refine at_n ?_
              refine Sat.ret ?_
              refine at_r ?_
              refine en_r ?_
              refine ⟨_, [], res_tmp rfl rfl, (by simp), (by simp), ?_, rfl⟩
              first
                | exact congrArg i64 (msg_bad (by
                    simp only [DMsg.bad, ← eK, ← eH, ← hu, ← hl.heads, ← hl.want, ← hl.blocks, ← hl.votes, ← hl.cuts, ← hl.certs]
                    first
                      | exact .inl (‹_›)
                      | exact .inr (.inl (‹_›))
                      | exact .inr (.inr (.inl (‹_›)))
                      | exact .inr (.inr (.inr (.inl (‹_›))))
                      | exact .inr (.inr (.inr (.inr (.inl (‹_›)))))
                      | exact .inr (.inr (.inr (.inr (.inr (.inl (‹_›))))))
                      | exact .inr (.inr (.inr (.inr (.inr (.inr (.inl (‹_›)))))))
                      | exact .inr (.inr (.inr (.inr (.inr (.inr (.inr (.inl (‹_›))))))))
                      | exact .inr (.inr (.inr (.inr (.inr (.inr (.inr (.inr (.inl (‹_›)))))))))
                      | exact .inr (.inr (.inr (.inr (.inr (.inr (.inr (.inr (.inr (.inl (⟨‹_›, ‹_›, ‹_›⟩))))))))))
                      | exact .inr (.inr (.inr (.inr (.inr (.inr (.inr (.inr (.inr (.inl (⟨by omega, by omega, by omega⟩))))))))))
                      | exact .inr (.inr (.inr (.inr (.inr (.inr (.inr (.inr (.inr (.inr (.inl (‹_›)))))))))))
                      | exact .inr (.inr (.inr (.inr (.inr (.inr (.inr (.inr (.inr (.inr (.inr (.inl (‹_›))))))))))))
                      | exact .inr (.inr (.inr (.inr (.inr (.inr (.inr (.inr (.inr (.inr (.inr (.inr (.inl (‹_›)))))))))))))
                      | exact .inr (.inr (.inr (.inr (.inr (.inr (.inr (.inr (.inr (.inr (.inr (.inr (.inr (‹_›)))))))))))))
                      | exact .inr (.inr (.inr (.inr (.inr (.inr (.inr (.inr (.inr (.inr (.inl (fun e => Bool.noConfusion (hs8_2.symm.trans e))))))))))))
                      | exact .inr (.inr (.inr (.inr (.inr (.inr (.inr (.inr (.inr (.inr (.inr (.inl (fun e => Bool.noConfusion (hs8_7.symm.trans e)))))))))))))
                      | exact .inr (.inr (.inr (.inr (.inr (.inr (.inr (.inr (.inr (.inr (.inr (.inr (.inl (fun e => Bool.noConfusion (hs8_13.symm.trans e)))))))))))))))).symm
                | exact congrArg i64 (msg_good (by
                    simp only [DMsg.bad, ← eK, ← eH, ← hu, ← hl.heads, ← hl.want, ← hl.blocks, ← hl.votes, ← hl.cuts, ← hl.certs]
                    rintro (h | h | h | h | h | h | h | h | h | h | h | h | h | h)
                    all_goals first | exact h ‹_› | omega | (simp_all; done))).symm
            ·
              first | have hs4_14 := of_decide_eq_true hs4_140 | have hs4_14 := of_decide_eq_false hs4_140 | have hs4_14 := nd_t hs4_140 | have hs4_14 := nd_f hs4_140 | have hs4_14 := hs4_140
              refine Tr.pick rfl rfl rfl rfl rfl rfl ?_
              refine Tr.move rfl rfl rfl ?_
              refine Tr.fld rfl rfl rfl Try.underlying49 rfl Sz45 (by decide) _ rfl ?_
              refine Tr.load1 rfl rfl rfl Try.underlying45 rfl (by first | exact mem0 | exact mem1 | exact mem2 | exact mem3 | exact mem4 | exact mem5 | exact mem6 | exact mem7 | (repeat (first | exact List.mem_cons_self | refine List.mem_cons_of_mem _ ?_ | refine mem_seg ?_))) (by first | exact Msg.get_fVotes (by first | assumption | (simp; done) | exact Block.zero_ok | exact Vote.zero_ok | exact Reader.zero_ok | exact Cut.zero_ok | exact Cert.zero_ok | exact Msg.zero_ok | exact Inbox.zero_ok | exact Record.zero_ok | exact Kept.zero_ok  | exact hok) | exact (by first | rfl | exact get_words (by first | omega | (simp; done) | (simp; omega)) | exact get_bytes (by first | omega | (simp; done) | (simp; omega)) | exact get_ints (by first | omega | (simp; done) | (simp; omega)))) ?_
              refine Tr.lenSl rfl rfl rfl Try.underlying45 ?_
              refine two (fun r hr k => Tr.gtr rfl rfl rfl rfl hr k) (fun hs4_200 => ?_) (fun hs4_200 => ?_)
              ·
                first | have hs4_20 := of_decide_eq_true hs4_200 | have hs4_20 := of_decide_eq_false hs4_200 | have hs4_20 := nd_t hs4_200 | have hs4_20 := nd_f hs4_200 | have hs4_20 := hs4_200
                refine Tr.pick rfl rfl rfl rfl rfl rfl ?_
                refine Tr.move rfl rfl rfl ?_
                refine Tr.skp rfl rfl ?_
                refine Tr.skp rfl rfl ?_
                refine Tr.skp rfl rfl ?_
                refine Tr.skp rfl rfl ?_
                refine Tr.pick rfl rfl rfl rfl rfl rfl ?_
                refine Tr.move rfl rfl rfl ?_
                refine Tr.skp rfl rfl ?_
                refine Tr.skp rfl rfl ?_
                refine Tr.skp rfl rfl ?_
                refine Tr.skp rfl rfl ?_
                refine Tr.pick rfl rfl rfl rfl rfl rfl ?_
                refine Tr.nil ?_
                refine at_n ?_
                refine Sat.cond_t rfl rfl ?_
                refine Sat.seq ?_
                -- region 5
                refine Sat.region ?_
                refine Tr.assign rfl rfl rfl ?_
                refine Tr.nil ?_
                refine at_n ?_
                refine Sat.ret ?_
                refine at_r ?_
                refine en_r ?_
                refine ⟨_, [], res_tmp rfl rfl, (by simp), (by simp), ?_, rfl⟩
                first
                  | exact congrArg i64 (msg_bad (by
                      simp only [DMsg.bad, ← eK, ← eH, ← hu, ← hl.heads, ← hl.want, ← hl.blocks, ← hl.votes, ← hl.cuts, ← hl.certs]
                      first
                        | exact .inl (‹_›)
                        | exact .inr (.inl (‹_›))
                        | exact .inr (.inr (.inl (‹_›)))
                        | exact .inr (.inr (.inr (.inl (‹_›))))
                        | exact .inr (.inr (.inr (.inr (.inl (‹_›)))))
                        | exact .inr (.inr (.inr (.inr (.inr (.inl (‹_›))))))
                        | exact .inr (.inr (.inr (.inr (.inr (.inr (.inl (‹_›)))))))
                        | exact .inr (.inr (.inr (.inr (.inr (.inr (.inr (.inl (‹_›))))))))
                        | exact .inr (.inr (.inr (.inr (.inr (.inr (.inr (.inr (.inl (‹_›)))))))))
                        | exact .inr (.inr (.inr (.inr (.inr (.inr (.inr (.inr (.inr (.inl (⟨‹_›, ‹_›, ‹_›⟩))))))))))
                        | exact .inr (.inr (.inr (.inr (.inr (.inr (.inr (.inr (.inr (.inl (⟨by omega, by omega, by omega⟩))))))))))
                        | exact .inr (.inr (.inr (.inr (.inr (.inr (.inr (.inr (.inr (.inr (.inl (‹_›)))))))))))
                        | exact .inr (.inr (.inr (.inr (.inr (.inr (.inr (.inr (.inr (.inr (.inr (.inl (‹_›))))))))))))
                        | exact .inr (.inr (.inr (.inr (.inr (.inr (.inr (.inr (.inr (.inr (.inr (.inr (.inl (‹_›)))))))))))))
                        | exact .inr (.inr (.inr (.inr (.inr (.inr (.inr (.inr (.inr (.inr (.inr (.inr (.inr (‹_›)))))))))))))
                        | exact .inr (.inr (.inr (.inr (.inr (.inr (.inr (.inr (.inr (.inr (.inl (fun e => Bool.noConfusion (hs8_2.symm.trans e))))))))))))
                        | exact .inr (.inr (.inr (.inr (.inr (.inr (.inr (.inr (.inr (.inr (.inr (.inl (fun e => Bool.noConfusion (hs8_7.symm.trans e)))))))))))))
                        | exact .inr (.inr (.inr (.inr (.inr (.inr (.inr (.inr (.inr (.inr (.inr (.inr (.inl (fun e => Bool.noConfusion (hs8_13.symm.trans e)))))))))))))))).symm
                  | exact congrArg i64 (msg_good (by
                      simp only [DMsg.bad, ← eK, ← eH, ← hu, ← hl.heads, ← hl.want, ← hl.blocks, ← hl.votes, ← hl.cuts, ← hl.certs]
                      rintro (h | h | h | h | h | h | h | h | h | h | h | h | h | h)
                      all_goals first | exact h ‹_› | omega | (simp_all; done))).symm
              ·
                first | have hs4_20 := of_decide_eq_true hs4_200 | have hs4_20 := of_decide_eq_false hs4_200 | have hs4_20 := nd_t hs4_200 | have hs4_20 := nd_f hs4_200 | have hs4_20 := hs4_200
                refine Tr.pick rfl rfl rfl rfl rfl rfl ?_
                refine Tr.move rfl rfl rfl ?_
                refine Tr.fld rfl rfl rfl Try.underlying49 rfl Sz46 (by decide) _ rfl ?_
                refine Tr.load1 rfl rfl rfl Try.underlying46 rfl (by first | exact mem0 | exact mem1 | exact mem2 | exact mem3 | exact mem4 | exact mem5 | exact mem6 | exact mem7 | (repeat (first | exact List.mem_cons_self | refine List.mem_cons_of_mem _ ?_ | refine mem_seg ?_))) (by first | exact Msg.get_fCuts (by first | assumption | (simp; done) | exact Block.zero_ok | exact Vote.zero_ok | exact Reader.zero_ok | exact Cut.zero_ok | exact Cert.zero_ok | exact Msg.zero_ok | exact Inbox.zero_ok | exact Record.zero_ok | exact Kept.zero_ok  | exact hok) | exact (by first | rfl | exact get_words (by first | omega | (simp; done) | (simp; omega)) | exact get_bytes (by first | omega | (simp; done) | (simp; omega)) | exact get_ints (by first | omega | (simp; done) | (simp; omega)))) ?_
                refine Tr.lenSl rfl rfl rfl Try.underlying46 ?_
                refine two (fun r hr k => Tr.gtr rfl rfl rfl rfl hr k) (fun hs4_260 => ?_) (fun hs4_260 => ?_)
                ·
                  first | have hs4_26 := of_decide_eq_true hs4_260 | have hs4_26 := of_decide_eq_false hs4_260 | have hs4_26 := nd_t hs4_260 | have hs4_26 := nd_f hs4_260 | have hs4_26 := hs4_260
                  refine Tr.pick rfl rfl rfl rfl rfl rfl ?_
                  refine Tr.move rfl rfl rfl ?_
                  refine Tr.skp rfl rfl ?_
                  refine Tr.skp rfl rfl ?_
                  refine Tr.skp rfl rfl ?_
                  refine Tr.skp rfl rfl ?_
                  refine Tr.pick rfl rfl rfl rfl rfl rfl ?_
                  refine Tr.nil ?_
                  refine at_n ?_
                  refine Sat.cond_t rfl rfl ?_
                  refine Sat.seq ?_
                  -- region 5
                  refine Sat.region ?_
                  refine Tr.assign rfl rfl rfl ?_
                  refine Tr.nil ?_
                  refine at_n ?_
                  refine Sat.ret ?_
                  refine at_r ?_
                  refine en_r ?_
                  refine ⟨_, [], res_tmp rfl rfl, (by simp), (by simp), ?_, rfl⟩
                  first
                    | exact congrArg i64 (msg_bad (by
                        simp only [DMsg.bad, ← eK, ← eH, ← hu, ← hl.heads, ← hl.want, ← hl.blocks, ← hl.votes, ← hl.cuts, ← hl.certs]
                        first
                          | exact .inl (‹_›)
                          | exact .inr (.inl (‹_›))
                          | exact .inr (.inr (.inl (‹_›)))
                          | exact .inr (.inr (.inr (.inl (‹_›))))
                          | exact .inr (.inr (.inr (.inr (.inl (‹_›)))))
                          | exact .inr (.inr (.inr (.inr (.inr (.inl (‹_›))))))
                          | exact .inr (.inr (.inr (.inr (.inr (.inr (.inl (‹_›)))))))
                          | exact .inr (.inr (.inr (.inr (.inr (.inr (.inr (.inl (‹_›))))))))
                          | exact .inr (.inr (.inr (.inr (.inr (.inr (.inr (.inr (.inl (‹_›)))))))))
                          | exact .inr (.inr (.inr (.inr (.inr (.inr (.inr (.inr (.inr (.inl (⟨‹_›, ‹_›, ‹_›⟩))))))))))
                          | exact .inr (.inr (.inr (.inr (.inr (.inr (.inr (.inr (.inr (.inl (⟨by omega, by omega, by omega⟩))))))))))
                          | exact .inr (.inr (.inr (.inr (.inr (.inr (.inr (.inr (.inr (.inr (.inl (‹_›)))))))))))
                          | exact .inr (.inr (.inr (.inr (.inr (.inr (.inr (.inr (.inr (.inr (.inr (.inl (‹_›))))))))))))
                          | exact .inr (.inr (.inr (.inr (.inr (.inr (.inr (.inr (.inr (.inr (.inr (.inr (.inl (‹_›)))))))))))))
                          | exact .inr (.inr (.inr (.inr (.inr (.inr (.inr (.inr (.inr (.inr (.inr (.inr (.inr (‹_›)))))))))))))
                          | exact .inr (.inr (.inr (.inr (.inr (.inr (.inr (.inr (.inr (.inr (.inl (fun e => Bool.noConfusion (hs8_2.symm.trans e))))))))))))
                          | exact .inr (.inr (.inr (.inr (.inr (.inr (.inr (.inr (.inr (.inr (.inr (.inl (fun e => Bool.noConfusion (hs8_7.symm.trans e)))))))))))))
                          | exact .inr (.inr (.inr (.inr (.inr (.inr (.inr (.inr (.inr (.inr (.inr (.inr (.inl (fun e => Bool.noConfusion (hs8_13.symm.trans e)))))))))))))))).symm
                    | exact congrArg i64 (msg_good (by
                        simp only [DMsg.bad, ← eK, ← eH, ← hu, ← hl.heads, ← hl.want, ← hl.blocks, ← hl.votes, ← hl.cuts, ← hl.certs]
                        rintro (h | h | h | h | h | h | h | h | h | h | h | h | h | h)
                        all_goals first | exact h ‹_› | omega | (simp_all; done))).symm
                ·
                  first | have hs4_26 := of_decide_eq_true hs4_260 | have hs4_26 := of_decide_eq_false hs4_260 | have hs4_26 := nd_t hs4_260 | have hs4_26 := nd_f hs4_260 | have hs4_26 := hs4_260
                  refine Tr.pick rfl rfl rfl rfl rfl rfl ?_
                  refine Tr.move rfl rfl rfl ?_
                  refine Tr.fld rfl rfl rfl Try.underlying49 rfl Sz47 (by decide) _ rfl ?_
                  refine Tr.load1 rfl rfl rfl Try.underlying47 rfl (by first | exact mem0 | exact mem1 | exact mem2 | exact mem3 | exact mem4 | exact mem5 | exact mem6 | exact mem7 | (repeat (first | exact List.mem_cons_self | refine List.mem_cons_of_mem _ ?_ | refine mem_seg ?_))) (by first | exact Msg.get_fCerts (by first | assumption | (simp; done) | exact Block.zero_ok | exact Vote.zero_ok | exact Reader.zero_ok | exact Cut.zero_ok | exact Cert.zero_ok | exact Msg.zero_ok | exact Inbox.zero_ok | exact Record.zero_ok | exact Kept.zero_ok  | exact hok) | exact (by first | rfl | exact get_words (by first | omega | (simp; done) | (simp; omega)) | exact get_bytes (by first | omega | (simp; done) | (simp; omega)) | exact get_ints (by first | omega | (simp; done) | (simp; omega)))) ?_
                  refine Tr.lenSl rfl rfl rfl Try.underlying47 ?_
                  refine Tr.gtr rfl rfl rfl rfl rfl ?_
                  refine Tr.pick rfl rfl rfl rfl rfl rfl ?_
                  refine Tr.nil ?_
                  refine at_n ?_
                  first
                    | refine Sat.condP rfl (fun hc1 => ?_) (fun hc1 => ?_)
                    | refine Sat.condNP rfl (fun hc1 => ?_) (fun hc1 => ?_)
                    | refine Sat.cond rfl (fun hc1 => ?_) (fun hc1 => ?_)
                  ·
                    refine Sat.seq ?_
                    -- region 5
                    refine Sat.region ?_
                    refine Tr.assign rfl rfl rfl ?_
                    refine Tr.nil ?_
                    refine at_n ?_
                    refine Sat.ret ?_
                    refine at_r ?_
                    refine en_r ?_
                    refine ⟨_, [], res_tmp rfl rfl, (by simp), (by simp), ?_, rfl⟩
                    first
                      | exact congrArg i64 (msg_bad (by
                          simp only [DMsg.bad, ← eK, ← eH, ← hu, ← hl.heads, ← hl.want, ← hl.blocks, ← hl.votes, ← hl.cuts, ← hl.certs]
                          first
                            | exact .inl (‹_›)
                            | exact .inr (.inl (‹_›))
                            | exact .inr (.inr (.inl (‹_›)))
                            | exact .inr (.inr (.inr (.inl (‹_›))))
                            | exact .inr (.inr (.inr (.inr (.inl (‹_›)))))
                            | exact .inr (.inr (.inr (.inr (.inr (.inl (‹_›))))))
                            | exact .inr (.inr (.inr (.inr (.inr (.inr (.inl (‹_›)))))))
                            | exact .inr (.inr (.inr (.inr (.inr (.inr (.inr (.inl (‹_›))))))))
                            | exact .inr (.inr (.inr (.inr (.inr (.inr (.inr (.inr (.inl (‹_›)))))))))
                            | exact .inr (.inr (.inr (.inr (.inr (.inr (.inr (.inr (.inr (.inl (⟨‹_›, ‹_›, ‹_›⟩))))))))))
                            | exact .inr (.inr (.inr (.inr (.inr (.inr (.inr (.inr (.inr (.inl (⟨by omega, by omega, by omega⟩))))))))))
                            | exact .inr (.inr (.inr (.inr (.inr (.inr (.inr (.inr (.inr (.inr (.inl (‹_›)))))))))))
                            | exact .inr (.inr (.inr (.inr (.inr (.inr (.inr (.inr (.inr (.inr (.inr (.inl (‹_›))))))))))))
                            | exact .inr (.inr (.inr (.inr (.inr (.inr (.inr (.inr (.inr (.inr (.inr (.inr (.inl (‹_›)))))))))))))
                            | exact .inr (.inr (.inr (.inr (.inr (.inr (.inr (.inr (.inr (.inr (.inr (.inr (.inr (‹_›)))))))))))))
                            | exact .inr (.inr (.inr (.inr (.inr (.inr (.inr (.inr (.inr (.inr (.inl (fun e => Bool.noConfusion (hs8_2.symm.trans e))))))))))))
                            | exact .inr (.inr (.inr (.inr (.inr (.inr (.inr (.inr (.inr (.inr (.inr (.inl (fun e => Bool.noConfusion (hs8_7.symm.trans e)))))))))))))
                            | exact .inr (.inr (.inr (.inr (.inr (.inr (.inr (.inr (.inr (.inr (.inr (.inr (.inl (fun e => Bool.noConfusion (hs8_13.symm.trans e)))))))))))))))).symm
                      | exact congrArg i64 (msg_good (by
                          simp only [DMsg.bad, ← eK, ← eH, ← hu, ← hl.heads, ← hl.want, ← hl.blocks, ← hl.votes, ← hl.cuts, ← hl.certs]
                          rintro (h | h | h | h | h | h | h | h | h | h | h | h | h | h)
                          all_goals first | exact h ‹_› | omega | (simp_all; done))).symm
                  ·
                    refine Sat.skip ?_
                    refine at_n ?_
                    refine Sat.seq ?_
                    refine Sat.seq ?_
                    -- region 6
                    refine Sat.region ?_
                    refine Tr.fld rfl rfl rfl Try.underlying49 rfl Sz3 (by decide) _ rfl ?_
                    refine Tr.load1 rfl rfl rfl Try.underlying3 rfl (by first | exact mem0 | exact mem1 | exact mem2 | exact mem3 | exact mem4 | exact mem5 | exact mem6 | exact mem7 | (repeat (first | exact List.mem_cons_self | refine List.mem_cons_of_mem _ ?_ | refine mem_seg ?_))) (by first | exact Msg.get_fKind (by first | assumption | (simp; done) | exact Block.zero_ok | exact Vote.zero_ok | exact Reader.zero_ok | exact Cut.zero_ok | exact Cert.zero_ok | exact Msg.zero_ok | exact Inbox.zero_ok | exact Record.zero_ok | exact Kept.zero_ok  | exact hok) | exact (by first | rfl | exact get_words (by first | omega | (simp; done) | (simp; omega)) | exact get_bytes (by first | omega | (simp; done) | (simp; omega)) | exact get_ints (by first | omega | (simp; done) | (simp; omega)))) ?_
                    refine two (fun r hr k => Tr.nei rfl rfl rfl rfl hr k) (fun hs6_20 => ?_) (fun hs6_20 => ?_)
                    ·
                      first | have hs6_2 := of_decide_eq_true hs6_20 | have hs6_2 := of_decide_eq_false hs6_20 | have hs6_2 := nd_t hs6_20 | have hs6_2 := nd_f hs6_20 | have hs6_2 := hs6_20
                      refine Tr.move rfl rfl rfl ?_
                      refine Tr.fld rfl rfl rfl Try.underlying49 rfl Sz3 (by decide) _ rfl ?_
                      refine Tr.load1 rfl rfl rfl Try.underlying3 rfl (by first | exact mem0 | exact mem1 | exact mem2 | exact mem3 | exact mem4 | exact mem5 | exact mem6 | exact mem7 | (repeat (first | exact List.mem_cons_self | refine List.mem_cons_of_mem _ ?_ | refine mem_seg ?_))) (by first | exact Msg.get_fKind (by first | assumption | (simp; done) | exact Block.zero_ok | exact Vote.zero_ok | exact Reader.zero_ok | exact Cut.zero_ok | exact Cert.zero_ok | exact Msg.zero_ok | exact Inbox.zero_ok | exact Record.zero_ok | exact Kept.zero_ok  | exact hok) | exact (by first | rfl | exact get_words (by first | omega | (simp; done) | (simp; omega)) | exact get_bytes (by first | omega | (simp; done) | (simp; omega)) | exact get_ints (by first | omega | (simp; done) | (simp; omega)))) ?_
                      refine two (fun r hr k => Tr.nei rfl rfl rfl rfl hr k) (fun hs6_60 => ?_) (fun hs6_60 => ?_)
                      ·
                        first | have hs6_6 := of_decide_eq_true hs6_60 | have hs6_6 := of_decide_eq_false hs6_60 | have hs6_6 := nd_t hs6_60 | have hs6_6 := nd_f hs6_60 | have hs6_6 := hs6_60
                        refine Tr.pick rfl rfl rfl rfl rfl rfl ?_
                        refine Tr.move rfl rfl rfl ?_
                        refine Tr.loadAll rfl rfl rfl Try.underlying49 rfl Sz49 (by first | exact mem0 | exact mem1 | exact mem2 | exact mem3 | exact mem4 | exact mem5 | exact mem6 | exact mem7 | (repeat (first | exact List.mem_cons_self | refine List.mem_cons_of_mem _ ?_ | refine mem_seg ?_))) (Msg.length (by first | assumption | (simp; done) | exact Block.zero_ok | exact Vote.zero_ok | exact Reader.zero_ok | exact Cut.zero_ok | exact Cert.zero_ok | exact Msg.zero_ok | exact Inbox.zero_ok | exact Record.zero_ok | exact Kept.zero_ok  | exact hok)) ?_
                        refine Tr.callV rfl rfl rfl rfl Body51 (sync_used m hok) (fun _ _ => trivial) ?_
                        refine Tr.eqi rfl rfl rfl rfl rfl ?_
                        refine Tr.pick rfl rfl rfl rfl rfl rfl ?_
                        refine Tr.nil ?_
                        refine at_n ?_
                        first
                          | refine Sat.condP rfl (fun hc2 => ?_) (fun hc2 => ?_)
                          | refine Sat.condNP rfl (fun hc2 => ?_) (fun hc2 => ?_)
                          | refine Sat.cond rfl (fun hc2 => ?_) (fun hc2 => ?_)
                        ·
                          refine Sat.seq ?_
                          -- region 7
                          refine Sat.region ?_
                          refine Tr.assign rfl rfl rfl ?_
                          refine Tr.nil ?_
                          refine at_n ?_
                          refine Sat.ret ?_
                          refine at_r ?_
                          refine en_r ?_
                          refine ⟨_, [], res_tmp rfl rfl, (by simp), (by simp), ?_, rfl⟩
                          first
                            | exact congrArg i64 (msg_bad (by
                                simp only [DMsg.bad, ← eK, ← eH, ← hu, ← hl.heads, ← hl.want, ← hl.blocks, ← hl.votes, ← hl.cuts, ← hl.certs]
                                first
                                  | exact .inl (‹_›)
                                  | exact .inr (.inl (‹_›))
                                  | exact .inr (.inr (.inl (‹_›)))
                                  | exact .inr (.inr (.inr (.inl (‹_›))))
                                  | exact .inr (.inr (.inr (.inr (.inl (‹_›)))))
                                  | exact .inr (.inr (.inr (.inr (.inr (.inl (‹_›))))))
                                  | exact .inr (.inr (.inr (.inr (.inr (.inr (.inl (‹_›)))))))
                                  | exact .inr (.inr (.inr (.inr (.inr (.inr (.inr (.inl (‹_›))))))))
                                  | exact .inr (.inr (.inr (.inr (.inr (.inr (.inr (.inr (.inl (‹_›)))))))))
                                  | exact .inr (.inr (.inr (.inr (.inr (.inr (.inr (.inr (.inr (.inl (⟨‹_›, ‹_›, ‹_›⟩))))))))))
                                  | exact .inr (.inr (.inr (.inr (.inr (.inr (.inr (.inr (.inr (.inl (⟨by omega, by omega, by omega⟩))))))))))
                                  | exact .inr (.inr (.inr (.inr (.inr (.inr (.inr (.inr (.inr (.inr (.inl (‹_›)))))))))))
                                  | exact .inr (.inr (.inr (.inr (.inr (.inr (.inr (.inr (.inr (.inr (.inr (.inl (‹_›))))))))))))
                                  | exact .inr (.inr (.inr (.inr (.inr (.inr (.inr (.inr (.inr (.inr (.inr (.inr (.inl (‹_›)))))))))))))
                                  | exact .inr (.inr (.inr (.inr (.inr (.inr (.inr (.inr (.inr (.inr (.inr (.inr (.inr (‹_›)))))))))))))
                                  | exact .inr (.inr (.inr (.inr (.inr (.inr (.inr (.inr (.inr (.inr (.inl (fun e => Bool.noConfusion (hs8_2.symm.trans e))))))))))))
                                  | exact .inr (.inr (.inr (.inr (.inr (.inr (.inr (.inr (.inr (.inr (.inr (.inl (fun e => Bool.noConfusion (hs8_7.symm.trans e)))))))))))))
                                  | exact .inr (.inr (.inr (.inr (.inr (.inr (.inr (.inr (.inr (.inr (.inr (.inr (.inl (fun e => Bool.noConfusion (hs8_13.symm.trans e)))))))))))))))).symm
                            | exact congrArg i64 (msg_good (by
                                simp only [DMsg.bad, ← eK, ← eH, ← hu, ← hl.heads, ← hl.want, ← hl.blocks, ← hl.votes, ← hl.cuts, ← hl.certs]
                                rintro (h | h | h | h | h | h | h | h | h | h | h | h | h | h)
                                all_goals first | exact h ‹_› | omega | (simp_all; done))).symm
                        ·
                          refine Sat.skip ?_
                          refine at_n ?_
                          refine Sat.seq ?_
                          refine Sat.seq ?_
                          -- region 8
                          refine Sat.region ?_
                          refine Tr.fld rfl rfl rfl Try.underlying49 rfl Sz34 (by decide) _ rfl ?_
                          refine Tr.load1 rfl rfl rfl Try.underlying34 rfl (by first | exact mem0 | exact mem1 | exact mem2 | exact mem3 | exact mem4 | exact mem5 | exact mem6 | exact mem7 | (repeat (first | exact List.mem_cons_self | refine List.mem_cons_of_mem _ ?_ | refine mem_seg ?_))) (by first | exact Msg.get_fBlocks (by first | assumption | (simp; done) | exact Block.zero_ok | exact Vote.zero_ok | exact Reader.zero_ok | exact Cut.zero_ok | exact Cert.zero_ok | exact Msg.zero_ok | exact Inbox.zero_ok | exact Record.zero_ok | exact Kept.zero_ok  | exact hok) | exact (by first | rfl | exact get_words (by first | omega | (simp; done) | (simp; omega)) | exact get_bytes (by first | omega | (simp; done) | (simp; omega)) | exact get_ints (by first | omega | (simp; done) | (simp; omega)))) ?_
                          refine Tr.callB rfl rfl rfl rfl Body52 (all_block m.fBlocks D.dBlocks) (fun w h => Blocks_ext h rfl hW.fBlocks) (fun hs8_20 => ?_) (fun hs8_20 => ?_)
                          ·
                            first | have hs8_2 := of_decide_eq_true hs8_20 | have hs8_2 := of_decide_eq_false hs8_20 | have hs8_2 := nd_t hs8_20 | have hs8_2 := nd_f hs8_20 | have hs8_2 := hs8_20
                            refine Tr.not rfl rfl rfl ?_
                            refine Tr.move rfl rfl rfl ?_
                            refine Tr.fld rfl rfl rfl Try.underlying49 rfl Sz45 (by decide) _ rfl ?_
                            refine Tr.load1 rfl rfl rfl Try.underlying45 rfl (by first | exact mem0 | exact mem1 | exact mem2 | exact mem3 | exact mem4 | exact mem5 | exact mem6 | exact mem7 | (repeat (first | exact List.mem_cons_self | refine List.mem_cons_of_mem _ ?_ | refine mem_seg ?_))) (by first | exact Msg.get_fVotes (by first | assumption | (simp; done) | exact Block.zero_ok | exact Vote.zero_ok | exact Reader.zero_ok | exact Cut.zero_ok | exact Cert.zero_ok | exact Msg.zero_ok | exact Inbox.zero_ok | exact Record.zero_ok | exact Kept.zero_ok  | exact hok) | exact (by first | rfl | exact get_words (by first | omega | (simp; done) | (simp; omega)) | exact get_bytes (by first | omega | (simp; done) | (simp; omega)) | exact get_ints (by first | omega | (simp; done) | (simp; omega)))) ?_
                            refine Tr.callB rfl rfl rfl rfl Body53 (all_vote m.fVotes D.dVotes) (fun w h => Votes_ext h rfl hW.fVotes) (fun hs8_70 => ?_) (fun hs8_70 => ?_)
                            ·
                              first | have hs8_7 := of_decide_eq_true hs8_70 | have hs8_7 := of_decide_eq_false hs8_70 | have hs8_7 := nd_t hs8_70 | have hs8_7 := nd_f hs8_70 | have hs8_7 := hs8_70
                              refine Tr.not rfl rfl rfl ?_
                              refine Tr.pick rfl rfl rfl rfl rfl rfl ?_
                              refine Tr.move rfl rfl rfl ?_
                              refine Tr.fld rfl rfl rfl Try.underlying49 rfl Sz46 (by decide) _ rfl ?_
                              refine Tr.load1 rfl rfl rfl Try.underlying46 rfl (by first | exact mem0 | exact mem1 | exact mem2 | exact mem3 | exact mem4 | exact mem5 | exact mem6 | exact mem7 | (repeat (first | exact List.mem_cons_self | refine List.mem_cons_of_mem _ ?_ | refine mem_seg ?_))) (by first | exact Msg.get_fCuts (by first | assumption | (simp; done) | exact Block.zero_ok | exact Vote.zero_ok | exact Reader.zero_ok | exact Cut.zero_ok | exact Cert.zero_ok | exact Msg.zero_ok | exact Inbox.zero_ok | exact Record.zero_ok | exact Kept.zero_ok  | exact hok) | exact (by first | rfl | exact get_words (by first | omega | (simp; done) | (simp; omega)) | exact get_bytes (by first | omega | (simp; done) | (simp; omega)) | exact get_ints (by first | omega | (simp; done) | (simp; omega)))) ?_
                              refine Tr.callB rfl rfl rfl rfl Body55 (all_cut m.fCuts D.dCuts) (fun w h => Cuts_ext h rfl hW.fCuts) (fun hs8_130 => ?_) (fun hs8_130 => ?_)
                              ·
                                first | have hs8_13 := of_decide_eq_true hs8_130 | have hs8_13 := of_decide_eq_false hs8_130 | have hs8_13 := nd_t hs8_130 | have hs8_13 := nd_f hs8_130 | have hs8_13 := hs8_130
                                refine Tr.not rfl rfl rfl ?_
                                refine Tr.pick rfl rfl rfl rfl rfl rfl ?_
                                refine Tr.move rfl rfl rfl ?_
                                refine Tr.fld rfl rfl rfl Try.underlying49 rfl Sz47 (by decide) _ rfl ?_
                                refine Tr.load1 rfl rfl rfl Try.underlying47 rfl (by first | exact mem0 | exact mem1 | exact mem2 | exact mem3 | exact mem4 | exact mem5 | exact mem6 | exact mem7 | (repeat (first | exact List.mem_cons_self | refine List.mem_cons_of_mem _ ?_ | refine mem_seg ?_))) (by first | exact Msg.get_fCerts (by first | assumption | (simp; done) | exact Block.zero_ok | exact Vote.zero_ok | exact Reader.zero_ok | exact Cut.zero_ok | exact Cert.zero_ok | exact Msg.zero_ok | exact Inbox.zero_ok | exact Record.zero_ok | exact Kept.zero_ok  | exact hok) | exact (by first | rfl | exact get_words (by first | omega | (simp; done) | (simp; omega)) | exact get_bytes (by first | omega | (simp; done) | (simp; omega)) | exact get_ints (by first | omega | (simp; done) | (simp; omega)))) ?_
                                refine Tr.callV rfl rfl rfl rfl Body57 (all_cert m.fCerts D.dCerts) (fun w h => Certs_ext h rfl hW.fCerts) ?_
                                refine Tr.not rfl rfl rfl ?_
                                refine Tr.pick rfl rfl rfl rfl rfl rfl ?_
                                refine Tr.nil ?_
                                refine at_n ?_
                                first
                                  | refine Sat.condP rfl (fun hc3 => ?_) (fun hc3 => ?_)
                                  | refine Sat.condNP rfl (fun hc3 => ?_) (fun hc3 => ?_)
                                  | refine Sat.cond rfl (fun hc3 => ?_) (fun hc3 => ?_)
                                ·
                                  have hx3 : ¬ (D.dCerts.all fun d => decide (d.check = 0)) = true := fun e => by rw [e] at hc3; cases hc3
                                  refine Sat.seq ?_
                                  -- region 9
                                  refine Sat.region ?_
                                  refine Tr.assign rfl rfl rfl ?_
                                  refine Tr.nil ?_
                                  refine at_n ?_
                                  refine Sat.ret ?_
                                  refine at_r ?_
                                  refine en_r ?_
                                  refine ⟨_, [], res_tmp rfl rfl, (by simp), (by simp), ?_, rfl⟩
                                  first
                                    | exact congrArg i64 (msg_bad (by
                                        simp only [DMsg.bad, ← eK, ← eH, ← hu, ← hl.heads, ← hl.want, ← hl.blocks, ← hl.votes, ← hl.cuts, ← hl.certs]
                                        first
                                          | exact .inl (‹_›)
                                          | exact .inr (.inl (‹_›))
                                          | exact .inr (.inr (.inl (‹_›)))
                                          | exact .inr (.inr (.inr (.inl (‹_›))))
                                          | exact .inr (.inr (.inr (.inr (.inl (‹_›)))))
                                          | exact .inr (.inr (.inr (.inr (.inr (.inl (‹_›))))))
                                          | exact .inr (.inr (.inr (.inr (.inr (.inr (.inl (‹_›)))))))
                                          | exact .inr (.inr (.inr (.inr (.inr (.inr (.inr (.inl (‹_›))))))))
                                          | exact .inr (.inr (.inr (.inr (.inr (.inr (.inr (.inr (.inl (‹_›)))))))))
                                          | exact .inr (.inr (.inr (.inr (.inr (.inr (.inr (.inr (.inr (.inl (⟨‹_›, ‹_›, ‹_›⟩))))))))))
                                          | exact .inr (.inr (.inr (.inr (.inr (.inr (.inr (.inr (.inr (.inl (⟨by omega, by omega, by omega⟩))))))))))
                                          | exact .inr (.inr (.inr (.inr (.inr (.inr (.inr (.inr (.inr (.inr (.inl (‹_›)))))))))))
                                          | exact .inr (.inr (.inr (.inr (.inr (.inr (.inr (.inr (.inr (.inr (.inr (.inl (‹_›))))))))))))
                                          | exact .inr (.inr (.inr (.inr (.inr (.inr (.inr (.inr (.inr (.inr (.inr (.inr (.inl (‹_›)))))))))))))
                                          | exact .inr (.inr (.inr (.inr (.inr (.inr (.inr (.inr (.inr (.inr (.inr (.inr (.inr (‹_›)))))))))))))
                                          | exact .inr (.inr (.inr (.inr (.inr (.inr (.inr (.inr (.inr (.inr (.inl (fun e => Bool.noConfusion (hs8_2.symm.trans e))))))))))))
                                          | exact .inr (.inr (.inr (.inr (.inr (.inr (.inr (.inr (.inr (.inr (.inr (.inl (fun e => Bool.noConfusion (hs8_7.symm.trans e)))))))))))))
                                          | exact .inr (.inr (.inr (.inr (.inr (.inr (.inr (.inr (.inr (.inr (.inr (.inr (.inl (fun e => Bool.noConfusion (hs8_13.symm.trans e)))))))))))))))).symm
                                    | exact congrArg i64 (msg_good (by
                                        simp only [DMsg.bad, ← eK, ← eH, ← hu, ← hl.heads, ← hl.want, ← hl.blocks, ← hl.votes, ← hl.cuts, ← hl.certs]
                                        rintro (h | h | h | h | h | h | h | h | h | h | h | h | h | h)
                                        all_goals first | exact h ‹_› | omega | (simp_all; done))).symm
                                ·
                                  have hx4 : (D.dCerts.all fun d => decide (d.check = 0)) = true := by
                                    cases e : (D.dCerts.all fun d => decide (d.check = 0))
                                    · rw [e] at hc3; cases hc3
                                    · rfl
                                  refine Sat.skip ?_
                                  refine at_n ?_
                                  refine Sat.seq ?_
                                  -- region 10
                                  refine Sat.region ?_
                                  refine Tr.assign rfl rfl rfl ?_
                                  refine Tr.nil ?_
                                  refine at_n ?_
                                  refine Sat.ret ?_
                                  refine en_r ?_
                                  refine ⟨_, [], res_tmp rfl rfl, (by simp), (by simp), ?_, rfl⟩
                                  first
                                    | exact congrArg i64 (msg_bad (by
                                        simp only [DMsg.bad, ← eK, ← eH, ← hu, ← hl.heads, ← hl.want, ← hl.blocks, ← hl.votes, ← hl.cuts, ← hl.certs]
                                        first
                                          | exact .inl (‹_›)
                                          | exact .inr (.inl (‹_›))
                                          | exact .inr (.inr (.inl (‹_›)))
                                          | exact .inr (.inr (.inr (.inl (‹_›))))
                                          | exact .inr (.inr (.inr (.inr (.inl (‹_›)))))
                                          | exact .inr (.inr (.inr (.inr (.inr (.inl (‹_›))))))
                                          | exact .inr (.inr (.inr (.inr (.inr (.inr (.inl (‹_›)))))))
                                          | exact .inr (.inr (.inr (.inr (.inr (.inr (.inr (.inl (‹_›))))))))
                                          | exact .inr (.inr (.inr (.inr (.inr (.inr (.inr (.inr (.inl (‹_›)))))))))
                                          | exact .inr (.inr (.inr (.inr (.inr (.inr (.inr (.inr (.inr (.inl (⟨‹_›, ‹_›, ‹_›⟩))))))))))
                                          | exact .inr (.inr (.inr (.inr (.inr (.inr (.inr (.inr (.inr (.inl (⟨by omega, by omega, by omega⟩))))))))))
                                          | exact .inr (.inr (.inr (.inr (.inr (.inr (.inr (.inr (.inr (.inr (.inl (‹_›)))))))))))
                                          | exact .inr (.inr (.inr (.inr (.inr (.inr (.inr (.inr (.inr (.inr (.inr (.inl (‹_›))))))))))))
                                          | exact .inr (.inr (.inr (.inr (.inr (.inr (.inr (.inr (.inr (.inr (.inr (.inr (.inl (‹_›)))))))))))))
                                          | exact .inr (.inr (.inr (.inr (.inr (.inr (.inr (.inr (.inr (.inr (.inr (.inr (.inr (‹_›)))))))))))))
                                          | exact .inr (.inr (.inr (.inr (.inr (.inr (.inr (.inr (.inr (.inr (.inl (fun e => Bool.noConfusion (hs8_2.symm.trans e))))))))))))
                                          | exact .inr (.inr (.inr (.inr (.inr (.inr (.inr (.inr (.inr (.inr (.inr (.inl (fun e => Bool.noConfusion (hs8_7.symm.trans e)))))))))))))
                                          | exact .inr (.inr (.inr (.inr (.inr (.inr (.inr (.inr (.inr (.inr (.inr (.inr (.inl (fun e => Bool.noConfusion (hs8_13.symm.trans e)))))))))))))))).symm
                                    | exact congrArg i64 (msg_good (by
                                        simp only [DMsg.bad, ← eK, ← eH, ← hu, ← hl.heads, ← hl.want, ← hl.blocks, ← hl.votes, ← hl.cuts, ← hl.certs]
                                        rintro (h | h | h | h | h | h | h | h | h | h | h | h | h | h)
                                        all_goals first | exact h ‹_› | omega | (simp_all; done))).symm
                              ·
                                first | have hs8_13 := of_decide_eq_true hs8_130 | have hs8_13 := of_decide_eq_false hs8_130 | have hs8_13 := nd_t hs8_130 | have hs8_13 := nd_f hs8_130 | have hs8_13 := hs8_130
                                refine Tr.not rfl rfl rfl ?_
                                refine Tr.pick rfl rfl rfl rfl rfl rfl ?_
                                refine Tr.move rfl rfl rfl ?_
                                refine Tr.skp rfl rfl ?_
                                refine Tr.skp rfl rfl ?_
                                refine Tr.skp rfl rfl ?_
                                refine Tr.skp rfl rfl ?_
                                refine Tr.pick rfl rfl rfl rfl rfl rfl ?_
                                refine Tr.nil ?_
                                refine at_n ?_
                                refine Sat.cond_t rfl rfl ?_
                                refine Sat.seq ?_
                                -- region 9
                                refine Sat.region ?_
                                refine Tr.assign rfl rfl rfl ?_
                                refine Tr.nil ?_
                                refine at_n ?_
                                refine Sat.ret ?_
                                refine at_r ?_
                                refine en_r ?_
                                refine ⟨_, [], res_tmp rfl rfl, (by simp), (by simp), ?_, rfl⟩
                                first
                                  | exact congrArg i64 (msg_bad (by
                                      simp only [DMsg.bad, ← eK, ← eH, ← hu, ← hl.heads, ← hl.want, ← hl.blocks, ← hl.votes, ← hl.cuts, ← hl.certs]
                                      first
                                        | exact .inl (‹_›)
                                        | exact .inr (.inl (‹_›))
                                        | exact .inr (.inr (.inl (‹_›)))
                                        | exact .inr (.inr (.inr (.inl (‹_›))))
                                        | exact .inr (.inr (.inr (.inr (.inl (‹_›)))))
                                        | exact .inr (.inr (.inr (.inr (.inr (.inl (‹_›))))))
                                        | exact .inr (.inr (.inr (.inr (.inr (.inr (.inl (‹_›)))))))
                                        | exact .inr (.inr (.inr (.inr (.inr (.inr (.inr (.inl (‹_›))))))))
                                        | exact .inr (.inr (.inr (.inr (.inr (.inr (.inr (.inr (.inl (‹_›)))))))))
                                        | exact .inr (.inr (.inr (.inr (.inr (.inr (.inr (.inr (.inr (.inl (⟨‹_›, ‹_›, ‹_›⟩))))))))))
                                        | exact .inr (.inr (.inr (.inr (.inr (.inr (.inr (.inr (.inr (.inl (⟨by omega, by omega, by omega⟩))))))))))
                                        | exact .inr (.inr (.inr (.inr (.inr (.inr (.inr (.inr (.inr (.inr (.inl (‹_›)))))))))))
                                        | exact .inr (.inr (.inr (.inr (.inr (.inr (.inr (.inr (.inr (.inr (.inr (.inl (‹_›))))))))))))
                                        | exact .inr (.inr (.inr (.inr (.inr (.inr (.inr (.inr (.inr (.inr (.inr (.inr (.inl (‹_›)))))))))))))
                                        | exact .inr (.inr (.inr (.inr (.inr (.inr (.inr (.inr (.inr (.inr (.inr (.inr (.inr (‹_›)))))))))))))
                                        | exact .inr (.inr (.inr (.inr (.inr (.inr (.inr (.inr (.inr (.inr (.inl (fun e => Bool.noConfusion (hs8_2.symm.trans e))))))))))))
                                        | exact .inr (.inr (.inr (.inr (.inr (.inr (.inr (.inr (.inr (.inr (.inr (.inl (fun e => Bool.noConfusion (hs8_7.symm.trans e)))))))))))))
                                        | exact .inr (.inr (.inr (.inr (.inr (.inr (.inr (.inr (.inr (.inr (.inr (.inr (.inl (fun e => Bool.noConfusion (hs8_13.symm.trans e)))))))))))))))).symm
                                  | exact congrArg i64 (msg_good (by
                                      simp only [DMsg.bad, ← eK, ← eH, ← hu, ← hl.heads, ← hl.want, ← hl.blocks, ← hl.votes, ← hl.cuts, ← hl.certs]
                                      rintro (h | h | h | h | h | h | h | h | h | h | h | h | h | h)
                                      all_goals first | exact h ‹_› | omega | (simp_all; done))).symm
                            ·
                              first | have hs8_7 := of_decide_eq_true hs8_70 | have hs8_7 := of_decide_eq_false hs8_70 | have hs8_7 := nd_t hs8_70 | have hs8_7 := nd_f hs8_70 | have hs8_7 := hs8_70
                              refine Tr.not rfl rfl rfl ?_
                              refine Tr.pick rfl rfl rfl rfl rfl rfl ?_
                              refine Tr.move rfl rfl rfl ?_
                              refine Tr.skp rfl rfl ?_
                              refine Tr.skp rfl rfl ?_
                              refine Tr.skp rfl rfl ?_
                              refine Tr.skp rfl rfl ?_
                              refine Tr.pick rfl rfl rfl rfl rfl rfl ?_
                              refine Tr.move rfl rfl rfl ?_
                              refine Tr.skp rfl rfl ?_
                              refine Tr.skp rfl rfl ?_
                              refine Tr.skp rfl rfl ?_
                              refine Tr.skp rfl rfl ?_
                              refine Tr.pick rfl rfl rfl rfl rfl rfl ?_
                              refine Tr.nil ?_
                              refine at_n ?_
                              refine Sat.cond_t rfl rfl ?_
                              refine Sat.seq ?_
                              -- region 9
                              refine Sat.region ?_
                              refine Tr.assign rfl rfl rfl ?_
                              refine Tr.nil ?_
                              refine at_n ?_
                              refine Sat.ret ?_
                              refine at_r ?_
                              refine en_r ?_
                              refine ⟨_, [], res_tmp rfl rfl, (by simp), (by simp), ?_, rfl⟩
                              first
                                | exact congrArg i64 (msg_bad (by
                                    simp only [DMsg.bad, ← eK, ← eH, ← hu, ← hl.heads, ← hl.want, ← hl.blocks, ← hl.votes, ← hl.cuts, ← hl.certs]
                                    first
                                      | exact .inl (‹_›)
                                      | exact .inr (.inl (‹_›))
                                      | exact .inr (.inr (.inl (‹_›)))
                                      | exact .inr (.inr (.inr (.inl (‹_›))))
                                      | exact .inr (.inr (.inr (.inr (.inl (‹_›)))))
                                      | exact .inr (.inr (.inr (.inr (.inr (.inl (‹_›))))))
                                      | exact .inr (.inr (.inr (.inr (.inr (.inr (.inl (‹_›)))))))
                                      | exact .inr (.inr (.inr (.inr (.inr (.inr (.inr (.inl (‹_›))))))))
                                      | exact .inr (.inr (.inr (.inr (.inr (.inr (.inr (.inr (.inl (‹_›)))))))))
                                      | exact .inr (.inr (.inr (.inr (.inr (.inr (.inr (.inr (.inr (.inl (⟨‹_›, ‹_›, ‹_›⟩))))))))))
                                      | exact .inr (.inr (.inr (.inr (.inr (.inr (.inr (.inr (.inr (.inl (⟨by omega, by omega, by omega⟩))))))))))
                                      | exact .inr (.inr (.inr (.inr (.inr (.inr (.inr (.inr (.inr (.inr (.inl (‹_›)))))))))))
                                      | exact .inr (.inr (.inr (.inr (.inr (.inr (.inr (.inr (.inr (.inr (.inr (.inl (‹_›))))))))))))
                                      | exact .inr (.inr (.inr (.inr (.inr (.inr (.inr (.inr (.inr (.inr (.inr (.inr (.inl (‹_›)))))))))))))
                                      | exact .inr (.inr (.inr (.inr (.inr (.inr (.inr (.inr (.inr (.inr (.inr (.inr (.inr (‹_›)))))))))))))
                                      | exact .inr (.inr (.inr (.inr (.inr (.inr (.inr (.inr (.inr (.inr (.inl (fun e => Bool.noConfusion (hs8_2.symm.trans e))))))))))))
                                      | exact .inr (.inr (.inr (.inr (.inr (.inr (.inr (.inr (.inr (.inr (.inr (.inl (fun e => Bool.noConfusion (hs8_7.symm.trans e)))))))))))))
                                      | exact .inr (.inr (.inr (.inr (.inr (.inr (.inr (.inr (.inr (.inr (.inr (.inr (.inl (fun e => Bool.noConfusion (hs8_13.symm.trans e)))))))))))))))).symm
                                | exact congrArg i64 (msg_good (by
                                    simp only [DMsg.bad, ← eK, ← eH, ← hu, ← hl.heads, ← hl.want, ← hl.blocks, ← hl.votes, ← hl.cuts, ← hl.certs]
                                    rintro (h | h | h | h | h | h | h | h | h | h | h | h | h | h)
                                    all_goals first | exact h ‹_› | omega | (simp_all; done))).symm
                          ·
                            first | have hs8_2 := of_decide_eq_true hs8_20 | have hs8_2 := of_decide_eq_false hs8_20 | have hs8_2 := nd_t hs8_20 | have hs8_2 := nd_f hs8_20 | have hs8_2 := hs8_20
                            refine Tr.not rfl rfl rfl ?_
                            refine Tr.move rfl rfl rfl ?_
                            refine Tr.skp rfl rfl ?_
                            refine Tr.skp rfl rfl ?_
                            refine Tr.skp rfl rfl ?_
                            refine Tr.skp rfl rfl ?_
                            refine Tr.pick rfl rfl rfl rfl rfl rfl ?_
                            refine Tr.move rfl rfl rfl ?_
                            refine Tr.skp rfl rfl ?_
                            refine Tr.skp rfl rfl ?_
                            refine Tr.skp rfl rfl ?_
                            refine Tr.skp rfl rfl ?_
                            refine Tr.pick rfl rfl rfl rfl rfl rfl ?_
                            refine Tr.move rfl rfl rfl ?_
                            refine Tr.skp rfl rfl ?_
                            refine Tr.skp rfl rfl ?_
                            refine Tr.skp rfl rfl ?_
                            refine Tr.skp rfl rfl ?_
                            refine Tr.pick rfl rfl rfl rfl rfl rfl ?_
                            refine Tr.nil ?_
                            refine at_n ?_
                            refine Sat.cond_t rfl rfl ?_
                            refine Sat.seq ?_
                            -- region 9
                            refine Sat.region ?_
                            refine Tr.assign rfl rfl rfl ?_
                            refine Tr.nil ?_
                            refine at_n ?_
                            refine Sat.ret ?_
                            refine at_r ?_
                            refine en_r ?_
                            refine ⟨_, [], res_tmp rfl rfl, (by simp), (by simp), ?_, rfl⟩
                            first
                              | exact congrArg i64 (msg_bad (by
                                  simp only [DMsg.bad, ← eK, ← eH, ← hu, ← hl.heads, ← hl.want, ← hl.blocks, ← hl.votes, ← hl.cuts, ← hl.certs]
                                  first
                                    | exact .inl (‹_›)
                                    | exact .inr (.inl (‹_›))
                                    | exact .inr (.inr (.inl (‹_›)))
                                    | exact .inr (.inr (.inr (.inl (‹_›))))
                                    | exact .inr (.inr (.inr (.inr (.inl (‹_›)))))
                                    | exact .inr (.inr (.inr (.inr (.inr (.inl (‹_›))))))
                                    | exact .inr (.inr (.inr (.inr (.inr (.inr (.inl (‹_›)))))))
                                    | exact .inr (.inr (.inr (.inr (.inr (.inr (.inr (.inl (‹_›))))))))
                                    | exact .inr (.inr (.inr (.inr (.inr (.inr (.inr (.inr (.inl (‹_›)))))))))
                                    | exact .inr (.inr (.inr (.inr (.inr (.inr (.inr (.inr (.inr (.inl (⟨‹_›, ‹_›, ‹_›⟩))))))))))
                                    | exact .inr (.inr (.inr (.inr (.inr (.inr (.inr (.inr (.inr (.inl (⟨by omega, by omega, by omega⟩))))))))))
                                    | exact .inr (.inr (.inr (.inr (.inr (.inr (.inr (.inr (.inr (.inr (.inl (‹_›)))))))))))
                                    | exact .inr (.inr (.inr (.inr (.inr (.inr (.inr (.inr (.inr (.inr (.inr (.inl (‹_›))))))))))))
                                    | exact .inr (.inr (.inr (.inr (.inr (.inr (.inr (.inr (.inr (.inr (.inr (.inr (.inl (‹_›)))))))))))))
                                    | exact .inr (.inr (.inr (.inr (.inr (.inr (.inr (.inr (.inr (.inr (.inr (.inr (.inr (‹_›)))))))))))))
                                    | exact .inr (.inr (.inr (.inr (.inr (.inr (.inr (.inr (.inr (.inr (.inl (fun e => Bool.noConfusion (hs8_2.symm.trans e))))))))))))
                                    | exact .inr (.inr (.inr (.inr (.inr (.inr (.inr (.inr (.inr (.inr (.inr (.inl (fun e => Bool.noConfusion (hs8_7.symm.trans e)))))))))))))
                                    | exact .inr (.inr (.inr (.inr (.inr (.inr (.inr (.inr (.inr (.inr (.inr (.inr (.inl (fun e => Bool.noConfusion (hs8_13.symm.trans e)))))))))))))))).symm
                              | exact congrArg i64 (msg_good (by
                                  simp only [DMsg.bad, ← eK, ← eH, ← hu, ← hl.heads, ← hl.want, ← hl.blocks, ← hl.votes, ← hl.cuts, ← hl.certs]
                                  rintro (h | h | h | h | h | h | h | h | h | h | h | h | h | h)
                                  all_goals first | exact h ‹_› | omega | (simp_all; done))).symm
                      ·
                        first | have hs6_6 := of_decide_eq_true hs6_60 | have hs6_6 := of_decide_eq_false hs6_60 | have hs6_6 := nd_t hs6_60 | have hs6_6 := nd_f hs6_60 | have hs6_6 := hs6_60
                        refine Tr.pick rfl rfl rfl rfl rfl rfl ?_
                        refine Tr.move rfl rfl rfl ?_
                        refine Tr.skp rfl rfl ?_
                        refine Tr.skp rfl rfl ?_
                        refine Tr.skp rfl rfl ?_
                        refine Tr.pick rfl rfl rfl rfl rfl rfl ?_
                        refine Tr.nil ?_
                        refine at_n ?_
                        refine Sat.cond_f rfl rfl ?_
                        refine Sat.skip ?_
                        refine at_n ?_
                        refine Sat.seq ?_
                        refine Sat.seq ?_
                        -- region 8
                        refine Sat.region ?_
                        refine Tr.fld rfl rfl rfl Try.underlying49 rfl Sz34 (by decide) _ rfl ?_
                        refine Tr.load1 rfl rfl rfl Try.underlying34 rfl (by first | exact mem0 | exact mem1 | exact mem2 | exact mem3 | exact mem4 | exact mem5 | exact mem6 | exact mem7 | (repeat (first | exact List.mem_cons_self | refine List.mem_cons_of_mem _ ?_ | refine mem_seg ?_))) (by first | exact Msg.get_fBlocks (by first | assumption | (simp; done) | exact Block.zero_ok | exact Vote.zero_ok | exact Reader.zero_ok | exact Cut.zero_ok | exact Cert.zero_ok | exact Msg.zero_ok | exact Inbox.zero_ok | exact Record.zero_ok | exact Kept.zero_ok  | exact hok) | exact (by first | rfl | exact get_words (by first | omega | (simp; done) | (simp; omega)) | exact get_bytes (by first | omega | (simp; done) | (simp; omega)) | exact get_ints (by first | omega | (simp; done) | (simp; omega)))) ?_
                        refine Tr.callB rfl rfl rfl rfl Body52 (all_block m.fBlocks D.dBlocks) (fun w h => Blocks_ext h rfl hW.fBlocks) (fun hs8_20 => ?_) (fun hs8_20 => ?_)
                        ·
                          first | have hs8_2 := of_decide_eq_true hs8_20 | have hs8_2 := of_decide_eq_false hs8_20 | have hs8_2 := nd_t hs8_20 | have hs8_2 := nd_f hs8_20 | have hs8_2 := hs8_20
                          refine Tr.not rfl rfl rfl ?_
                          refine Tr.move rfl rfl rfl ?_
                          refine Tr.fld rfl rfl rfl Try.underlying49 rfl Sz45 (by decide) _ rfl ?_
                          refine Tr.load1 rfl rfl rfl Try.underlying45 rfl (by first | exact mem0 | exact mem1 | exact mem2 | exact mem3 | exact mem4 | exact mem5 | exact mem6 | exact mem7 | (repeat (first | exact List.mem_cons_self | refine List.mem_cons_of_mem _ ?_ | refine mem_seg ?_))) (by first | exact Msg.get_fVotes (by first | assumption | (simp; done) | exact Block.zero_ok | exact Vote.zero_ok | exact Reader.zero_ok | exact Cut.zero_ok | exact Cert.zero_ok | exact Msg.zero_ok | exact Inbox.zero_ok | exact Record.zero_ok | exact Kept.zero_ok  | exact hok) | exact (by first | rfl | exact get_words (by first | omega | (simp; done) | (simp; omega)) | exact get_bytes (by first | omega | (simp; done) | (simp; omega)) | exact get_ints (by first | omega | (simp; done) | (simp; omega)))) ?_
                          refine Tr.callB rfl rfl rfl rfl Body53 (all_vote m.fVotes D.dVotes) (fun w h => Votes_ext h rfl hW.fVotes) (fun hs8_70 => ?_) (fun hs8_70 => ?_)
                          ·
                            first | have hs8_7 := of_decide_eq_true hs8_70 | have hs8_7 := of_decide_eq_false hs8_70 | have hs8_7 := nd_t hs8_70 | have hs8_7 := nd_f hs8_70 | have hs8_7 := hs8_70
                            refine Tr.not rfl rfl rfl ?_
                            refine Tr.pick rfl rfl rfl rfl rfl rfl ?_
                            refine Tr.move rfl rfl rfl ?_
                            refine Tr.fld rfl rfl rfl Try.underlying49 rfl Sz46 (by decide) _ rfl ?_
                            refine Tr.load1 rfl rfl rfl Try.underlying46 rfl (by first | exact mem0 | exact mem1 | exact mem2 | exact mem3 | exact mem4 | exact mem5 | exact mem6 | exact mem7 | (repeat (first | exact List.mem_cons_self | refine List.mem_cons_of_mem _ ?_ | refine mem_seg ?_))) (by first | exact Msg.get_fCuts (by first | assumption | (simp; done) | exact Block.zero_ok | exact Vote.zero_ok | exact Reader.zero_ok | exact Cut.zero_ok | exact Cert.zero_ok | exact Msg.zero_ok | exact Inbox.zero_ok | exact Record.zero_ok | exact Kept.zero_ok  | exact hok) | exact (by first | rfl | exact get_words (by first | omega | (simp; done) | (simp; omega)) | exact get_bytes (by first | omega | (simp; done) | (simp; omega)) | exact get_ints (by first | omega | (simp; done) | (simp; omega)))) ?_
                            refine Tr.callB rfl rfl rfl rfl Body55 (all_cut m.fCuts D.dCuts) (fun w h => Cuts_ext h rfl hW.fCuts) (fun hs8_130 => ?_) (fun hs8_130 => ?_)
                            ·
                              first | have hs8_13 := of_decide_eq_true hs8_130 | have hs8_13 := of_decide_eq_false hs8_130 | have hs8_13 := nd_t hs8_130 | have hs8_13 := nd_f hs8_130 | have hs8_13 := hs8_130
                              refine Tr.not rfl rfl rfl ?_
                              refine Tr.pick rfl rfl rfl rfl rfl rfl ?_
                              refine Tr.move rfl rfl rfl ?_
                              refine Tr.fld rfl rfl rfl Try.underlying49 rfl Sz47 (by decide) _ rfl ?_
                              refine Tr.load1 rfl rfl rfl Try.underlying47 rfl (by first | exact mem0 | exact mem1 | exact mem2 | exact mem3 | exact mem4 | exact mem5 | exact mem6 | exact mem7 | (repeat (first | exact List.mem_cons_self | refine List.mem_cons_of_mem _ ?_ | refine mem_seg ?_))) (by first | exact Msg.get_fCerts (by first | assumption | (simp; done) | exact Block.zero_ok | exact Vote.zero_ok | exact Reader.zero_ok | exact Cut.zero_ok | exact Cert.zero_ok | exact Msg.zero_ok | exact Inbox.zero_ok | exact Record.zero_ok | exact Kept.zero_ok  | exact hok) | exact (by first | rfl | exact get_words (by first | omega | (simp; done) | (simp; omega)) | exact get_bytes (by first | omega | (simp; done) | (simp; omega)) | exact get_ints (by first | omega | (simp; done) | (simp; omega)))) ?_
                              refine Tr.callV rfl rfl rfl rfl Body57 (all_cert m.fCerts D.dCerts) (fun w h => Certs_ext h rfl hW.fCerts) ?_
                              refine Tr.not rfl rfl rfl ?_
                              refine Tr.pick rfl rfl rfl rfl rfl rfl ?_
                              refine Tr.nil ?_
                              refine at_n ?_
                              first
                                | refine Sat.condP rfl (fun hc3 => ?_) (fun hc3 => ?_)
                                | refine Sat.condNP rfl (fun hc3 => ?_) (fun hc3 => ?_)
                                | refine Sat.cond rfl (fun hc3 => ?_) (fun hc3 => ?_)
                              ·
                                have hx3 : ¬ (D.dCerts.all fun d => decide (d.check = 0)) = true := fun e => by rw [e] at hc3; cases hc3
                                refine Sat.seq ?_
                                -- region 9
                                refine Sat.region ?_
                                refine Tr.assign rfl rfl rfl ?_
                                refine Tr.nil ?_
                                refine at_n ?_
                                refine Sat.ret ?_
                                refine at_r ?_
                                refine en_r ?_
                                refine ⟨_, [], res_tmp rfl rfl, (by simp), (by simp), ?_, rfl⟩
                                first
                                  | exact congrArg i64 (msg_bad (by
                                      simp only [DMsg.bad, ← eK, ← eH, ← hu, ← hl.heads, ← hl.want, ← hl.blocks, ← hl.votes, ← hl.cuts, ← hl.certs]
                                      first
                                        | exact .inl (‹_›)
                                        | exact .inr (.inl (‹_›))
                                        | exact .inr (.inr (.inl (‹_›)))
                                        | exact .inr (.inr (.inr (.inl (‹_›))))
                                        | exact .inr (.inr (.inr (.inr (.inl (‹_›)))))
                                        | exact .inr (.inr (.inr (.inr (.inr (.inl (‹_›))))))
                                        | exact .inr (.inr (.inr (.inr (.inr (.inr (.inl (‹_›)))))))
                                        | exact .inr (.inr (.inr (.inr (.inr (.inr (.inr (.inl (‹_›))))))))
                                        | exact .inr (.inr (.inr (.inr (.inr (.inr (.inr (.inr (.inl (‹_›)))))))))
                                        | exact .inr (.inr (.inr (.inr (.inr (.inr (.inr (.inr (.inr (.inl (⟨‹_›, ‹_›, ‹_›⟩))))))))))
                                        | exact .inr (.inr (.inr (.inr (.inr (.inr (.inr (.inr (.inr (.inl (⟨by omega, by omega, by omega⟩))))))))))
                                        | exact .inr (.inr (.inr (.inr (.inr (.inr (.inr (.inr (.inr (.inr (.inl (‹_›)))))))))))
                                        | exact .inr (.inr (.inr (.inr (.inr (.inr (.inr (.inr (.inr (.inr (.inr (.inl (‹_›))))))))))))
                                        | exact .inr (.inr (.inr (.inr (.inr (.inr (.inr (.inr (.inr (.inr (.inr (.inr (.inl (‹_›)))))))))))))
                                        | exact .inr (.inr (.inr (.inr (.inr (.inr (.inr (.inr (.inr (.inr (.inr (.inr (.inr (‹_›)))))))))))))
                                        | exact .inr (.inr (.inr (.inr (.inr (.inr (.inr (.inr (.inr (.inr (.inl (fun e => Bool.noConfusion (hs8_2.symm.trans e))))))))))))
                                        | exact .inr (.inr (.inr (.inr (.inr (.inr (.inr (.inr (.inr (.inr (.inr (.inl (fun e => Bool.noConfusion (hs8_7.symm.trans e)))))))))))))
                                        | exact .inr (.inr (.inr (.inr (.inr (.inr (.inr (.inr (.inr (.inr (.inr (.inr (.inl (fun e => Bool.noConfusion (hs8_13.symm.trans e)))))))))))))))).symm
                                  | exact congrArg i64 (msg_good (by
                                      simp only [DMsg.bad, ← eK, ← eH, ← hu, ← hl.heads, ← hl.want, ← hl.blocks, ← hl.votes, ← hl.cuts, ← hl.certs]
                                      rintro (h | h | h | h | h | h | h | h | h | h | h | h | h | h)
                                      all_goals first | exact h ‹_› | omega | (simp_all; done))).symm
                              ·
                                have hx4 : (D.dCerts.all fun d => decide (d.check = 0)) = true := by
                                  cases e : (D.dCerts.all fun d => decide (d.check = 0))
                                  · rw [e] at hc3; cases hc3
                                  · rfl
                                refine Sat.skip ?_
                                refine at_n ?_
                                refine Sat.seq ?_
                                -- region 10
                                refine Sat.region ?_
                                refine Tr.assign rfl rfl rfl ?_
                                refine Tr.nil ?_
                                refine at_n ?_
                                refine Sat.ret ?_
                                refine en_r ?_
                                refine ⟨_, [], res_tmp rfl rfl, (by simp), (by simp), ?_, rfl⟩
                                first
                                  | exact congrArg i64 (msg_bad (by
                                      simp only [DMsg.bad, ← eK, ← eH, ← hu, ← hl.heads, ← hl.want, ← hl.blocks, ← hl.votes, ← hl.cuts, ← hl.certs]
                                      first
                                        | exact .inl (‹_›)
                                        | exact .inr (.inl (‹_›))
                                        | exact .inr (.inr (.inl (‹_›)))
                                        | exact .inr (.inr (.inr (.inl (‹_›))))
                                        | exact .inr (.inr (.inr (.inr (.inl (‹_›)))))
                                        | exact .inr (.inr (.inr (.inr (.inr (.inl (‹_›))))))
                                        | exact .inr (.inr (.inr (.inr (.inr (.inr (.inl (‹_›)))))))
                                        | exact .inr (.inr (.inr (.inr (.inr (.inr (.inr (.inl (‹_›))))))))
                                        | exact .inr (.inr (.inr (.inr (.inr (.inr (.inr (.inr (.inl (‹_›)))))))))
                                        | exact .inr (.inr (.inr (.inr (.inr (.inr (.inr (.inr (.inr (.inl (⟨‹_›, ‹_›, ‹_›⟩))))))))))
                                        | exact .inr (.inr (.inr (.inr (.inr (.inr (.inr (.inr (.inr (.inl (⟨by omega, by omega, by omega⟩))))))))))
                                        | exact .inr (.inr (.inr (.inr (.inr (.inr (.inr (.inr (.inr (.inr (.inl (‹_›)))))))))))
                                        | exact .inr (.inr (.inr (.inr (.inr (.inr (.inr (.inr (.inr (.inr (.inr (.inl (‹_›))))))))))))
                                        | exact .inr (.inr (.inr (.inr (.inr (.inr (.inr (.inr (.inr (.inr (.inr (.inr (.inl (‹_›)))))))))))))
                                        | exact .inr (.inr (.inr (.inr (.inr (.inr (.inr (.inr (.inr (.inr (.inr (.inr (.inr (‹_›)))))))))))))
                                        | exact .inr (.inr (.inr (.inr (.inr (.inr (.inr (.inr (.inr (.inr (.inl (fun e => Bool.noConfusion (hs8_2.symm.trans e))))))))))))
                                        | exact .inr (.inr (.inr (.inr (.inr (.inr (.inr (.inr (.inr (.inr (.inr (.inl (fun e => Bool.noConfusion (hs8_7.symm.trans e)))))))))))))
                                        | exact .inr (.inr (.inr (.inr (.inr (.inr (.inr (.inr (.inr (.inr (.inr (.inr (.inl (fun e => Bool.noConfusion (hs8_13.symm.trans e)))))))))))))))).symm
                                  | exact congrArg i64 (msg_good (by
                                      simp only [DMsg.bad, ← eK, ← eH, ← hu, ← hl.heads, ← hl.want, ← hl.blocks, ← hl.votes, ← hl.cuts, ← hl.certs]
                                      rintro (h | h | h | h | h | h | h | h | h | h | h | h | h | h)
                                      all_goals first | exact h ‹_› | omega | (simp_all; done))).symm
                            ·
                              first | have hs8_13 := of_decide_eq_true hs8_130 | have hs8_13 := of_decide_eq_false hs8_130 | have hs8_13 := nd_t hs8_130 | have hs8_13 := nd_f hs8_130 | have hs8_13 := hs8_130
                              refine Tr.not rfl rfl rfl ?_
                              refine Tr.pick rfl rfl rfl rfl rfl rfl ?_
                              refine Tr.move rfl rfl rfl ?_
                              refine Tr.skp rfl rfl ?_
                              refine Tr.skp rfl rfl ?_
                              refine Tr.skp rfl rfl ?_
                              refine Tr.skp rfl rfl ?_
                              refine Tr.pick rfl rfl rfl rfl rfl rfl ?_
                              refine Tr.nil ?_
                              refine at_n ?_
                              refine Sat.cond_t rfl rfl ?_
                              refine Sat.seq ?_
                              -- region 9
                              refine Sat.region ?_
                              refine Tr.assign rfl rfl rfl ?_
                              refine Tr.nil ?_
                              refine at_n ?_
                              refine Sat.ret ?_
                              refine at_r ?_
                              refine en_r ?_
                              refine ⟨_, [], res_tmp rfl rfl, (by simp), (by simp), ?_, rfl⟩
                              first
                                | exact congrArg i64 (msg_bad (by
                                    simp only [DMsg.bad, ← eK, ← eH, ← hu, ← hl.heads, ← hl.want, ← hl.blocks, ← hl.votes, ← hl.cuts, ← hl.certs]
                                    first
                                      | exact .inl (‹_›)
                                      | exact .inr (.inl (‹_›))
                                      | exact .inr (.inr (.inl (‹_›)))
                                      | exact .inr (.inr (.inr (.inl (‹_›))))
                                      | exact .inr (.inr (.inr (.inr (.inl (‹_›)))))
                                      | exact .inr (.inr (.inr (.inr (.inr (.inl (‹_›))))))
                                      | exact .inr (.inr (.inr (.inr (.inr (.inr (.inl (‹_›)))))))
                                      | exact .inr (.inr (.inr (.inr (.inr (.inr (.inr (.inl (‹_›))))))))
                                      | exact .inr (.inr (.inr (.inr (.inr (.inr (.inr (.inr (.inl (‹_›)))))))))
                                      | exact .inr (.inr (.inr (.inr (.inr (.inr (.inr (.inr (.inr (.inl (⟨‹_›, ‹_›, ‹_›⟩))))))))))
                                      | exact .inr (.inr (.inr (.inr (.inr (.inr (.inr (.inr (.inr (.inl (⟨by omega, by omega, by omega⟩))))))))))
                                      | exact .inr (.inr (.inr (.inr (.inr (.inr (.inr (.inr (.inr (.inr (.inl (‹_›)))))))))))
                                      | exact .inr (.inr (.inr (.inr (.inr (.inr (.inr (.inr (.inr (.inr (.inr (.inl (‹_›))))))))))))
                                      | exact .inr (.inr (.inr (.inr (.inr (.inr (.inr (.inr (.inr (.inr (.inr (.inr (.inl (‹_›)))))))))))))
                                      | exact .inr (.inr (.inr (.inr (.inr (.inr (.inr (.inr (.inr (.inr (.inr (.inr (.inr (‹_›)))))))))))))
                                      | exact .inr (.inr (.inr (.inr (.inr (.inr (.inr (.inr (.inr (.inr (.inl (fun e => Bool.noConfusion (hs8_2.symm.trans e))))))))))))
                                      | exact .inr (.inr (.inr (.inr (.inr (.inr (.inr (.inr (.inr (.inr (.inr (.inl (fun e => Bool.noConfusion (hs8_7.symm.trans e)))))))))))))
                                      | exact .inr (.inr (.inr (.inr (.inr (.inr (.inr (.inr (.inr (.inr (.inr (.inr (.inl (fun e => Bool.noConfusion (hs8_13.symm.trans e)))))))))))))))).symm
                                | exact congrArg i64 (msg_good (by
                                    simp only [DMsg.bad, ← eK, ← eH, ← hu, ← hl.heads, ← hl.want, ← hl.blocks, ← hl.votes, ← hl.cuts, ← hl.certs]
                                    rintro (h | h | h | h | h | h | h | h | h | h | h | h | h | h)
                                    all_goals first | exact h ‹_› | omega | (simp_all; done))).symm
                          ·
                            first | have hs8_7 := of_decide_eq_true hs8_70 | have hs8_7 := of_decide_eq_false hs8_70 | have hs8_7 := nd_t hs8_70 | have hs8_7 := nd_f hs8_70 | have hs8_7 := hs8_70
                            refine Tr.not rfl rfl rfl ?_
                            refine Tr.pick rfl rfl rfl rfl rfl rfl ?_
                            refine Tr.move rfl rfl rfl ?_
                            refine Tr.skp rfl rfl ?_
                            refine Tr.skp rfl rfl ?_
                            refine Tr.skp rfl rfl ?_
                            refine Tr.skp rfl rfl ?_
                            refine Tr.pick rfl rfl rfl rfl rfl rfl ?_
                            refine Tr.move rfl rfl rfl ?_
                            refine Tr.skp rfl rfl ?_
                            refine Tr.skp rfl rfl ?_
                            refine Tr.skp rfl rfl ?_
                            refine Tr.skp rfl rfl ?_
                            refine Tr.pick rfl rfl rfl rfl rfl rfl ?_
                            refine Tr.nil ?_
                            refine at_n ?_
                            refine Sat.cond_t rfl rfl ?_
                            refine Sat.seq ?_
                            -- region 9
                            refine Sat.region ?_
                            refine Tr.assign rfl rfl rfl ?_
                            refine Tr.nil ?_
                            refine at_n ?_
                            refine Sat.ret ?_
                            refine at_r ?_
                            refine en_r ?_
                            refine ⟨_, [], res_tmp rfl rfl, (by simp), (by simp), ?_, rfl⟩
                            first
                              | exact congrArg i64 (msg_bad (by
                                  simp only [DMsg.bad, ← eK, ← eH, ← hu, ← hl.heads, ← hl.want, ← hl.blocks, ← hl.votes, ← hl.cuts, ← hl.certs]
                                  first
                                    | exact .inl (‹_›)
                                    | exact .inr (.inl (‹_›))
                                    | exact .inr (.inr (.inl (‹_›)))
                                    | exact .inr (.inr (.inr (.inl (‹_›))))
                                    | exact .inr (.inr (.inr (.inr (.inl (‹_›)))))
                                    | exact .inr (.inr (.inr (.inr (.inr (.inl (‹_›))))))
                                    | exact .inr (.inr (.inr (.inr (.inr (.inr (.inl (‹_›)))))))
                                    | exact .inr (.inr (.inr (.inr (.inr (.inr (.inr (.inl (‹_›))))))))
                                    | exact .inr (.inr (.inr (.inr (.inr (.inr (.inr (.inr (.inl (‹_›)))))))))
                                    | exact .inr (.inr (.inr (.inr (.inr (.inr (.inr (.inr (.inr (.inl (⟨‹_›, ‹_›, ‹_›⟩))))))))))
                                    | exact .inr (.inr (.inr (.inr (.inr (.inr (.inr (.inr (.inr (.inl (⟨by omega, by omega, by omega⟩))))))))))
                                    | exact .inr (.inr (.inr (.inr (.inr (.inr (.inr (.inr (.inr (.inr (.inl (‹_›)))))))))))
                                    | exact .inr (.inr (.inr (.inr (.inr (.inr (.inr (.inr (.inr (.inr (.inr (.inl (‹_›))))))))))))
                                    | exact .inr (.inr (.inr (.inr (.inr (.inr (.inr (.inr (.inr (.inr (.inr (.inr (.inl (‹_›)))))))))))))
                                    | exact .inr (.inr (.inr (.inr (.inr (.inr (.inr (.inr (.inr (.inr (.inr (.inr (.inr (‹_›)))))))))))))
                                    | exact .inr (.inr (.inr (.inr (.inr (.inr (.inr (.inr (.inr (.inr (.inl (fun e => Bool.noConfusion (hs8_2.symm.trans e))))))))))))
                                    | exact .inr (.inr (.inr (.inr (.inr (.inr (.inr (.inr (.inr (.inr (.inr (.inl (fun e => Bool.noConfusion (hs8_7.symm.trans e)))))))))))))
                                    | exact .inr (.inr (.inr (.inr (.inr (.inr (.inr (.inr (.inr (.inr (.inr (.inr (.inl (fun e => Bool.noConfusion (hs8_13.symm.trans e)))))))))))))))).symm
                              | exact congrArg i64 (msg_good (by
                                  simp only [DMsg.bad, ← eK, ← eH, ← hu, ← hl.heads, ← hl.want, ← hl.blocks, ← hl.votes, ← hl.cuts, ← hl.certs]
                                  rintro (h | h | h | h | h | h | h | h | h | h | h | h | h | h)
                                  all_goals first | exact h ‹_› | omega | (simp_all; done))).symm
                        ·
                          first | have hs8_2 := of_decide_eq_true hs8_20 | have hs8_2 := of_decide_eq_false hs8_20 | have hs8_2 := nd_t hs8_20 | have hs8_2 := nd_f hs8_20 | have hs8_2 := hs8_20
                          refine Tr.not rfl rfl rfl ?_
                          refine Tr.move rfl rfl rfl ?_
                          refine Tr.skp rfl rfl ?_
                          refine Tr.skp rfl rfl ?_
                          refine Tr.skp rfl rfl ?_
                          refine Tr.skp rfl rfl ?_
                          refine Tr.pick rfl rfl rfl rfl rfl rfl ?_
                          refine Tr.move rfl rfl rfl ?_
                          refine Tr.skp rfl rfl ?_
                          refine Tr.skp rfl rfl ?_
                          refine Tr.skp rfl rfl ?_
                          refine Tr.skp rfl rfl ?_
                          refine Tr.pick rfl rfl rfl rfl rfl rfl ?_
                          refine Tr.move rfl rfl rfl ?_
                          refine Tr.skp rfl rfl ?_
                          refine Tr.skp rfl rfl ?_
                          refine Tr.skp rfl rfl ?_
                          refine Tr.skp rfl rfl ?_
                          refine Tr.pick rfl rfl rfl rfl rfl rfl ?_
                          refine Tr.nil ?_
                          refine at_n ?_
                          refine Sat.cond_t rfl rfl ?_
                          refine Sat.seq ?_
                          -- region 9
                          refine Sat.region ?_
                          refine Tr.assign rfl rfl rfl ?_
                          refine Tr.nil ?_
                          refine at_n ?_
                          refine Sat.ret ?_
                          refine at_r ?_
                          refine en_r ?_
                          refine ⟨_, [], res_tmp rfl rfl, (by simp), (by simp), ?_, rfl⟩
                          first
                            | exact congrArg i64 (msg_bad (by
                                simp only [DMsg.bad, ← eK, ← eH, ← hu, ← hl.heads, ← hl.want, ← hl.blocks, ← hl.votes, ← hl.cuts, ← hl.certs]
                                first
                                  | exact .inl (‹_›)
                                  | exact .inr (.inl (‹_›))
                                  | exact .inr (.inr (.inl (‹_›)))
                                  | exact .inr (.inr (.inr (.inl (‹_›))))
                                  | exact .inr (.inr (.inr (.inr (.inl (‹_›)))))
                                  | exact .inr (.inr (.inr (.inr (.inr (.inl (‹_›))))))
                                  | exact .inr (.inr (.inr (.inr (.inr (.inr (.inl (‹_›)))))))
                                  | exact .inr (.inr (.inr (.inr (.inr (.inr (.inr (.inl (‹_›))))))))
                                  | exact .inr (.inr (.inr (.inr (.inr (.inr (.inr (.inr (.inl (‹_›)))))))))
                                  | exact .inr (.inr (.inr (.inr (.inr (.inr (.inr (.inr (.inr (.inl (⟨‹_›, ‹_›, ‹_›⟩))))))))))
                                  | exact .inr (.inr (.inr (.inr (.inr (.inr (.inr (.inr (.inr (.inl (⟨by omega, by omega, by omega⟩))))))))))
                                  | exact .inr (.inr (.inr (.inr (.inr (.inr (.inr (.inr (.inr (.inr (.inl (‹_›)))))))))))
                                  | exact .inr (.inr (.inr (.inr (.inr (.inr (.inr (.inr (.inr (.inr (.inr (.inl (‹_›))))))))))))
                                  | exact .inr (.inr (.inr (.inr (.inr (.inr (.inr (.inr (.inr (.inr (.inr (.inr (.inl (‹_›)))))))))))))
                                  | exact .inr (.inr (.inr (.inr (.inr (.inr (.inr (.inr (.inr (.inr (.inr (.inr (.inr (‹_›)))))))))))))
                                  | exact .inr (.inr (.inr (.inr (.inr (.inr (.inr (.inr (.inr (.inr (.inl (fun e => Bool.noConfusion (hs8_2.symm.trans e))))))))))))
                                  | exact .inr (.inr (.inr (.inr (.inr (.inr (.inr (.inr (.inr (.inr (.inr (.inl (fun e => Bool.noConfusion (hs8_7.symm.trans e)))))))))))))
                                  | exact .inr (.inr (.inr (.inr (.inr (.inr (.inr (.inr (.inr (.inr (.inr (.inr (.inl (fun e => Bool.noConfusion (hs8_13.symm.trans e)))))))))))))))).symm
                            | exact congrArg i64 (msg_good (by
                                simp only [DMsg.bad, ← eK, ← eH, ← hu, ← hl.heads, ← hl.want, ← hl.blocks, ← hl.votes, ← hl.cuts, ← hl.certs]
                                rintro (h | h | h | h | h | h | h | h | h | h | h | h | h | h)
                                all_goals first | exact h ‹_› | omega | (simp_all; done))).symm
                    ·
                      first | have hs6_2 := of_decide_eq_true hs6_20 | have hs6_2 := of_decide_eq_false hs6_20 | have hs6_2 := nd_t hs6_20 | have hs6_2 := nd_f hs6_20 | have hs6_2 := hs6_20
                      refine Tr.move rfl rfl rfl ?_
                      refine Tr.skp rfl rfl ?_
                      refine Tr.skp rfl rfl ?_
                      refine Tr.skp rfl rfl ?_
                      refine Tr.pick rfl rfl rfl rfl rfl rfl ?_
                      refine Tr.move rfl rfl rfl ?_
                      refine Tr.skp rfl rfl ?_
                      refine Tr.skp rfl rfl ?_
                      refine Tr.skp rfl rfl ?_
                      refine Tr.pick rfl rfl rfl rfl rfl rfl ?_
                      refine Tr.nil ?_
                      refine at_n ?_
                      refine Sat.cond_f rfl rfl ?_
                      refine Sat.skip ?_
                      refine at_n ?_
                      refine Sat.seq ?_
                      refine Sat.seq ?_
                      -- region 8
                      refine Sat.region ?_
                      refine Tr.fld rfl rfl rfl Try.underlying49 rfl Sz34 (by decide) _ rfl ?_
                      refine Tr.load1 rfl rfl rfl Try.underlying34 rfl (by first | exact mem0 | exact mem1 | exact mem2 | exact mem3 | exact mem4 | exact mem5 | exact mem6 | exact mem7 | (repeat (first | exact List.mem_cons_self | refine List.mem_cons_of_mem _ ?_ | refine mem_seg ?_))) (by first | exact Msg.get_fBlocks (by first | assumption | (simp; done) | exact Block.zero_ok | exact Vote.zero_ok | exact Reader.zero_ok | exact Cut.zero_ok | exact Cert.zero_ok | exact Msg.zero_ok | exact Inbox.zero_ok | exact Record.zero_ok | exact Kept.zero_ok  | exact hok) | exact (by first | rfl | exact get_words (by first | omega | (simp; done) | (simp; omega)) | exact get_bytes (by first | omega | (simp; done) | (simp; omega)) | exact get_ints (by first | omega | (simp; done) | (simp; omega)))) ?_
                      refine Tr.callB rfl rfl rfl rfl Body52 (all_block m.fBlocks D.dBlocks) (fun w h => Blocks_ext h rfl hW.fBlocks) (fun hs8_20 => ?_) (fun hs8_20 => ?_)
                      ·
                        first | have hs8_2 := of_decide_eq_true hs8_20 | have hs8_2 := of_decide_eq_false hs8_20 | have hs8_2 := nd_t hs8_20 | have hs8_2 := nd_f hs8_20 | have hs8_2 := hs8_20
                        refine Tr.not rfl rfl rfl ?_
                        refine Tr.move rfl rfl rfl ?_
                        refine Tr.fld rfl rfl rfl Try.underlying49 rfl Sz45 (by decide) _ rfl ?_
                        refine Tr.load1 rfl rfl rfl Try.underlying45 rfl (by first | exact mem0 | exact mem1 | exact mem2 | exact mem3 | exact mem4 | exact mem5 | exact mem6 | exact mem7 | (repeat (first | exact List.mem_cons_self | refine List.mem_cons_of_mem _ ?_ | refine mem_seg ?_))) (by first | exact Msg.get_fVotes (by first | assumption | (simp; done) | exact Block.zero_ok | exact Vote.zero_ok | exact Reader.zero_ok | exact Cut.zero_ok | exact Cert.zero_ok | exact Msg.zero_ok | exact Inbox.zero_ok | exact Record.zero_ok | exact Kept.zero_ok  | exact hok) | exact (by first | rfl | exact get_words (by first | omega | (simp; done) | (simp; omega)) | exact get_bytes (by first | omega | (simp; done) | (simp; omega)) | exact get_ints (by first | omega | (simp; done) | (simp; omega)))) ?_
                        refine Tr.callB rfl rfl rfl rfl Body53 (all_vote m.fVotes D.dVotes) (fun w h => Votes_ext h rfl hW.fVotes) (fun hs8_70 => ?_) (fun hs8_70 => ?_)
                        ·
                          first | have hs8_7 := of_decide_eq_true hs8_70 | have hs8_7 := of_decide_eq_false hs8_70 | have hs8_7 := nd_t hs8_70 | have hs8_7 := nd_f hs8_70 | have hs8_7 := hs8_70
                          refine Tr.not rfl rfl rfl ?_
                          refine Tr.pick rfl rfl rfl rfl rfl rfl ?_
                          refine Tr.move rfl rfl rfl ?_
                          refine Tr.fld rfl rfl rfl Try.underlying49 rfl Sz46 (by decide) _ rfl ?_
                          refine Tr.load1 rfl rfl rfl Try.underlying46 rfl (by first | exact mem0 | exact mem1 | exact mem2 | exact mem3 | exact mem4 | exact mem5 | exact mem6 | exact mem7 | (repeat (first | exact List.mem_cons_self | refine List.mem_cons_of_mem _ ?_ | refine mem_seg ?_))) (by first | exact Msg.get_fCuts (by first | assumption | (simp; done) | exact Block.zero_ok | exact Vote.zero_ok | exact Reader.zero_ok | exact Cut.zero_ok | exact Cert.zero_ok | exact Msg.zero_ok | exact Inbox.zero_ok | exact Record.zero_ok | exact Kept.zero_ok  | exact hok) | exact (by first | rfl | exact get_words (by first | omega | (simp; done) | (simp; omega)) | exact get_bytes (by first | omega | (simp; done) | (simp; omega)) | exact get_ints (by first | omega | (simp; done) | (simp; omega)))) ?_
                          refine Tr.callB rfl rfl rfl rfl Body55 (all_cut m.fCuts D.dCuts) (fun w h => Cuts_ext h rfl hW.fCuts) (fun hs8_130 => ?_) (fun hs8_130 => ?_)
                          ·
                            first | have hs8_13 := of_decide_eq_true hs8_130 | have hs8_13 := of_decide_eq_false hs8_130 | have hs8_13 := nd_t hs8_130 | have hs8_13 := nd_f hs8_130 | have hs8_13 := hs8_130
                            refine Tr.not rfl rfl rfl ?_
                            refine Tr.pick rfl rfl rfl rfl rfl rfl ?_
                            refine Tr.move rfl rfl rfl ?_
                            refine Tr.fld rfl rfl rfl Try.underlying49 rfl Sz47 (by decide) _ rfl ?_
                            refine Tr.load1 rfl rfl rfl Try.underlying47 rfl (by first | exact mem0 | exact mem1 | exact mem2 | exact mem3 | exact mem4 | exact mem5 | exact mem6 | exact mem7 | (repeat (first | exact List.mem_cons_self | refine List.mem_cons_of_mem _ ?_ | refine mem_seg ?_))) (by first | exact Msg.get_fCerts (by first | assumption | (simp; done) | exact Block.zero_ok | exact Vote.zero_ok | exact Reader.zero_ok | exact Cut.zero_ok | exact Cert.zero_ok | exact Msg.zero_ok | exact Inbox.zero_ok | exact Record.zero_ok | exact Kept.zero_ok  | exact hok) | exact (by first | rfl | exact get_words (by first | omega | (simp; done) | (simp; omega)) | exact get_bytes (by first | omega | (simp; done) | (simp; omega)) | exact get_ints (by first | omega | (simp; done) | (simp; omega)))) ?_
                            refine Tr.callV rfl rfl rfl rfl Body57 (all_cert m.fCerts D.dCerts) (fun w h => Certs_ext h rfl hW.fCerts) ?_
                            refine Tr.not rfl rfl rfl ?_
                            refine Tr.pick rfl rfl rfl rfl rfl rfl ?_
                            refine Tr.nil ?_
                            refine at_n ?_
                            first
                              | refine Sat.condP rfl (fun hc3 => ?_) (fun hc3 => ?_)
                              | refine Sat.condNP rfl (fun hc3 => ?_) (fun hc3 => ?_)
                              | refine Sat.cond rfl (fun hc3 => ?_) (fun hc3 => ?_)
                            ·
                              have hx3 : ¬ (D.dCerts.all fun d => decide (d.check = 0)) = true := fun e => by rw [e] at hc3; cases hc3
                              refine Sat.seq ?_
                              -- region 9
                              refine Sat.region ?_
                              refine Tr.assign rfl rfl rfl ?_
                              refine Tr.nil ?_
                              refine at_n ?_
                              refine Sat.ret ?_
                              refine at_r ?_
                              refine en_r ?_
                              refine ⟨_, [], res_tmp rfl rfl, (by simp), (by simp), ?_, rfl⟩
                              first
                                | exact congrArg i64 (msg_bad (by
                                    simp only [DMsg.bad, ← eK, ← eH, ← hu, ← hl.heads, ← hl.want, ← hl.blocks, ← hl.votes, ← hl.cuts, ← hl.certs]
                                    first
                                      | exact .inl (‹_›)
                                      | exact .inr (.inl (‹_›))
                                      | exact .inr (.inr (.inl (‹_›)))
                                      | exact .inr (.inr (.inr (.inl (‹_›))))
                                      | exact .inr (.inr (.inr (.inr (.inl (‹_›)))))
                                      | exact .inr (.inr (.inr (.inr (.inr (.inl (‹_›))))))
                                      | exact .inr (.inr (.inr (.inr (.inr (.inr (.inl (‹_›)))))))
                                      | exact .inr (.inr (.inr (.inr (.inr (.inr (.inr (.inl (‹_›))))))))
                                      | exact .inr (.inr (.inr (.inr (.inr (.inr (.inr (.inr (.inl (‹_›)))))))))
                                      | exact .inr (.inr (.inr (.inr (.inr (.inr (.inr (.inr (.inr (.inl (⟨‹_›, ‹_›, ‹_›⟩))))))))))
                                      | exact .inr (.inr (.inr (.inr (.inr (.inr (.inr (.inr (.inr (.inl (⟨by omega, by omega, by omega⟩))))))))))
                                      | exact .inr (.inr (.inr (.inr (.inr (.inr (.inr (.inr (.inr (.inr (.inl (‹_›)))))))))))
                                      | exact .inr (.inr (.inr (.inr (.inr (.inr (.inr (.inr (.inr (.inr (.inr (.inl (‹_›))))))))))))
                                      | exact .inr (.inr (.inr (.inr (.inr (.inr (.inr (.inr (.inr (.inr (.inr (.inr (.inl (‹_›)))))))))))))
                                      | exact .inr (.inr (.inr (.inr (.inr (.inr (.inr (.inr (.inr (.inr (.inr (.inr (.inr (‹_›)))))))))))))
                                      | exact .inr (.inr (.inr (.inr (.inr (.inr (.inr (.inr (.inr (.inr (.inl (fun e => Bool.noConfusion (hs8_2.symm.trans e))))))))))))
                                      | exact .inr (.inr (.inr (.inr (.inr (.inr (.inr (.inr (.inr (.inr (.inr (.inl (fun e => Bool.noConfusion (hs8_7.symm.trans e)))))))))))))
                                      | exact .inr (.inr (.inr (.inr (.inr (.inr (.inr (.inr (.inr (.inr (.inr (.inr (.inl (fun e => Bool.noConfusion (hs8_13.symm.trans e)))))))))))))))).symm
                                | exact congrArg i64 (msg_good (by
                                    simp only [DMsg.bad, ← eK, ← eH, ← hu, ← hl.heads, ← hl.want, ← hl.blocks, ← hl.votes, ← hl.cuts, ← hl.certs]
                                    rintro (h | h | h | h | h | h | h | h | h | h | h | h | h | h)
                                    all_goals first | exact h ‹_› | omega | (simp_all; done))).symm
                            ·
                              have hx4 : (D.dCerts.all fun d => decide (d.check = 0)) = true := by
                                cases e : (D.dCerts.all fun d => decide (d.check = 0))
                                · rw [e] at hc3; cases hc3
                                · rfl
                              refine Sat.skip ?_
                              refine at_n ?_
                              refine Sat.seq ?_
                              -- region 10
                              refine Sat.region ?_
                              refine Tr.assign rfl rfl rfl ?_
                              refine Tr.nil ?_
                              refine at_n ?_
                              refine Sat.ret ?_
                              refine en_r ?_
                              refine ⟨_, [], res_tmp rfl rfl, (by simp), (by simp), ?_, rfl⟩
                              first
                                | exact congrArg i64 (msg_bad (by
                                    simp only [DMsg.bad, ← eK, ← eH, ← hu, ← hl.heads, ← hl.want, ← hl.blocks, ← hl.votes, ← hl.cuts, ← hl.certs]
                                    first
                                      | exact .inl (‹_›)
                                      | exact .inr (.inl (‹_›))
                                      | exact .inr (.inr (.inl (‹_›)))
                                      | exact .inr (.inr (.inr (.inl (‹_›))))
                                      | exact .inr (.inr (.inr (.inr (.inl (‹_›)))))
                                      | exact .inr (.inr (.inr (.inr (.inr (.inl (‹_›))))))
                                      | exact .inr (.inr (.inr (.inr (.inr (.inr (.inl (‹_›)))))))
                                      | exact .inr (.inr (.inr (.inr (.inr (.inr (.inr (.inl (‹_›))))))))
                                      | exact .inr (.inr (.inr (.inr (.inr (.inr (.inr (.inr (.inl (‹_›)))))))))
                                      | exact .inr (.inr (.inr (.inr (.inr (.inr (.inr (.inr (.inr (.inl (⟨‹_›, ‹_›, ‹_›⟩))))))))))
                                      | exact .inr (.inr (.inr (.inr (.inr (.inr (.inr (.inr (.inr (.inl (⟨by omega, by omega, by omega⟩))))))))))
                                      | exact .inr (.inr (.inr (.inr (.inr (.inr (.inr (.inr (.inr (.inr (.inl (‹_›)))))))))))
                                      | exact .inr (.inr (.inr (.inr (.inr (.inr (.inr (.inr (.inr (.inr (.inr (.inl (‹_›))))))))))))
                                      | exact .inr (.inr (.inr (.inr (.inr (.inr (.inr (.inr (.inr (.inr (.inr (.inr (.inl (‹_›)))))))))))))
                                      | exact .inr (.inr (.inr (.inr (.inr (.inr (.inr (.inr (.inr (.inr (.inr (.inr (.inr (‹_›)))))))))))))
                                      | exact .inr (.inr (.inr (.inr (.inr (.inr (.inr (.inr (.inr (.inr (.inl (fun e => Bool.noConfusion (hs8_2.symm.trans e))))))))))))
                                      | exact .inr (.inr (.inr (.inr (.inr (.inr (.inr (.inr (.inr (.inr (.inr (.inl (fun e => Bool.noConfusion (hs8_7.symm.trans e)))))))))))))
                                      | exact .inr (.inr (.inr (.inr (.inr (.inr (.inr (.inr (.inr (.inr (.inr (.inr (.inl (fun e => Bool.noConfusion (hs8_13.symm.trans e)))))))))))))))).symm
                                | exact congrArg i64 (msg_good (by
                                    simp only [DMsg.bad, ← eK, ← eH, ← hu, ← hl.heads, ← hl.want, ← hl.blocks, ← hl.votes, ← hl.cuts, ← hl.certs]
                                    rintro (h | h | h | h | h | h | h | h | h | h | h | h | h | h)
                                    all_goals first | exact h ‹_› | omega | (simp_all; done))).symm
                          ·
                            first | have hs8_13 := of_decide_eq_true hs8_130 | have hs8_13 := of_decide_eq_false hs8_130 | have hs8_13 := nd_t hs8_130 | have hs8_13 := nd_f hs8_130 | have hs8_13 := hs8_130
                            refine Tr.not rfl rfl rfl ?_
                            refine Tr.pick rfl rfl rfl rfl rfl rfl ?_
                            refine Tr.move rfl rfl rfl ?_
                            refine Tr.skp rfl rfl ?_
                            refine Tr.skp rfl rfl ?_
                            refine Tr.skp rfl rfl ?_
                            refine Tr.skp rfl rfl ?_
                            refine Tr.pick rfl rfl rfl rfl rfl rfl ?_
                            refine Tr.nil ?_
                            refine at_n ?_
                            refine Sat.cond_t rfl rfl ?_
                            refine Sat.seq ?_
                            -- region 9
                            refine Sat.region ?_
                            refine Tr.assign rfl rfl rfl ?_
                            refine Tr.nil ?_
                            refine at_n ?_
                            refine Sat.ret ?_
                            refine at_r ?_
                            refine en_r ?_
                            refine ⟨_, [], res_tmp rfl rfl, (by simp), (by simp), ?_, rfl⟩
                            first
                              | exact congrArg i64 (msg_bad (by
                                  simp only [DMsg.bad, ← eK, ← eH, ← hu, ← hl.heads, ← hl.want, ← hl.blocks, ← hl.votes, ← hl.cuts, ← hl.certs]
                                  first
                                    | exact .inl (‹_›)
                                    | exact .inr (.inl (‹_›))
                                    | exact .inr (.inr (.inl (‹_›)))
                                    | exact .inr (.inr (.inr (.inl (‹_›))))
                                    | exact .inr (.inr (.inr (.inr (.inl (‹_›)))))
                                    | exact .inr (.inr (.inr (.inr (.inr (.inl (‹_›))))))
                                    | exact .inr (.inr (.inr (.inr (.inr (.inr (.inl (‹_›)))))))
                                    | exact .inr (.inr (.inr (.inr (.inr (.inr (.inr (.inl (‹_›))))))))
                                    | exact .inr (.inr (.inr (.inr (.inr (.inr (.inr (.inr (.inl (‹_›)))))))))
                                    | exact .inr (.inr (.inr (.inr (.inr (.inr (.inr (.inr (.inr (.inl (⟨‹_›, ‹_›, ‹_›⟩))))))))))
                                    | exact .inr (.inr (.inr (.inr (.inr (.inr (.inr (.inr (.inr (.inl (⟨by omega, by omega, by omega⟩))))))))))
                                    | exact .inr (.inr (.inr (.inr (.inr (.inr (.inr (.inr (.inr (.inr (.inl (‹_›)))))))))))
                                    | exact .inr (.inr (.inr (.inr (.inr (.inr (.inr (.inr (.inr (.inr (.inr (.inl (‹_›))))))))))))
                                    | exact .inr (.inr (.inr (.inr (.inr (.inr (.inr (.inr (.inr (.inr (.inr (.inr (.inl (‹_›)))))))))))))
                                    | exact .inr (.inr (.inr (.inr (.inr (.inr (.inr (.inr (.inr (.inr (.inr (.inr (.inr (‹_›)))))))))))))
                                    | exact .inr (.inr (.inr (.inr (.inr (.inr (.inr (.inr (.inr (.inr (.inl (fun e => Bool.noConfusion (hs8_2.symm.trans e))))))))))))
                                    | exact .inr (.inr (.inr (.inr (.inr (.inr (.inr (.inr (.inr (.inr (.inr (.inl (fun e => Bool.noConfusion (hs8_7.symm.trans e)))))))))))))
                                    | exact .inr (.inr (.inr (.inr (.inr (.inr (.inr (.inr (.inr (.inr (.inr (.inr (.inl (fun e => Bool.noConfusion (hs8_13.symm.trans e)))))))))))))))).symm
                              | exact congrArg i64 (msg_good (by
                                  simp only [DMsg.bad, ← eK, ← eH, ← hu, ← hl.heads, ← hl.want, ← hl.blocks, ← hl.votes, ← hl.cuts, ← hl.certs]
                                  rintro (h | h | h | h | h | h | h | h | h | h | h | h | h | h)
                                  all_goals first | exact h ‹_› | omega | (simp_all; done))).symm
                        ·
                          first | have hs8_7 := of_decide_eq_true hs8_70 | have hs8_7 := of_decide_eq_false hs8_70 | have hs8_7 := nd_t hs8_70 | have hs8_7 := nd_f hs8_70 | have hs8_7 := hs8_70
                          refine Tr.not rfl rfl rfl ?_
                          refine Tr.pick rfl rfl rfl rfl rfl rfl ?_
                          refine Tr.move rfl rfl rfl ?_
                          refine Tr.skp rfl rfl ?_
                          refine Tr.skp rfl rfl ?_
                          refine Tr.skp rfl rfl ?_
                          refine Tr.skp rfl rfl ?_
                          refine Tr.pick rfl rfl rfl rfl rfl rfl ?_
                          refine Tr.move rfl rfl rfl ?_
                          refine Tr.skp rfl rfl ?_
                          refine Tr.skp rfl rfl ?_
                          refine Tr.skp rfl rfl ?_
                          refine Tr.skp rfl rfl ?_
                          refine Tr.pick rfl rfl rfl rfl rfl rfl ?_
                          refine Tr.nil ?_
                          refine at_n ?_
                          refine Sat.cond_t rfl rfl ?_
                          refine Sat.seq ?_
                          -- region 9
                          refine Sat.region ?_
                          refine Tr.assign rfl rfl rfl ?_
                          refine Tr.nil ?_
                          refine at_n ?_
                          refine Sat.ret ?_
                          refine at_r ?_
                          refine en_r ?_
                          refine ⟨_, [], res_tmp rfl rfl, (by simp), (by simp), ?_, rfl⟩
                          first
                            | exact congrArg i64 (msg_bad (by
                                simp only [DMsg.bad, ← eK, ← eH, ← hu, ← hl.heads, ← hl.want, ← hl.blocks, ← hl.votes, ← hl.cuts, ← hl.certs]
                                first
                                  | exact .inl (‹_›)
                                  | exact .inr (.inl (‹_›))
                                  | exact .inr (.inr (.inl (‹_›)))
                                  | exact .inr (.inr (.inr (.inl (‹_›))))
                                  | exact .inr (.inr (.inr (.inr (.inl (‹_›)))))
                                  | exact .inr (.inr (.inr (.inr (.inr (.inl (‹_›))))))
                                  | exact .inr (.inr (.inr (.inr (.inr (.inr (.inl (‹_›)))))))
                                  | exact .inr (.inr (.inr (.inr (.inr (.inr (.inr (.inl (‹_›))))))))
                                  | exact .inr (.inr (.inr (.inr (.inr (.inr (.inr (.inr (.inl (‹_›)))))))))
                                  | exact .inr (.inr (.inr (.inr (.inr (.inr (.inr (.inr (.inr (.inl (⟨‹_›, ‹_›, ‹_›⟩))))))))))
                                  | exact .inr (.inr (.inr (.inr (.inr (.inr (.inr (.inr (.inr (.inl (⟨by omega, by omega, by omega⟩))))))))))
                                  | exact .inr (.inr (.inr (.inr (.inr (.inr (.inr (.inr (.inr (.inr (.inl (‹_›)))))))))))
                                  | exact .inr (.inr (.inr (.inr (.inr (.inr (.inr (.inr (.inr (.inr (.inr (.inl (‹_›))))))))))))
                                  | exact .inr (.inr (.inr (.inr (.inr (.inr (.inr (.inr (.inr (.inr (.inr (.inr (.inl (‹_›)))))))))))))
                                  | exact .inr (.inr (.inr (.inr (.inr (.inr (.inr (.inr (.inr (.inr (.inr (.inr (.inr (‹_›)))))))))))))
                                  | exact .inr (.inr (.inr (.inr (.inr (.inr (.inr (.inr (.inr (.inr (.inl (fun e => Bool.noConfusion (hs8_2.symm.trans e))))))))))))
                                  | exact .inr (.inr (.inr (.inr (.inr (.inr (.inr (.inr (.inr (.inr (.inr (.inl (fun e => Bool.noConfusion (hs8_7.symm.trans e)))))))))))))
                                  | exact .inr (.inr (.inr (.inr (.inr (.inr (.inr (.inr (.inr (.inr (.inr (.inr (.inl (fun e => Bool.noConfusion (hs8_13.symm.trans e)))))))))))))))).symm
                            | exact congrArg i64 (msg_good (by
                                simp only [DMsg.bad, ← eK, ← eH, ← hu, ← hl.heads, ← hl.want, ← hl.blocks, ← hl.votes, ← hl.cuts, ← hl.certs]
                                rintro (h | h | h | h | h | h | h | h | h | h | h | h | h | h)
                                all_goals first | exact h ‹_› | omega | (simp_all; done))).symm
                      ·
                        first | have hs8_2 := of_decide_eq_true hs8_20 | have hs8_2 := of_decide_eq_false hs8_20 | have hs8_2 := nd_t hs8_20 | have hs8_2 := nd_f hs8_20 | have hs8_2 := hs8_20
                        refine Tr.not rfl rfl rfl ?_
                        refine Tr.move rfl rfl rfl ?_
                        refine Tr.skp rfl rfl ?_
                        refine Tr.skp rfl rfl ?_
                        refine Tr.skp rfl rfl ?_
                        refine Tr.skp rfl rfl ?_
                        refine Tr.pick rfl rfl rfl rfl rfl rfl ?_
                        refine Tr.move rfl rfl rfl ?_
                        refine Tr.skp rfl rfl ?_
                        refine Tr.skp rfl rfl ?_
                        refine Tr.skp rfl rfl ?_
                        refine Tr.skp rfl rfl ?_
                        refine Tr.pick rfl rfl rfl rfl rfl rfl ?_
                        refine Tr.move rfl rfl rfl ?_
                        refine Tr.skp rfl rfl ?_
                        refine Tr.skp rfl rfl ?_
                        refine Tr.skp rfl rfl ?_
                        refine Tr.skp rfl rfl ?_
                        refine Tr.pick rfl rfl rfl rfl rfl rfl ?_
                        refine Tr.nil ?_
                        refine at_n ?_
                        refine Sat.cond_t rfl rfl ?_
                        refine Sat.seq ?_
                        -- region 9
                        refine Sat.region ?_
                        refine Tr.assign rfl rfl rfl ?_
                        refine Tr.nil ?_
                        refine at_n ?_
                        refine Sat.ret ?_
                        refine at_r ?_
                        refine en_r ?_
                        refine ⟨_, [], res_tmp rfl rfl, (by simp), (by simp), ?_, rfl⟩
                        first
                          | exact congrArg i64 (msg_bad (by
                              simp only [DMsg.bad, ← eK, ← eH, ← hu, ← hl.heads, ← hl.want, ← hl.blocks, ← hl.votes, ← hl.cuts, ← hl.certs]
                              first
                                | exact .inl (‹_›)
                                | exact .inr (.inl (‹_›))
                                | exact .inr (.inr (.inl (‹_›)))
                                | exact .inr (.inr (.inr (.inl (‹_›))))
                                | exact .inr (.inr (.inr (.inr (.inl (‹_›)))))
                                | exact .inr (.inr (.inr (.inr (.inr (.inl (‹_›))))))
                                | exact .inr (.inr (.inr (.inr (.inr (.inr (.inl (‹_›)))))))
                                | exact .inr (.inr (.inr (.inr (.inr (.inr (.inr (.inl (‹_›))))))))
                                | exact .inr (.inr (.inr (.inr (.inr (.inr (.inr (.inr (.inl (‹_›)))))))))
                                | exact .inr (.inr (.inr (.inr (.inr (.inr (.inr (.inr (.inr (.inl (⟨‹_›, ‹_›, ‹_›⟩))))))))))
                                | exact .inr (.inr (.inr (.inr (.inr (.inr (.inr (.inr (.inr (.inl (⟨by omega, by omega, by omega⟩))))))))))
                                | exact .inr (.inr (.inr (.inr (.inr (.inr (.inr (.inr (.inr (.inr (.inl (‹_›)))))))))))
                                | exact .inr (.inr (.inr (.inr (.inr (.inr (.inr (.inr (.inr (.inr (.inr (.inl (‹_›))))))))))))
                                | exact .inr (.inr (.inr (.inr (.inr (.inr (.inr (.inr (.inr (.inr (.inr (.inr (.inl (‹_›)))))))))))))
                                | exact .inr (.inr (.inr (.inr (.inr (.inr (.inr (.inr (.inr (.inr (.inr (.inr (.inr (‹_›)))))))))))))
                                | exact .inr (.inr (.inr (.inr (.inr (.inr (.inr (.inr (.inr (.inr (.inl (fun e => Bool.noConfusion (hs8_2.symm.trans e))))))))))))
                                | exact .inr (.inr (.inr (.inr (.inr (.inr (.inr (.inr (.inr (.inr (.inr (.inl (fun e => Bool.noConfusion (hs8_7.symm.trans e)))))))))))))
                                | exact .inr (.inr (.inr (.inr (.inr (.inr (.inr (.inr (.inr (.inr (.inr (.inr (.inl (fun e => Bool.noConfusion (hs8_13.symm.trans e)))))))))))))))).symm
                          | exact congrArg i64 (msg_good (by
                              simp only [DMsg.bad, ← eK, ← eH, ← hu, ← hl.heads, ← hl.want, ← hl.blocks, ← hl.votes, ← hl.cuts, ← hl.certs]
                              rintro (h | h | h | h | h | h | h | h | h | h | h | h | h | h)
                              all_goals first | exact h ‹_› | omega | (simp_all; done))).symm

end Go.Proofs.Ytejjamifnombhaa
end

section
namespace Go.Proofs.Ytejjamifnombhaa
open Go Hw
set_option linter.unusedVariables false
set_option linter.unusedSimpArgs false


def lightOf {D : Type} (f : D → Bool) (ds : List D) (m : Int) : Bool := (!decide (m < (ds.length : Int))) && ds.all f
theorem light_all {D : Type} {f : D → Bool} {ds : List D} (h : ∀ j, j < ds.length → (ds.map f)[j]? = some true) : ds.all f = true := by
  rw [List.all_eq_true]
  intro x hx
  obtain ⟨j, hj, rfl⟩ := List.getElem_of_mem hx
  have := h j hj
  rw [List.getElem?_map, List.getElem?_eq_getElem hj] at this
  simpa using this
theorem light_not {D : Type} {f : D → Bool} {ds : List D} {k : Nat} (h : (ds.map f)[k]? = some false) : ds.all f = false := by
  rw [List.getElem?_map] at h
  obtain ⟨x, hx, hf⟩ := Option.map_eq_some_iff.1 h
  rw [List.all_eq_false]
  exact ⟨x, List.mem_of_getElem? hx, by rw [hf]; simp⟩
theorem light_over {D : Type} {f : D → Bool} {ds : List D} {m : Int} (h : m < (ds.length : Int)) : lightOf f ds m = false := by simp [lightOf, h]
theorem light_in {D : Type} {f : D → Bool} {ds : List D} {m : Int} (h : ¬ m < (ds.length : Int)) : lightOf f ds m = ds.all f := by simp [lightOf, h]
def lightBf (d : DB) : Bool := decide ((d.ls.length : Int) ≤ 40) && decide ((d.ds.length : Int) ≤ 2000)
def lightCf (d : DCut) : Bool := decide ((d.dHeads.length : Int) ≤ 40)
def lightEf (d : DCert) : Bool := decide ((d.dCut.dHeads.length : Int) ≤ 40) && decide ((d.dVotes.length : Int) ≤ 20)


set_option maxRecDepth 100000 in
set_option maxHeartbeats 4000000 in
theorem lightd_blocks (s : Sl) (ds : List DB) (m : Int) : Meets Try.prog 8 [s.v, i64 m] [] (fun W => BlocksAt W s ds) (fun v out => v = .bool (lightOf lightBf ds m) ∧ out = []) := by
  intro W hW
  obtain ⟨rs, hs⟩ := hW
  have hmax := hs.max
  simp only [maxLen] at hmax
  have hnd := hs.nd
  refine calls_of (hp0 := []) Try.func8 rfl 32 Try.ntmps8 rfl (HRep.nil _) ?_
  refine Sat.seq ?_
  -- region 0
  refine Sat.region ?_
  refine Tr.assign rfl rfl rfl ?_
  refine Tr.nil ?_
  refine at_n ?_
  refine Sat.seq ?_
  refine Sat.seq ?_
  -- region 1
  refine Sat.region ?_
  refine Tr.move rfl rfl rfl ?_
  refine Tr.lenSl rfl rfl rfl Try.underlying34 ?_
  refine Tr.move rfl rfl rfl ?_
  refine Tr.gtr rfl rfl rfl rfl rfl ?_
  refine Tr.nil ?_
  refine at_n ?_
  first
    | refine Sat.condP rfl (fun hc0 => ?_) (fun hc0 => ?_)
    | refine Sat.condNP rfl (fun hc0 => ?_) (fun hc0 => ?_)
    | refine Sat.cond rfl (fun hc0 => ?_) (fun hc0 => ?_)
  ·
    refine Sat.seq ?_
    -- region 2
    refine Sat.region ?_
    refine Tr.assign rfl rfl rfl ?_
    refine Tr.nil ?_
    refine at_n ?_
    refine Sat.ret ?_
    refine at_r ?_
    refine en_r ?_
    refine ⟨_, [], res_tmp rfl rfl, (by simp), (by simp), ?_, rfl⟩
    first
      | exact congrArg Value.bool ((light_in (by rw [hnd]; omega)).trans (light_all (by rw [hnd]; exact hg))).symm
      | exact congrArg Value.bool ((light_in (by rw [hnd]; omega)).trans (light_not (k := k) (by rw [List.getElem?_map, hd]; simp [lightBf]; omega))).symm
      | exact congrArg Value.bool (light_over (by rw [hnd]; omega)).symm
  ·
    refine Sat.skip ?_
    refine at_n ?_
    refine Sat.seq ?_
    refine Sat.seq ?_
    -- region 3
    refine Sat.region ?_
    refine Tr.assign rfl rfl rfl ?_
    refine Tr.nil ?_
    refine at_n ?_
    refine Sat.block ?_
    refine Sat.loop (ι := Nat) (fun k => ⟨[(0, s.v), (5, i64 (k : Int))], []⟩) (fun k => k ≤ s.n ∧ ∀ j, j < k → (ds.map lightBf)[j]? = some true) (fun k => s.n - k) (0) ?_ ?_ ?_
    · exact ⟨by omega, fun j hj => by omega⟩
    · exact weak_of (wk1 rfl (wk1 rfl wk0)) wh0 (by repeat (first | exact ns_nil | refine ns_keep rfl ?_ | refine ns_skip ?_))
    ·
      rintro k ⟨hk, hg⟩
      refine Sat.seq ?_
      refine Sat.seq ?_
      -- region 4
      refine Sat.region ?_
      refine Tr.move rfl rfl rfl ?_
      refine Tr.move rfl rfl rfl ?_
      refine Tr.lenSl rfl rfl rfl Try.underlying34 ?_
      refine Tr.lss rfl rfl rfl rfl rfl ?_
      refine Tr.nil ?_
      refine at_n ?_
      first
        | refine Sat.condP rfl (fun hc1 => ?_) (fun hc1 => ?_)
        | refine Sat.condNP rfl (fun hc1 => ?_) (fun hc1 => ?_)
        | refine Sat.cond rfl (fun hc1 => ?_) (fun hc1 => ?_)
      ·
        have hk2 : k < s.n := by omega
        obtain ⟨b, o, r, d, hsp, hr, hd, his, hlen, hsee⟩ := hs.at (by decide) hk2
        have e1 := his.ls.len
        have e2 := his.ds.len
        refine Sat.skip ?_
        refine at_n ?_
        refine Sat.seq ?_
        refine Sat.block ?_
        refine Sat.seq ?_
        -- region 6
        refine Sat.region ?_
        refine Tr.move rfl rfl rfl ?_
        refine Tr.move rfl rfl rfl ?_
        refine Tr.idxSlP 131 rfl rfl rfl hsp rfl Try.underlying34 Sz31 k rfl (by omega) ?_
        refine Tr.fld rfl rfl rfl Try.underlying31 rfl Sz26 (by decide) _ rfl ?_
        refine Tr.loadE rfl rfl rfl Try.underlying26 rfl (by first | (simp; done) | (simp; exact hW.2.2) | (simp [Cx.with]; omega)) (hsee 65 _ (Block.get_fLinks his.ok)) ?_
        refine Tr.lenSl rfl rfl rfl Try.underlying26 ?_
        refine two (fun r hr k => Tr.gtr rfl rfl rfl rfl hr k) (fun hs6_60 => ?_) (fun hs6_60 => ?_)
        ·
          first | have hs6_6 := of_decide_eq_true hs6_60 | have hs6_6 := of_decide_eq_false hs6_60 | have hs6_6 := nd_t hs6_60 | have hs6_6 := nd_f hs6_60 | have hs6_6 := hs6_60
          refine Tr.move rfl rfl rfl ?_
          refine Tr.skp rfl rfl ?_
          refine Tr.skp rfl rfl ?_
          refine Tr.skp rfl rfl ?_
          refine Tr.skp rfl rfl ?_
          refine Tr.skp rfl rfl ?_
          refine Tr.skp rfl rfl ?_
          refine Tr.skp rfl rfl ?_
          refine Tr.pick rfl rfl rfl rfl rfl rfl ?_
          refine Tr.nil ?_
          refine at_n ?_
          refine Sat.cond_t rfl rfl ?_
          refine Sat.seq ?_
          -- region 7
          refine Sat.region ?_
          refine Tr.assign rfl rfl rfl ?_
          refine Tr.nil ?_
          refine at_n ?_
          refine Sat.ret ?_
          refine bl_r ?_
          refine at_r ?_
          refine at_r ?_
          refine bl_r ?_
          refine at_r ?_
          refine en_r ?_
          refine ⟨_, [], res_tmp rfl rfl, (by simp), (by simp), ?_, rfl⟩
          first
            | exact congrArg Value.bool ((light_in (by rw [hnd]; omega)).trans (light_all (by rw [hnd]; exact hg))).symm
            | exact congrArg Value.bool ((light_in (by rw [hnd]; omega)).trans (light_not (k := k) (by rw [List.getElem?_map, hd]; simp [lightBf]; omega))).symm
            | exact congrArg Value.bool (light_over (by rw [hnd]; omega)).symm
        ·
          first | have hs6_6 := of_decide_eq_true hs6_60 | have hs6_6 := of_decide_eq_false hs6_60 | have hs6_6 := nd_t hs6_60 | have hs6_6 := nd_f hs6_60 | have hs6_6 := hs6_60
          refine Tr.move rfl rfl rfl ?_
          refine Tr.move rfl rfl rfl ?_
          refine Tr.move rfl rfl rfl ?_
          refine Tr.idxSlP 131 rfl rfl rfl hsp rfl Try.underlying34 Sz31 k rfl (by omega) ?_
          refine Tr.fld rfl rfl rfl Try.underlying31 rfl Sz27 (by decide) _ rfl ?_
          refine Tr.loadE rfl rfl rfl Try.underlying27 rfl (by first | (simp; done) | (simp; exact hW.2.2) | (simp [Cx.with]; omega)) (hsee 66 _ (Block.get_fData his.ok)) ?_
          refine Tr.lenSl rfl rfl rfl Try.underlying27 ?_
          refine Tr.gtr rfl rfl rfl rfl rfl ?_
          refine Tr.pick rfl rfl rfl rfl rfl rfl ?_
          refine Tr.nil ?_
          refine at_n ?_
          first
            | refine Sat.condP rfl (fun hc2 => ?_) (fun hc2 => ?_)
            | refine Sat.condNP rfl (fun hc2 => ?_) (fun hc2 => ?_)
            | refine Sat.cond rfl (fun hc2 => ?_) (fun hc2 => ?_)
          ·
            refine Sat.seq ?_
            -- region 7
            refine Sat.region ?_
            refine Tr.assign rfl rfl rfl ?_
            refine Tr.nil ?_
            refine at_n ?_
            refine Sat.ret ?_
            refine bl_r ?_
            refine at_r ?_
            refine at_r ?_
            refine bl_r ?_
            refine at_r ?_
            refine en_r ?_
            refine ⟨_, [], res_tmp rfl rfl, (by simp), (by simp), ?_, rfl⟩
            first
              | exact congrArg Value.bool ((light_in (by rw [hnd]; omega)).trans (light_all (by rw [hnd]; exact hg))).symm
              | exact congrArg Value.bool ((light_in (by rw [hnd]; omega)).trans (light_not (k := k) (by rw [List.getElem?_map, hd]; simp [lightBf]; omega))).symm
              | exact congrArg Value.bool (light_over (by rw [hnd]; omega)).symm
          ·
            refine Sat.skip ?_
            refine bl_n ?_
            refine at_n ?_
            -- region 5
            refine Sat.region ?_
            refine Tr.move rfl rfl rfl ?_
            refine Tr.add_i64 rfl rfl rfl rfl (by omega) ?_
            refine Tr.assign rfl rfl rfl ?_
            refine Tr.nil ?_
            refine at_n ?_
            exact ⟨k + 1, ⟨by omega, fun j hj => by rcases Nat.lt_succ_iff_lt_or_eq.1 hj with h | rfl; exact hg j h; exact (by rw [List.getElem?_map, hd]; simp [lightBf]; omega)⟩, by omega, weak_of (wk1 rfl (wk1 rfl wk0)) wh0 (by repeat (first | exact ns_nil | refine ns_keep rfl ?_ | refine ns_skip ?_))⟩
      ·
        obtain rfl : k = s.n := by omega
        refine Sat.exit ?_
        refine at_x ?_
        refine at_x ?_
        refine bl_h ?_
        refine at_n ?_
        refine Sat.seq ?_
        -- region 8
        refine Sat.region ?_
        refine Tr.assign rfl rfl rfl ?_
        refine Tr.nil ?_
        refine at_n ?_
        refine Sat.ret ?_
        refine en_r ?_
        refine ⟨_, [], res_tmp rfl rfl, (by simp), (by simp), ?_, rfl⟩
        first
          | exact congrArg Value.bool ((light_in (by rw [hnd]; omega)).trans (light_all (by rw [hnd]; exact hg))).symm
          | exact congrArg Value.bool ((light_in (by rw [hnd]; omega)).trans (light_not (k := k) (by rw [List.getElem?_map, hd]; simp [lightBf]; omega))).symm
          | exact congrArg Value.bool (light_over (by rw [hnd]; omega)).symm

set_option maxRecDepth 100000 in
set_option maxHeartbeats 4000000 in
theorem lightd_cuts (s : Sl) (ds : List DCut) (m : Int) : Meets Try.prog 29 [s.v, i64 m] [] (fun W => CutsAt W s ds) (fun v out => v = .bool (lightOf lightCf ds m) ∧ out = []) := by
  intro W hW
  obtain ⟨rs, hs⟩ := hW
  have hmax := hs.max
  simp only [maxLen] at hmax
  have hnd := hs.nd
  refine calls_of (hp0 := []) Try.func29 rfl 23 Try.ntmps29 rfl (HRep.nil _) ?_
  refine Sat.seq ?_
  -- region 0
  refine Sat.region ?_
  refine Tr.assign rfl rfl rfl ?_
  refine Tr.nil ?_
  refine at_n ?_
  refine Sat.seq ?_
  refine Sat.seq ?_
  -- region 1
  refine Sat.region ?_
  refine Tr.move rfl rfl rfl ?_
  refine Tr.lenSl rfl rfl rfl Try.underlying46 ?_
  refine Tr.move rfl rfl rfl ?_
  refine Tr.gtr rfl rfl rfl rfl rfl ?_
  refine Tr.nil ?_
  refine at_n ?_
  first
    | refine Sat.condP rfl (fun hc0 => ?_) (fun hc0 => ?_)
    | refine Sat.condNP rfl (fun hc0 => ?_) (fun hc0 => ?_)
    | refine Sat.cond rfl (fun hc0 => ?_) (fun hc0 => ?_)
  ·
    refine Sat.seq ?_
    -- region 2
    refine Sat.region ?_
    refine Tr.assign rfl rfl rfl ?_
    refine Tr.nil ?_
    refine at_n ?_
    refine Sat.ret ?_
    refine at_r ?_
    refine en_r ?_
    refine ⟨_, [], res_tmp rfl rfl, (by simp), (by simp), ?_, rfl⟩
    first
      | exact congrArg Value.bool ((light_in (by rw [hnd]; omega)).trans (light_all (by rw [hnd]; exact hg))).symm
      | exact congrArg Value.bool ((light_in (by rw [hnd]; omega)).trans (light_not (k := k) (by rw [List.getElem?_map, hd]; simp [lightCf]; omega))).symm
      | exact congrArg Value.bool (light_over (by rw [hnd]; omega)).symm
  ·
    refine Sat.skip ?_
    refine at_n ?_
    refine Sat.seq ?_
    refine Sat.seq ?_
    -- region 3
    refine Sat.region ?_
    refine Tr.assign rfl rfl rfl ?_
    refine Tr.nil ?_
    refine at_n ?_
    refine Sat.block ?_
    refine Sat.loop (ι := Nat) (fun k => ⟨[(0, s.v), (5, i64 (k : Int))], []⟩) (fun k => k ≤ s.n ∧ ∀ j, j < k → (ds.map lightCf)[j]? = some true) (fun k => s.n - k) (0) ?_ ?_ ?_
    · exact ⟨by omega, fun j hj => by omega⟩
    · exact weak_of (wk1 rfl (wk1 rfl wk0)) wh0 (by repeat (first | exact ns_nil | refine ns_keep rfl ?_ | refine ns_skip ?_))
    ·
      rintro k ⟨hk, hg⟩
      refine Sat.seq ?_
      refine Sat.seq ?_
      -- region 4
      refine Sat.region ?_
      refine Tr.move rfl rfl rfl ?_
      refine Tr.move rfl rfl rfl ?_
      refine Tr.lenSl rfl rfl rfl Try.underlying46 ?_
      refine Tr.lss rfl rfl rfl rfl rfl ?_
      refine Tr.nil ?_
      refine at_n ?_
      first
        | refine Sat.condP rfl (fun hc1 => ?_) (fun hc1 => ?_)
        | refine Sat.condNP rfl (fun hc1 => ?_) (fun hc1 => ?_)
        | refine Sat.cond rfl (fun hc1 => ?_) (fun hc1 => ?_)
      ·
        have hk2 : k < s.n := by omega
        obtain ⟨b, o, r, d, hsp, hr, hd, his, hlen, hsee⟩ := hs.at (by decide) hk2
        have e1 := his.fHeads.len
        refine Sat.skip ?_
        refine at_n ?_
        refine Sat.seq ?_
        refine Sat.block ?_
        refine Sat.seq ?_
        -- region 6
        refine Sat.region ?_
        refine Tr.move rfl rfl rfl ?_
        refine Tr.move rfl rfl rfl ?_
        refine Tr.idxSlP 34 rfl rfl rfl hsp rfl Try.underlying46 Sz68 k rfl (by omega) ?_
        refine Tr.fld rfl rfl rfl Try.underlying68 rfl Sz26 (by decide) _ rfl ?_
        refine Tr.loadE rfl rfl rfl Try.underlying26 rfl (by first | (simp; done) | (simp; exact hW.2.2) | (simp [Cx.with]; omega)) (hsee 33 _ (Cut.get_fHeads his.ok)) ?_
        refine Tr.lenSl rfl rfl rfl Try.underlying26 ?_
        refine Tr.gtr rfl rfl rfl rfl rfl ?_
        refine Tr.nil ?_
        refine at_n ?_
        first
          | refine Sat.condP rfl (fun hc2 => ?_) (fun hc2 => ?_)
          | refine Sat.condNP rfl (fun hc2 => ?_) (fun hc2 => ?_)
          | refine Sat.cond rfl (fun hc2 => ?_) (fun hc2 => ?_)
        ·
          refine Sat.seq ?_
          -- region 7
          refine Sat.region ?_
          refine Tr.assign rfl rfl rfl ?_
          refine Tr.nil ?_
          refine at_n ?_
          refine Sat.ret ?_
          refine bl_r ?_
          refine at_r ?_
          refine at_r ?_
          refine bl_r ?_
          refine at_r ?_
          refine en_r ?_
          refine ⟨_, [], res_tmp rfl rfl, (by simp), (by simp), ?_, rfl⟩
          first
            | exact congrArg Value.bool ((light_in (by rw [hnd]; omega)).trans (light_all (by rw [hnd]; exact hg))).symm
            | exact congrArg Value.bool ((light_in (by rw [hnd]; omega)).trans (light_not (k := k) (by rw [List.getElem?_map, hd]; simp [lightCf]; omega))).symm
            | exact congrArg Value.bool (light_over (by rw [hnd]; omega)).symm
        ·
          refine Sat.skip ?_
          refine bl_n ?_
          refine at_n ?_
          -- region 5
          refine Sat.region ?_
          refine Tr.move rfl rfl rfl ?_
          refine Tr.add_i64 rfl rfl rfl rfl (by omega) ?_
          refine Tr.assign rfl rfl rfl ?_
          refine Tr.nil ?_
          refine at_n ?_
          exact ⟨k + 1, ⟨by omega, fun j hj => by rcases Nat.lt_succ_iff_lt_or_eq.1 hj with h | rfl; exact hg j h; exact (by rw [List.getElem?_map, hd]; simp [lightCf]; omega)⟩, by omega, weak_of (wk1 rfl (wk1 rfl wk0)) wh0 (by repeat (first | exact ns_nil | refine ns_keep rfl ?_ | refine ns_skip ?_))⟩
      ·
        obtain rfl : k = s.n := by omega
        refine Sat.exit ?_
        refine at_x ?_
        refine at_x ?_
        refine bl_h ?_
        refine at_n ?_
        refine Sat.seq ?_
        -- region 8
        refine Sat.region ?_
        refine Tr.assign rfl rfl rfl ?_
        refine Tr.nil ?_
        refine at_n ?_
        refine Sat.ret ?_
        refine en_r ?_
        refine ⟨_, [], res_tmp rfl rfl, (by simp), (by simp), ?_, rfl⟩
        first
          | exact congrArg Value.bool ((light_in (by rw [hnd]; omega)).trans (light_all (by rw [hnd]; exact hg))).symm
          | exact congrArg Value.bool ((light_in (by rw [hnd]; omega)).trans (light_not (k := k) (by rw [List.getElem?_map, hd]; simp [lightCf]; omega))).symm
          | exact congrArg Value.bool (light_over (by rw [hnd]; omega)).symm

set_option maxRecDepth 100000 in
set_option maxHeartbeats 4000000 in
theorem lightd_certs (s : Sl) (ds : List DCert) (m : Int) : Meets Try.prog 28 [s.v, i64 m] [] (fun W => CertsAt W s ds) (fun v out => v = .bool (lightOf lightEf ds m) ∧ out = []) := by
  intro W hW
  obtain ⟨rs, hs⟩ := hW
  have hmax := hs.max
  simp only [maxLen] at hmax
  have hnd := hs.nd
  refine calls_of (hp0 := []) Try.func28 rfl 33 Try.ntmps28 rfl (HRep.nil _) ?_
  refine Sat.seq ?_
  -- region 0
  refine Sat.region ?_
  refine Tr.assign rfl rfl rfl ?_
  refine Tr.nil ?_
  refine at_n ?_
  refine Sat.seq ?_
  refine Sat.seq ?_
  -- region 1
  refine Sat.region ?_
  refine Tr.move rfl rfl rfl ?_
  refine Tr.lenSl rfl rfl rfl Try.underlying47 ?_
  refine Tr.move rfl rfl rfl ?_
  refine Tr.gtr rfl rfl rfl rfl rfl ?_
  refine Tr.nil ?_
  refine at_n ?_
  first
    | refine Sat.condP rfl (fun hc0 => ?_) (fun hc0 => ?_)
    | refine Sat.condNP rfl (fun hc0 => ?_) (fun hc0 => ?_)
    | refine Sat.cond rfl (fun hc0 => ?_) (fun hc0 => ?_)
  ·
    refine Sat.seq ?_
    -- region 2
    refine Sat.region ?_
    refine Tr.assign rfl rfl rfl ?_
    refine Tr.nil ?_
    refine at_n ?_
    refine Sat.ret ?_
    refine at_r ?_
    refine en_r ?_
    refine ⟨_, [], res_tmp rfl rfl, (by simp), (by simp), ?_, rfl⟩
    first
      | exact congrArg Value.bool ((light_in (by rw [hnd]; omega)).trans (light_all (by rw [hnd]; exact hg))).symm
      | exact congrArg Value.bool ((light_in (by rw [hnd]; omega)).trans (light_not (k := k) (by rw [List.getElem?_map, hd]; simp [lightEf]; omega))).symm
      | exact congrArg Value.bool (light_over (by rw [hnd]; omega)).symm
  ·
    refine Sat.skip ?_
    refine at_n ?_
    refine Sat.seq ?_
    refine Sat.seq ?_
    -- region 3
    refine Sat.region ?_
    refine Tr.assign rfl rfl rfl ?_
    refine Tr.nil ?_
    refine at_n ?_
    refine Sat.block ?_
    refine Sat.loop (ι := Nat) (fun k => ⟨[(0, s.v), (5, i64 (k : Int))], []⟩) (fun k => k ≤ s.n ∧ ∀ j, j < k → (ds.map lightEf)[j]? = some true) (fun k => s.n - k) (0) ?_ ?_ ?_
    · exact ⟨by omega, fun j hj => by omega⟩
    · exact weak_of (wk1 rfl (wk1 rfl wk0)) wh0 (by repeat (first | exact ns_nil | refine ns_keep rfl ?_ | refine ns_skip ?_))
    ·
      rintro k ⟨hk, hg⟩
      refine Sat.seq ?_
      refine Sat.seq ?_
      -- region 4
      refine Sat.region ?_
      refine Tr.move rfl rfl rfl ?_
      refine Tr.move rfl rfl rfl ?_
      refine Tr.lenSl rfl rfl rfl Try.underlying47 ?_
      refine Tr.lss rfl rfl rfl rfl rfl ?_
      refine Tr.nil ?_
      refine at_n ?_
      first
        | refine Sat.condP rfl (fun hc1 => ?_) (fun hc1 => ?_)
        | refine Sat.condNP rfl (fun hc1 => ?_) (fun hc1 => ?_)
        | refine Sat.cond rfl (fun hc1 => ?_) (fun hc1 => ?_)
      ·
        have hk2 : k < s.n := by omega
        obtain ⟨b, o, r, d, hsp, hr, hd, his, hlen, hsee⟩ := hs.at (by decide) hk2
        have e1 := his.fCut.fHeads.len
        obtain ⟨_, hvs⟩ := his.fVotes
        have e2 := hvs.nd
        refine Sat.skip ?_
        refine at_n ?_
        refine Sat.seq ?_
        refine Sat.block ?_
        refine Sat.seq ?_
        -- region 6
        refine Sat.region ?_
        refine Tr.move rfl rfl rfl ?_
        refine Tr.move rfl rfl rfl ?_
        refine Tr.idxSlP 35 rfl rfl rfl hsp rfl Try.underlying47 Sz70 k rfl (by omega) ?_
        refine Tr.fld rfl rfl rfl Try.underlying70 rfl Sz68 (by decide) _ rfl ?_
        refine Tr.fld rfl rfl rfl Try.underlying68 rfl Sz26 (by decide) _ rfl ?_
        refine Tr.loadE rfl rfl rfl Try.underlying26 rfl (by first | (simp; done) | (simp; exact hW.2.2) | (simp [Cx.with]; omega)) (hsee 33 _ (Cert.see_fCut his.ok 33 _ (Cut.get_fHeads his.ok.o_fCut))) ?_
        refine Tr.lenSl rfl rfl rfl Try.underlying26 ?_
        refine two (fun r hr k => Tr.gtr rfl rfl rfl rfl hr k) (fun hs6_70 => ?_) (fun hs6_70 => ?_)
        ·
          first | have hs6_7 := of_decide_eq_true hs6_70 | have hs6_7 := of_decide_eq_false hs6_70 | have hs6_7 := nd_t hs6_70 | have hs6_7 := nd_f hs6_70 | have hs6_7 := hs6_70
          refine Tr.move rfl rfl rfl ?_
          refine Tr.skp rfl rfl ?_
          refine Tr.skp rfl rfl ?_
          refine Tr.skp rfl rfl ?_
          refine Tr.skp rfl rfl ?_
          refine Tr.skp rfl rfl ?_
          refine Tr.skp rfl rfl ?_
          refine Tr.skp rfl rfl ?_
          refine Tr.pick rfl rfl rfl rfl rfl rfl ?_
          refine Tr.nil ?_
          refine at_n ?_
          refine Sat.cond_t rfl rfl ?_
          refine Sat.seq ?_
          -- region 7
          refine Sat.region ?_
          refine Tr.assign rfl rfl rfl ?_
          refine Tr.nil ?_
          refine at_n ?_
          refine Sat.ret ?_
          refine bl_r ?_
          refine at_r ?_
          refine at_r ?_
          refine bl_r ?_
          refine at_r ?_
          refine en_r ?_
          refine ⟨_, [], res_tmp rfl rfl, (by simp), (by simp), ?_, rfl⟩
          first
            | exact congrArg Value.bool ((light_in (by rw [hnd]; omega)).trans (light_all (by rw [hnd]; exact hg))).symm
            | exact congrArg Value.bool ((light_in (by rw [hnd]; omega)).trans (light_not (k := k) (by rw [List.getElem?_map, hd]; simp [lightEf]; omega))).symm
            | exact congrArg Value.bool (light_over (by rw [hnd]; omega)).symm
        ·
          first | have hs6_7 := of_decide_eq_true hs6_70 | have hs6_7 := of_decide_eq_false hs6_70 | have hs6_7 := nd_t hs6_70 | have hs6_7 := nd_f hs6_70 | have hs6_7 := hs6_70
          refine Tr.move rfl rfl rfl ?_
          refine Tr.move rfl rfl rfl ?_
          refine Tr.move rfl rfl rfl ?_
          refine Tr.idxSlP 35 rfl rfl rfl hsp rfl Try.underlying47 Sz70 k rfl (by omega) ?_
          refine Tr.fld rfl rfl rfl Try.underlying70 rfl Sz45 (by decide) _ rfl ?_
          refine Tr.loadE rfl rfl rfl Try.underlying45 rfl (by first | (simp; done) | (simp; exact hW.2.2) | (simp [Cx.with]; omega)) (hsee 34 _ (Cert.get_fVotes his.ok)) ?_
          refine Tr.lenSl rfl rfl rfl Try.underlying45 ?_
          refine Tr.gtr rfl rfl rfl rfl rfl ?_
          refine Tr.pick rfl rfl rfl rfl rfl rfl ?_
          refine Tr.nil ?_
          refine at_n ?_
          first
            | refine Sat.condP rfl (fun hc2 => ?_) (fun hc2 => ?_)
            | refine Sat.condNP rfl (fun hc2 => ?_) (fun hc2 => ?_)
            | refine Sat.cond rfl (fun hc2 => ?_) (fun hc2 => ?_)
          ·
            refine Sat.seq ?_
            -- region 7
            refine Sat.region ?_
            refine Tr.assign rfl rfl rfl ?_
            refine Tr.nil ?_
            refine at_n ?_
            refine Sat.ret ?_
            refine bl_r ?_
            refine at_r ?_
            refine at_r ?_
            refine bl_r ?_
            refine at_r ?_
            refine en_r ?_
            refine ⟨_, [], res_tmp rfl rfl, (by simp), (by simp), ?_, rfl⟩
            first
              | exact congrArg Value.bool ((light_in (by rw [hnd]; omega)).trans (light_all (by rw [hnd]; exact hg))).symm
              | exact congrArg Value.bool ((light_in (by rw [hnd]; omega)).trans (light_not (k := k) (by rw [List.getElem?_map, hd]; simp [lightEf]; omega))).symm
              | exact congrArg Value.bool (light_over (by rw [hnd]; omega)).symm
          ·
            refine Sat.skip ?_
            refine bl_n ?_
            refine at_n ?_
            -- region 5
            refine Sat.region ?_
            refine Tr.move rfl rfl rfl ?_
            refine Tr.add_i64 rfl rfl rfl rfl (by omega) ?_
            refine Tr.assign rfl rfl rfl ?_
            refine Tr.nil ?_
            refine at_n ?_
            exact ⟨k + 1, ⟨by omega, fun j hj => by rcases Nat.lt_succ_iff_lt_or_eq.1 hj with h | rfl; exact hg j h; exact (by rw [List.getElem?_map, hd]; simp [lightEf]; omega)⟩, by omega, weak_of (wk1 rfl (wk1 rfl wk0)) wh0 (by repeat (first | exact ns_nil | refine ns_keep rfl ?_ | refine ns_skip ?_))⟩
      ·
        obtain rfl : k = s.n := by omega
        refine Sat.exit ?_
        refine at_x ?_
        refine at_x ?_
        refine bl_h ?_
        refine at_n ?_
        refine Sat.seq ?_
        -- region 8
        refine Sat.region ?_
        refine Tr.assign rfl rfl rfl ?_
        refine Tr.nil ?_
        refine at_n ?_
        refine Sat.ret ?_
        refine en_r ?_
        refine ⟨_, [], res_tmp rfl rfl, (by simp), (by simp), ?_, rfl⟩
        first
          | exact congrArg Value.bool ((light_in (by rw [hnd]; omega)).trans (light_all (by rw [hnd]; exact hg))).symm
          | exact congrArg Value.bool ((light_in (by rw [hnd]; omega)).trans (light_not (k := k) (by rw [List.getElem?_map, hd]; simp [lightEf]; omega))).symm
          | exact congrArg Value.bool (light_over (by rw [hnd]; omega)).symm

end Go.Proofs.Ytejjamifnombhaa
end

section
namespace Go.Proofs.Ytejjamifnombhaa
open Go Hw
set_option linter.unusedVariables false
set_option linter.unusedSimpArgs false


def DMsg.light (D : DMsg) : Bool := decide ((D.dHeads.length : Int) ≤ 40) && (decide ((D.dWant.length : Int) ≤ 40) && (lightOf lightBf D.dBlocks 10 && (decide ((D.dVotes.length : Int) ≤ 20) && (lightOf lightCf D.dCuts 6 && lightOf lightEf D.dCerts 4))))


set_option maxRecDepth 100000 in
set_option maxHeartbeats 4000000 in
theorem light_msg (m : Msg) (D : DMsg) : Meets Try.prog 17 [agg m.cells] [] (fun W => MsgIs W m D) (fun v out => v = .bool D.light ∧ out = []) := by
  intro W hW
  have hok := hW.ok
  have hl := hW.len
  refine calls_of (hp0 := []) Try.func17 rfl 34 Try.ntmps17 rfl (HRep.nil _) ?_
  refine Sat.seq ?_
  -- region 0
  refine Sat.region ?_
  refine Tr.boxA rfl rfl ?_
  intro n1 hn1 hf1
  refine Tr.assign rfl rfl rfl ?_
  refine Tr.nil ?_
  refine at_n ?_
  refine Sat.seq ?_
  -- region 1
  refine Sat.region ?_
  refine Tr.fld rfl rfl rfl Try.underlying49 rfl Sz26 (by decide) _ rfl ?_
  refine Tr.load1 rfl rfl rfl Try.underlying26 rfl (by first | exact mem0 | exact mem1 | exact mem2 | exact mem3 | exact mem4 | exact mem5 | exact mem6 | exact mem7 | (repeat (first | exact List.mem_cons_self | refine List.mem_cons_of_mem _ ?_ | refine mem_seg ?_))) (by first | exact Msg.get_fHeads (by first | assumption | (simp; done) | exact Block.zero_ok | exact Vote.zero_ok | exact Reader.zero_ok | exact Cut.zero_ok | exact Cert.zero_ok | exact Msg.zero_ok | exact Inbox.zero_ok | exact Record.zero_ok | exact Kept.zero_ok  | exact hok) | exact (by first | rfl | exact get_words (by first | omega | (simp; done) | (simp; omega)) | exact get_bytes (by first | omega | (simp; done) | (simp; omega)) | exact get_ints (by first | omega | (simp; done) | (simp; omega)))) ?_
  refine Tr.lenSl rfl rfl rfl Try.underlying26 ?_
  refine two (fun r hr k => Tr.leq rfl rfl rfl rfl hr k) (fun hs1_30 => ?_) (fun hs1_30 => ?_)
  ·
    first | have hs1_3 := of_decide_eq_true hs1_30 | have hs1_3 := of_decide_eq_false hs1_30 | have hs1_3 := nd_t hs1_30 | have hs1_3 := nd_f hs1_30 | have hs1_3 := hs1_30
    refine Tr.move rfl rfl rfl ?_
    refine Tr.fld rfl rfl rfl Try.underlying49 rfl Sz26 (by decide) _ rfl ?_
    refine Tr.load1 rfl rfl rfl Try.underlying26 rfl (by first | exact mem0 | exact mem1 | exact mem2 | exact mem3 | exact mem4 | exact mem5 | exact mem6 | exact mem7 | (repeat (first | exact List.mem_cons_self | refine List.mem_cons_of_mem _ ?_ | refine mem_seg ?_))) (by first | exact Msg.get_fWant (by first | assumption | (simp; done) | exact Block.zero_ok | exact Vote.zero_ok | exact Reader.zero_ok | exact Cut.zero_ok | exact Cert.zero_ok | exact Msg.zero_ok | exact Inbox.zero_ok | exact Record.zero_ok | exact Kept.zero_ok  | exact hok) | exact (by first | rfl | exact get_words (by first | omega | (simp; done) | (simp; omega)) | exact get_bytes (by first | omega | (simp; done) | (simp; omega)) | exact get_ints (by first | omega | (simp; done) | (simp; omega)))) ?_
    refine Tr.lenSl rfl rfl rfl Try.underlying26 ?_
    refine two (fun r hr k => Tr.leq rfl rfl rfl rfl hr k) (fun hs1_80 => ?_) (fun hs1_80 => ?_)
    ·
      first | have hs1_8 := of_decide_eq_true hs1_80 | have hs1_8 := of_decide_eq_false hs1_80 | have hs1_8 := nd_t hs1_80 | have hs1_8 := nd_f hs1_80 | have hs1_8 := hs1_80
      refine Tr.pick rfl rfl rfl rfl rfl rfl ?_
      refine Tr.move rfl rfl rfl ?_
      refine Tr.fld rfl rfl rfl Try.underlying49 rfl Sz34 (by decide) _ rfl ?_
      refine Tr.load1 rfl rfl rfl Try.underlying34 rfl (by first | exact mem0 | exact mem1 | exact mem2 | exact mem3 | exact mem4 | exact mem5 | exact mem6 | exact mem7 | (repeat (first | exact List.mem_cons_self | refine List.mem_cons_of_mem _ ?_ | refine mem_seg ?_))) (by first | exact Msg.get_fBlocks (by first | assumption | (simp; done) | exact Block.zero_ok | exact Vote.zero_ok | exact Reader.zero_ok | exact Cut.zero_ok | exact Cert.zero_ok | exact Msg.zero_ok | exact Inbox.zero_ok | exact Record.zero_ok | exact Kept.zero_ok  | exact hok) | exact (by first | rfl | exact get_words (by first | omega | (simp; done) | (simp; omega)) | exact get_bytes (by first | omega | (simp; done) | (simp; omega)) | exact get_ints (by first | omega | (simp; done) | (simp; omega)))) ?_
      refine Tr.callB rfl rfl rfl rfl Body8 (lightd_blocks m.fBlocks D.dBlocks 10) (fun w h => Blocks_ext h rfl hW.fBlocks) (fun hs1_130 => ?_) (fun hs1_130 => ?_)
      ·
        first | have hs1_13 := of_decide_eq_true hs1_130 | have hs1_13 := of_decide_eq_false hs1_130 | have hs1_13 := nd_t hs1_130 | have hs1_13 := nd_f hs1_130 | have hs1_13 := hs1_130
        refine Tr.pick rfl rfl rfl rfl rfl rfl ?_
        refine Tr.move rfl rfl rfl ?_
        refine Tr.fld rfl rfl rfl Try.underlying49 rfl Sz45 (by decide) _ rfl ?_
        refine Tr.load1 rfl rfl rfl Try.underlying45 rfl (by first | exact mem0 | exact mem1 | exact mem2 | exact mem3 | exact mem4 | exact mem5 | exact mem6 | exact mem7 | (repeat (first | exact List.mem_cons_self | refine List.mem_cons_of_mem _ ?_ | refine mem_seg ?_))) (by first | exact Msg.get_fVotes (by first | assumption | (simp; done) | exact Block.zero_ok | exact Vote.zero_ok | exact Reader.zero_ok | exact Cut.zero_ok | exact Cert.zero_ok | exact Msg.zero_ok | exact Inbox.zero_ok | exact Record.zero_ok | exact Kept.zero_ok  | exact hok) | exact (by first | rfl | exact get_words (by first | omega | (simp; done) | (simp; omega)) | exact get_bytes (by first | omega | (simp; done) | (simp; omega)) | exact get_ints (by first | omega | (simp; done) | (simp; omega)))) ?_
        refine Tr.lenSl rfl rfl rfl Try.underlying45 ?_
        refine two (fun r hr k => Tr.leq rfl rfl rfl rfl hr k) (fun hs1_190 => ?_) (fun hs1_190 => ?_)
        ·
          first | have hs1_19 := of_decide_eq_true hs1_190 | have hs1_19 := of_decide_eq_false hs1_190 | have hs1_19 := nd_t hs1_190 | have hs1_19 := nd_f hs1_190 | have hs1_19 := hs1_190
          refine Tr.pick rfl rfl rfl rfl rfl rfl ?_
          refine Tr.move rfl rfl rfl ?_
          refine Tr.fld rfl rfl rfl Try.underlying49 rfl Sz46 (by decide) _ rfl ?_
          refine Tr.load1 rfl rfl rfl Try.underlying46 rfl (by first | exact mem0 | exact mem1 | exact mem2 | exact mem3 | exact mem4 | exact mem5 | exact mem6 | exact mem7 | (repeat (first | exact List.mem_cons_self | refine List.mem_cons_of_mem _ ?_ | refine mem_seg ?_))) (by first | exact Msg.get_fCuts (by first | assumption | (simp; done) | exact Block.zero_ok | exact Vote.zero_ok | exact Reader.zero_ok | exact Cut.zero_ok | exact Cert.zero_ok | exact Msg.zero_ok | exact Inbox.zero_ok | exact Record.zero_ok | exact Kept.zero_ok  | exact hok) | exact (by first | rfl | exact get_words (by first | omega | (simp; done) | (simp; omega)) | exact get_bytes (by first | omega | (simp; done) | (simp; omega)) | exact get_ints (by first | omega | (simp; done) | (simp; omega)))) ?_
          refine Tr.callB rfl rfl rfl rfl Body29 (lightd_cuts m.fCuts D.dCuts 6) (fun w h => Cuts_ext h rfl hW.fCuts) (fun hs1_240 => ?_) (fun hs1_240 => ?_)
          ·
            first | have hs1_24 := of_decide_eq_true hs1_240 | have hs1_24 := of_decide_eq_false hs1_240 | have hs1_24 := nd_t hs1_240 | have hs1_24 := nd_f hs1_240 | have hs1_24 := hs1_240
            refine Tr.pick rfl rfl rfl rfl rfl rfl ?_
            refine Tr.move rfl rfl rfl ?_
            refine Tr.fld rfl rfl rfl Try.underlying49 rfl Sz47 (by decide) _ rfl ?_
            refine Tr.load1 rfl rfl rfl Try.underlying47 rfl (by first | exact mem0 | exact mem1 | exact mem2 | exact mem3 | exact mem4 | exact mem5 | exact mem6 | exact mem7 | (repeat (first | exact List.mem_cons_self | refine List.mem_cons_of_mem _ ?_ | refine mem_seg ?_))) (by first | exact Msg.get_fCerts (by first | assumption | (simp; done) | exact Block.zero_ok | exact Vote.zero_ok | exact Reader.zero_ok | exact Cut.zero_ok | exact Cert.zero_ok | exact Msg.zero_ok | exact Inbox.zero_ok | exact Record.zero_ok | exact Kept.zero_ok  | exact hok) | exact (by first | rfl | exact get_words (by first | omega | (simp; done) | (simp; omega)) | exact get_bytes (by first | omega | (simp; done) | (simp; omega)) | exact get_ints (by first | omega | (simp; done) | (simp; omega)))) ?_
            refine Tr.callV rfl rfl rfl rfl Body28 (lightd_certs m.fCerts D.dCerts 4) (fun w h => Certs_ext h rfl hW.fCerts) ?_
            refine Tr.pick rfl rfl rfl rfl rfl rfl ?_
            refine Tr.assign rfl rfl rfl ?_
            refine Tr.nil ?_
            refine at_n ?_
            refine Sat.ret ?_
            refine en_r ?_
            refine ⟨_, [], res_tmp rfl rfl, (by simp), (by simp), ?_, rfl⟩
            refine congrArg Value.bool ?_
            simp only [DMsg.light, ← hl.heads, ← hl.want, ← hl.votes]
            first
              | (simp [*]; done)
              | (simp_all; done)
          ·
            first | have hs1_24 := of_decide_eq_true hs1_240 | have hs1_24 := of_decide_eq_false hs1_240 | have hs1_24 := nd_t hs1_240 | have hs1_24 := nd_f hs1_240 | have hs1_24 := hs1_240
            refine Tr.pick rfl rfl rfl rfl rfl rfl ?_
            refine Tr.move rfl rfl rfl ?_
            refine Tr.skp rfl rfl ?_
            refine Tr.skp rfl rfl ?_
            refine Tr.skp rfl rfl ?_
            refine Tr.pick rfl rfl rfl rfl rfl rfl ?_
            refine Tr.assign rfl rfl rfl ?_
            refine Tr.nil ?_
            refine at_n ?_
            refine Sat.ret ?_
            refine en_r ?_
            refine ⟨_, [], res_tmp rfl rfl, (by simp), (by simp), ?_, rfl⟩
            refine congrArg Value.bool ?_
            simp only [DMsg.light, ← hl.heads, ← hl.want, ← hl.votes]
            first
              | (simp [*]; done)
              | (simp_all; done)
        ·
          first | have hs1_19 := of_decide_eq_true hs1_190 | have hs1_19 := of_decide_eq_false hs1_190 | have hs1_19 := nd_t hs1_190 | have hs1_19 := nd_f hs1_190 | have hs1_19 := hs1_190
          refine Tr.pick rfl rfl rfl rfl rfl rfl ?_
          refine Tr.move rfl rfl rfl ?_
          refine Tr.skp rfl rfl ?_
          refine Tr.skp rfl rfl ?_
          refine Tr.skp rfl rfl ?_
          refine Tr.pick rfl rfl rfl rfl rfl rfl ?_
          refine Tr.move rfl rfl rfl ?_
          refine Tr.skp rfl rfl ?_
          refine Tr.skp rfl rfl ?_
          refine Tr.skp rfl rfl ?_
          refine Tr.pick rfl rfl rfl rfl rfl rfl ?_
          refine Tr.assign rfl rfl rfl ?_
          refine Tr.nil ?_
          refine at_n ?_
          refine Sat.ret ?_
          refine en_r ?_
          refine ⟨_, [], res_tmp rfl rfl, (by simp), (by simp), ?_, rfl⟩
          refine congrArg Value.bool ?_
          simp only [DMsg.light, ← hl.heads, ← hl.want, ← hl.votes]
          first
            | (simp [*]; done)
            | (simp_all; done)
      ·
        first | have hs1_13 := of_decide_eq_true hs1_130 | have hs1_13 := of_decide_eq_false hs1_130 | have hs1_13 := nd_t hs1_130 | have hs1_13 := nd_f hs1_130 | have hs1_13 := hs1_130
        refine Tr.pick rfl rfl rfl rfl rfl rfl ?_
        refine Tr.move rfl rfl rfl ?_
        refine Tr.skp rfl rfl ?_
        refine Tr.skp rfl rfl ?_
        refine Tr.skp rfl rfl ?_
        refine Tr.skp rfl rfl ?_
        refine Tr.pick rfl rfl rfl rfl rfl rfl ?_
        refine Tr.move rfl rfl rfl ?_
        refine Tr.skp rfl rfl ?_
        refine Tr.skp rfl rfl ?_
        refine Tr.skp rfl rfl ?_
        refine Tr.pick rfl rfl rfl rfl rfl rfl ?_
        refine Tr.move rfl rfl rfl ?_
        refine Tr.skp rfl rfl ?_
        refine Tr.skp rfl rfl ?_
        refine Tr.skp rfl rfl ?_
        refine Tr.pick rfl rfl rfl rfl rfl rfl ?_
        refine Tr.assign rfl rfl rfl ?_
        refine Tr.nil ?_
        refine at_n ?_
        refine Sat.ret ?_
        refine en_r ?_
        refine ⟨_, [], res_tmp rfl rfl, (by simp), (by simp), ?_, rfl⟩
        refine congrArg Value.bool ?_
        simp only [DMsg.light, ← hl.heads, ← hl.want, ← hl.votes]
        first
          | (simp [*]; done)
          | (simp_all; done)
    ·
      first | have hs1_8 := of_decide_eq_true hs1_80 | have hs1_8 := of_decide_eq_false hs1_80 | have hs1_8 := nd_t hs1_80 | have hs1_8 := nd_f hs1_80 | have hs1_8 := hs1_80
      refine Tr.pick rfl rfl rfl rfl rfl rfl ?_
      refine Tr.move rfl rfl rfl ?_
      refine Tr.skp rfl rfl ?_
      refine Tr.skp rfl rfl ?_
      refine Tr.skp rfl rfl ?_
      refine Tr.pick rfl rfl rfl rfl rfl rfl ?_
      refine Tr.move rfl rfl rfl ?_
      refine Tr.skp rfl rfl ?_
      refine Tr.skp rfl rfl ?_
      refine Tr.skp rfl rfl ?_
      refine Tr.skp rfl rfl ?_
      refine Tr.pick rfl rfl rfl rfl rfl rfl ?_
      refine Tr.move rfl rfl rfl ?_
      refine Tr.skp rfl rfl ?_
      refine Tr.skp rfl rfl ?_
      refine Tr.skp rfl rfl ?_
      refine Tr.pick rfl rfl rfl rfl rfl rfl ?_
      refine Tr.move rfl rfl rfl ?_
      refine Tr.skp rfl rfl ?_
      refine Tr.skp rfl rfl ?_
      refine Tr.skp rfl rfl ?_
      refine Tr.pick rfl rfl rfl rfl rfl rfl ?_
      refine Tr.assign rfl rfl rfl ?_
      refine Tr.nil ?_
      refine at_n ?_
      refine Sat.ret ?_
      refine en_r ?_
      refine ⟨_, [], res_tmp rfl rfl, (by simp), (by simp), ?_, rfl⟩
      refine congrArg Value.bool ?_
      simp only [DMsg.light, ← hl.heads, ← hl.want, ← hl.votes]
      first
        | (simp [*]; done)
        | (simp_all; done)
  ·
    first | have hs1_3 := of_decide_eq_true hs1_30 | have hs1_3 := of_decide_eq_false hs1_30 | have hs1_3 := nd_t hs1_30 | have hs1_3 := nd_f hs1_30 | have hs1_3 := hs1_30
    refine Tr.move rfl rfl rfl ?_
    refine Tr.skp rfl rfl ?_
    refine Tr.skp rfl rfl ?_
    refine Tr.skp rfl rfl ?_
    refine Tr.skp rfl rfl ?_
    refine Tr.pick rfl rfl rfl rfl rfl rfl ?_
    refine Tr.move rfl rfl rfl ?_
    refine Tr.skp rfl rfl ?_
    refine Tr.skp rfl rfl ?_
    refine Tr.skp rfl rfl ?_
    refine Tr.pick rfl rfl rfl rfl rfl rfl ?_
    refine Tr.move rfl rfl rfl ?_
    refine Tr.skp rfl rfl ?_
    refine Tr.skp rfl rfl ?_
    refine Tr.skp rfl rfl ?_
    refine Tr.skp rfl rfl ?_
    refine Tr.pick rfl rfl rfl rfl rfl rfl ?_
    refine Tr.move rfl rfl rfl ?_
    refine Tr.skp rfl rfl ?_
    refine Tr.skp rfl rfl ?_
    refine Tr.skp rfl rfl ?_
    refine Tr.pick rfl rfl rfl rfl rfl rfl ?_
    refine Tr.move rfl rfl rfl ?_
    refine Tr.skp rfl rfl ?_
    refine Tr.skp rfl rfl ?_
    refine Tr.skp rfl rfl ?_
    refine Tr.pick rfl rfl rfl rfl rfl rfl ?_
    refine Tr.assign rfl rfl rfl ?_
    refine Tr.nil ?_
    refine at_n ?_
    refine Sat.ret ?_
    refine en_r ?_
    refine ⟨_, [], res_tmp rfl rfl, (by simp), (by simp), ?_, rfl⟩
    refine congrArg Value.bool ?_
    simp only [DMsg.light, ← hl.heads, ← hl.want, ← hl.votes]
    first
      | (simp [*]; done)
      | (simp_all; done)

end Go.Proofs.Ytejjamifnombhaa
end

section
namespace Go.Proofs.Ytejjamifnombhaa
open Go Hw
set_option linter.unusedVariables false
set_option linter.unusedSimpArgs false


theorem pm_in1 {hp l R X : List Blk} {x : Blk} (h : hp.Perm ((x :: (X ++ l)) ++ R)) : hp.Perm ((([x] ++ X) ++ l) ++ R) := h
theorem pm_in2 {hp l R X : List Blk} {x y : Blk} (h : hp.Perm ((x :: y :: (X ++ l)) ++ R)) : hp.Perm ((([x, y] ++ X) ++ l) ++ R) := h
theorem take_snoc {D : Type} {ds : List D} {k : Nat} {d : D} (h : ds[k]? = some d) : ds.take (k + 1) = ds.take k ++ [d] := by
  obtain ⟨hk, rfl⟩ := List.getElem?_eq_some_iff.1 h
  rw [List.take_succ_eq_append_getElem hk]
theorem owned_is {W : World} {B : Block} {D : DB} {q1 c1 q2 c2 : Nat} (h : BlockIs W B D) (h1 : B.fLinks.n ≤ c1) (h2 : B.fData.n ≤ c2) (n1 : B.fLinks.n ≤ 1000000) (n2 : B.fData.n ≤ 1000000) : ∀ W2, Lies [⟨q2, bytesV D.ds, 5, c2 * 1⟩, ⟨q1, flatB D.ls, 25, c1 * 32⟩] W2 → BlockIs W2 (ownB B q1 c1 q2 c2) D := fun W2 hl => by
  have a1 : Acc ⟨some ⟨q1, 0, none⟩, B.fLinks.n, c1⟩ [⟨q1, flatB D.ls, 25, c1 * 32⟩] (flatB D.ls) 25 B.fLinks.n 32 := Acc.some h1 (by rw [flatB_length h.ls.row, h.ls.len])
  have a2 : Acc ⟨some ⟨q2, 0, none⟩, B.fData.n, c2⟩ [⟨q2, bytesV D.ds, 5, c2 * 1⟩] (bytesV D.ds) 5 B.fData.n 1 := Acc.some h2 (by rw [bytesV, List.length_map, h.ds.len, Nat.mul_one])
  exact ⟨ownB_ok h.ok _ _ _ _, h.w, h.seq, h.prev, acc_rows a1 (hl.sub (by intro b hb; rw [List.mem_singleton.1 hb]; exact List.mem_cons_of_mem _ List.mem_cons_self)) h.ls.row h.ls.len n1, acc_bytes a2 (hl.sub (by intro b hb; rw [List.mem_singleton.1 hb]; exact List.mem_cons_self)) h.ds.len n2, h.sg⟩


set_option maxRecDepth 100000 in
set_option maxHeartbeats 4000000 in
theorem kit_own_blocks (s : Sl) (ds : List DB) (hn : s.n ≤ 1000) (hsm : ∀ d ∈ ds, d.ls.length ≤ 500000 ∧ d.ds.length ≤ 500000) : Meets Try.prog 20 [s.v] [] (fun W => BlocksAt W s ds) (fun v out => ∃ sl bl bl2 rs, v = sl.v ∧ out = bl ++ bl2 ∧ OwnSeq Block.cells 131 BlockIs 31 sl bl bl2 rs ds s.n) := by
  intro W hW
  obtain ⟨rs, hs⟩ := hW
  have hnd := hs.nd
  refine calls_of (hp0 := []) Try.func20 rfl 20 Try.ntmps20 rfl (HRep.nil _) ?_
  refine Sat.seq ?_
  -- region 0
  refine Sat.region ?_
  refine Tr.assign rfl rfl rfl ?_
  refine Tr.nil ?_
  refine at_n ?_
  refine Sat.seq ?_
  -- region 1
  refine Sat.region ?_
  refine Tr.assign rfl rfl rfl ?_
  refine Tr.nil ?_
  refine at_n ?_
  refine Sat.seq ?_
  refine Sat.seq ?_
  -- region 2
  refine Sat.region ?_
  refine Tr.assign rfl rfl rfl ?_
  refine Tr.nil ?_
  refine at_n ?_
  refine Sat.block ?_
  refine Sat.loop (ι := Nat × Sl × List Blk × List Blk × List Block) (fun p => ⟨[(0, s.v), (3, p.2.1.v), (4, i64 (p.1 : Int))], (p.2.2.1 ++ (p.2.2.2.1 ++ []))⟩) (fun p => p.1 ≤ s.n ∧ OwnSeq Block.cells 131 BlockIs 31 p.2.1 p.2.2.1 p.2.2.2.1 p.2.2.2.2 (ds.take p.1) p.1) (fun p => s.n - p.1) ((0, Sl.nil, [], [], [])) ?_ ?_ ?_
  · exact ⟨Nat.zero_le _, OwnSeq.none⟩
  · exact weak_perm (wk1 rfl (wk1 rfl (wk1 rfl wk0))) (pm_seg (by repeat (first | exact sg_here | exact sg_end | apply sg_there | apply sg_seg)) (pm_seg (by repeat (first | exact sg_here | exact sg_end | apply sg_there | apply sg_seg)) pm_nil))
  ·
    rintro p ⟨hk, hos⟩
    refine Sat.seq ?_
    refine Sat.seq ?_
    -- region 3
    refine Sat.region ?_
    refine Tr.move rfl rfl rfl ?_
    refine Tr.move rfl rfl rfl ?_
    refine Tr.lenSl rfl rfl rfl Try.underlying34 ?_
    refine Tr.lss rfl rfl rfl rfl rfl ?_
    refine Tr.nil ?_
    refine at_n ?_
    first
      | refine Sat.condP rfl (fun hc0 => ?_) (fun hc0 => ?_)
      | refine Sat.condNP rfl (fun hc0 => ?_) (fun hc0 => ?_)
      | refine Sat.cond rfl (fun hc0 => ?_) (fun hc0 => ?_)
    ·
      have hk2 : p.1 < s.n := by omega
      obtain ⟨b, o, r, d, hsp, hr, hd, his, hlen, hsee⟩ := hs.at (by decide) hk2
      refine Sat.skip ?_
      refine at_n ?_
      refine Sat.seq ?_
      refine Sat.block ?_
      -- region 5
      refine Sat.region ?_
      refine Tr.move rfl rfl rfl ?_
      refine Tr.move rfl rfl rfl ?_
      refine Tr.move rfl rfl rfl ?_
      refine Tr.idxSlP 131 rfl rfl rfl hsp rfl Try.underlying34 Sz31 p.1 rfl (by omega) ?_
      refine Tr.loadEN r.cells rfl rfl rfl Try.underlying31 rfl Sz31 (by simp) hlen hsee ?_
      refine Tr.call4 rfl rfl rfl rfl rfl Body31 (kit_own_block r his.ok d.ls d.ds (by rw [← his.ls.len]; exact (hsm d (List.mem_of_getElem? hd)).1) (by rw [← his.ds.len]; exact (hsm d (List.mem_of_getElem? hd)).2)) (fun w h => ⟨rows_ext h rfl his.ls, bytes_ext h rfl his.ds⟩) ?_
      rintro v16 out16 ⟨q1, c1, q2, c2, rfl, hq1, hq2, rfl⟩
      have hoi := owned_is (q1 := q1) (q2 := q2) his hq1 hq2 (by have := (hsm d (List.mem_of_getElem? hd)).1; rw [← his.ls.len]; omega) (by have := (hsm d (List.mem_of_getElem? hd)).2; rw [← his.ds.len]; omega)
      have hok2 := ownB_ok his.ok q1 c1 q2 c2
      refine Tr.mkRow (z := agg Block.zero.cells) [agg (ownB r q1 c1 q2 c2).cells] (ownB r q1 c1 q2 c2).cells rfl rfl rfl Try.underlying34 Sz31 Block.zr rfl rfl (by intro v hv; rw [List.mem_singleton.1 hv]; exact Block.length hok2) (by decide) (by simp [Value.cells]) ?_
      intro q17
      refine Tr.appendAcc (z := agg Block.zero.cells) (by' := 184) ((ownB r q1 c1 q2 c2).cells) rfl rfl rfl rfl rfl Try.underlying34 Try.underlying34 Sz31 Zr31 (by unfold By; kernel_rfl) rfl hos.acc (by repeat (first | exact sg_here | exact sg_end | apply sg_there | apply sg_seg)) (fun w h => SeesP.of (sees_own h (by first | exact mem0 | exact mem1 | exact mem2 | exact mem3 | exact mem4 | exact mem5 | exact mem6 | exact mem7 | (repeat (first | exact List.mem_cons_self | refine List.mem_cons_of_mem _ ?_ | refine mem_seg ?_))))) (fun e => by cases e) (Block.isCell hok2) (by omega) (by omega) (by rw [Block.length hok2]) ?_
      intro s18 bl18 hac18
      refine Tr.assign rfl rfl rfl ?_
      refine Tr.nil ?_
      refine bl_n ?_
      refine at_n ?_
      -- region 4
      refine Sat.region ?_
      refine Tr.move rfl rfl rfl ?_
      refine Tr.add_i64 rfl rfl rfl rfl (by omega) ?_
      refine Tr.assign rfl rfl rfl ?_
      refine Tr.nil ?_
      refine at_n ?_
      exact ⟨(p.1 + 1, s18, bl18, _, p.2.2.2.2 ++ [ownB r q1 c1 q2 c2]), ⟨by simp only []; omega, by simp only [take_snoc hd]; exact hos.snoc hac18 (Block.length hok2) hoi⟩, by simp only []; omega, weak_perm (wk1 rfl (wk1 rfl (wk1 rfl wk0))) (pm_seg (by repeat (first | exact sg_here | exact sg_end | apply sg_there | apply sg_seg)) (pm_in2 (pm_cons (by repeat (first | exact rem_here | apply rem_there | apply rem_seg)) (pm_cons (by repeat (first | exact rem_here | apply rem_there | apply rem_seg)) (pm_seg (by repeat (first | exact sg_here | exact sg_end | apply sg_there | apply sg_seg)) pm_nil)))))⟩
    ·
      have hpe : p.1 = s.n := by omega
      refine Sat.exit ?_
      refine at_x ?_
      refine at_x ?_
      refine bl_h ?_
      refine at_n ?_
      refine Sat.seq ?_
      -- region 6
      refine Sat.region ?_
      refine Tr.move rfl rfl rfl ?_
      refine Tr.assign rfl rfl rfl ?_
      refine Tr.nil ?_
      refine at_n ?_
      refine Sat.ret ?_
      refine en_r ?_
      refine end_perm (out := (p.2.2.1 ++ (p.2.2.2.1 ++ []))) (res_tmp rfl rfl) (pm_seg (by repeat (first | exact sg_here | exact sg_end | apply sg_there | apply sg_seg)) (pm_seg (by repeat (first | exact sg_here | exact sg_end | apply sg_there | apply sg_seg)) pm_nil)) ?_
      refine ⟨p.2.1, p.2.2.1, p.2.2.2.1, p.2.2.2.2, rfl, by simp, ?_⟩
      rw [hpe, List.take_of_length_le (by omega)] at hos
      exact hos

end Go.Proofs.Ytejjamifnombhaa
end

section
namespace Go.Proofs.Ytejjamifnombhaa
open Go Hw
set_option linter.unusedVariables false
set_option linter.unusedSimpArgs false


def ownC (C : Cut) (q c : Nat) : Cut := { C with fHeads := ⟨some ⟨q, 0, none⟩, C.fHeads.n, c⟩ }
theorem ownC_ok {C : Cut} (h : C.ok) (q c : Nat) : (ownC C q c).ok := ⟨h.l_fPrev⟩
theorem ownC_is {W : World} {C : Cut} {D : DCut} {q c : Nat} (h : CutIs W C D) (h1 : C.fHeads.n ≤ c) (n1 : C.fHeads.n ≤ 1000000) : ∀ W2, Lies [⟨q, flatB D.dHeads, 25, c * 32⟩] W2 → CutIs W2 (ownC C q c) D := fun W2 hl => by
  have a1 : Acc ⟨some ⟨q, 0, none⟩, C.fHeads.n, c⟩ [⟨q, flatB D.dHeads, 25, c * 32⟩] (flatB D.dHeads) 25 C.fHeads.n 32 := Acc.some h1 (by rw [flatB_length h.fHeads.row, h.fHeads.len])
  exact ⟨ownC_ok h.ok _ _, h.fHeight, h.fPrev, acc_rows a1 hl h.fHeads.row h.fHeads.len n1⟩


set_option maxRecDepth 100000 in
set_option maxHeartbeats 4000000 in
theorem kit_own_cuts (s : Sl) (ds : List DCut) (hn : s.n ≤ 1000) (hsm : ∀ d ∈ ds, d.dHeads.length ≤ 500000) : Meets Try.prog 22 [s.v] [] (fun W => CutsAt W s ds) (fun v out => ∃ sl bl bl2 rs, v = sl.v ∧ out = bl ++ bl2 ∧ OwnSeq Cut.cells 34 CutIs 68 sl bl bl2 rs ds s.n) := by
  intro W hW
  obtain ⟨rs, hs⟩ := hW
  have hnd := hs.nd
  refine calls_of (hp0 := []) Try.func22 rfl 25 Try.ntmps22 rfl (HRep.nil _) ?_
  refine Sat.seq ?_
  -- region 0
  refine Sat.region ?_
  refine Tr.assign rfl rfl rfl ?_
  refine Tr.nil ?_
  refine at_n ?_
  refine Sat.seq ?_
  -- region 1
  refine Sat.region ?_
  refine Tr.assign rfl rfl rfl ?_
  refine Tr.nil ?_
  refine at_n ?_
  refine Sat.seq ?_
  refine Sat.seq ?_
  -- region 2
  refine Sat.region ?_
  refine Tr.assign rfl rfl rfl ?_
  refine Tr.nil ?_
  refine at_n ?_
  refine Sat.block ?_
  refine Sat.loop (ι := Nat × Sl × List Blk × List Blk × List Cut) (fun p => ⟨[(0, s.v), (3, p.2.1.v), (4, i64 (p.1 : Int))], (p.2.2.1 ++ (p.2.2.2.1 ++ []))⟩) (fun p => p.1 ≤ s.n ∧ OwnSeq Cut.cells 34 CutIs 68 p.2.1 p.2.2.1 p.2.2.2.1 p.2.2.2.2 (ds.take p.1) p.1) (fun p => s.n - p.1) ((0, Sl.nil, [], [], [])) ?_ ?_ ?_
  · exact ⟨Nat.zero_le _, OwnSeq.none⟩
  · exact weak_perm (wk1 rfl (wk1 rfl (wk1 rfl wk0))) (pm_seg (by repeat (first | exact sg_here | exact sg_end | apply sg_there | apply sg_seg)) (pm_seg (by repeat (first | exact sg_here | exact sg_end | apply sg_there | apply sg_seg)) pm_nil))
  ·
    rintro p ⟨hk, hos⟩
    refine Sat.seq ?_
    refine Sat.seq ?_
    -- region 3
    refine Sat.region ?_
    refine Tr.move rfl rfl rfl ?_
    refine Tr.move rfl rfl rfl ?_
    refine Tr.lenSl rfl rfl rfl Try.underlying46 ?_
    refine Tr.lss rfl rfl rfl rfl rfl ?_
    refine Tr.nil ?_
    refine at_n ?_
    first
      | refine Sat.condP rfl (fun hc0 => ?_) (fun hc0 => ?_)
      | refine Sat.condNP rfl (fun hc0 => ?_) (fun hc0 => ?_)
      | refine Sat.cond rfl (fun hc0 => ?_) (fun hc0 => ?_)
    ·
      have hk2 : p.1 < s.n := by omega
      obtain ⟨b, o, r, d, hsp, hr, hd, his, hlen, hsee⟩ := hs.at (by decide) hk2
      refine Sat.skip ?_
      refine at_n ?_
      refine Sat.seq ?_
      refine Sat.block ?_
      refine Sat.seq ?_
      -- region 5
      refine Sat.region ?_
      refine Tr.move rfl rfl rfl ?_
      refine Tr.move rfl rfl rfl ?_
      refine Tr.idxSlP 34 rfl rfl rfl hsp rfl Try.underlying46 Sz68 p.1 rfl (by omega) ?_
      refine Tr.loadEN r.cells rfl rfl rfl Try.underlying68 rfl Sz68 (by simp) hlen hsee ?_
      refine Tr.alloc (cs := Cut.zero.cells) rfl Cut.zr rfl ?_
      intro n5 hn5 hf5
      refine Tr.storeAll rfl rfl rfl rfl (Cut.isCell (by first | assumption | (simp; done) | exact Block.zero_ok | exact Vote.zero_ok | exact Reader.zero_ok | exact Cut.zero_ok | exact Cert.zero_ok | exact Msg.zero_ok | exact Inbox.zero_ok | exact Record.zero_ok | exact Kept.zero_ok  | exact his.ok | exact ownC_ok his.ok _ _)) Sz68 (Cut.length (by first | assumption | (simp; done) | exact Block.zero_ok | exact Vote.zero_ok | exact Reader.zero_ok | exact Cut.zero_ok | exact Cert.zero_ok | exact Msg.zero_ok | exact Inbox.zero_ok | exact Record.zero_ok | exact Kept.zero_ok  | exact his.ok | exact ownC_ok his.ok _ _)) (by first | exact mem0 | exact mem1 | exact mem2 | exact mem3 | exact mem4 | exact mem5 | exact mem6 | exact mem7 | (repeat (first | exact List.mem_cons_self | refine List.mem_cons_of_mem _ ?_ | refine mem_seg ?_))) (Cut.length (by first | assumption | (simp; done) | exact Block.zero_ok | exact Vote.zero_ok | exact Reader.zero_ok | exact Cut.zero_ok | exact Cert.zero_ok | exact Msg.zero_ok | exact Inbox.zero_ok | exact Record.zero_ok | exact Kept.zero_ok  | exact his.ok | exact ownC_ok his.ok _ _)) (by first | exact upd0 | exact upd1 | exact upd2 | exact upd3 | exact upd4 | exact upd5 | exact upd6 | exact upd7 | (repeat (first | exact upd0 | apply Upd.tail | apply Upd.seg))) ?_
      refine Tr.nil ?_
      refine at_n ?_
      refine Sat.seq ?_
      -- region 6
      refine Sat.region ?_
      refine Tr.fld rfl rfl rfl Try.underlying68 rfl Sz26 (by decide) _ rfl ?_
      refine Tr.load1 rfl rfl rfl Try.underlying26 rfl (by first | exact mem0 | exact mem1 | exact mem2 | exact mem3 | exact mem4 | exact mem5 | exact mem6 | exact mem7 | (repeat (first | exact List.mem_cons_self | refine List.mem_cons_of_mem _ ?_ | refine mem_seg ?_))) (by first | exact Cut.get_fHeads (by first | assumption | (simp; done) | exact Block.zero_ok | exact Vote.zero_ok | exact Reader.zero_ok | exact Cut.zero_ok | exact Cert.zero_ok | exact Msg.zero_ok | exact Inbox.zero_ok | exact Record.zero_ok | exact Kept.zero_ok  | exact his.ok | exact ownC_ok his.ok _ _) | exact (by first | rfl | exact get_words (by first | omega | (simp; done) | (simp; omega)) | exact get_bytes (by first | omega | (simp; done) | (simp; omega)) | exact get_ints (by first | omega | (simp; done) | (simp; omega)))) ?_
      refine Tr.call4 rfl rfl rfl rfl rfl Body59 (kit_names r.fHeads d.dHeads (by rw [← his.fHeads.len]; exact hsm d (List.mem_of_getElem? hd))) (fun w h => rows_ext h rfl his.fHeads) ?_
      rintro v18 out18 ⟨q1, c1, rfl, hq1, rfl⟩
      have hoi := ownC_is (q := q1) his hq1 (by have := hsm d (List.mem_of_getElem? hd); rw [← his.fHeads.len]; omega)
      have hok2 := ownC_ok his.ok q1 c1
      refine Tr.fld rfl rfl rfl Try.underlying68 rfl Sz26 (by decide) _ rfl ?_
      refine Tr.store1 rfl rfl rfl rfl rfl Sz26 (by first | exact mem0 | exact mem1 | exact mem2 | exact mem3 | exact mem4 | exact mem5 | exact mem6 | exact mem7 | (repeat (first | exact List.mem_cons_self | refine List.mem_cons_of_mem _ ?_ | refine mem_seg ?_))) (by rw [Cut.length (by first | assumption | (simp; done) | exact Block.zero_ok | exact Vote.zero_ok | exact Reader.zero_ok | exact Cut.zero_ok | exact Cert.zero_ok | exact Msg.zero_ok | exact Inbox.zero_ok | exact Record.zero_ok | exact Kept.zero_ok  | exact his.ok | exact ownC_ok his.ok _ _)]; decide) (by first | exact Cut.set_fHeads (by first | assumption | (simp; done) | exact Block.zero_ok | exact Vote.zero_ok | exact Reader.zero_ok | exact Cut.zero_ok | exact Cert.zero_ok | exact Msg.zero_ok | exact Inbox.zero_ok | exact Record.zero_ok | exact Kept.zero_ok  | exact his.ok | exact ownC_ok his.ok _ _) _ | exact Cut.setS_fHeads (by first | assumption | (simp; done) | exact Block.zero_ok | exact Vote.zero_ok | exact Reader.zero_ok | exact Cut.zero_ok | exact Cert.zero_ok | exact Msg.zero_ok | exact Inbox.zero_ok | exact Record.zero_ok | exact Kept.zero_ok  | exact his.ok | exact ownC_ok his.ok _ _) _ _ _) (by first | exact upd0 | exact upd1 | exact upd2 | exact upd3 | exact upd4 | exact upd5 | exact upd6 | exact upd7 | (repeat (first | exact upd0 | apply Upd.tail | apply Upd.seg))) ?_
      refine Tr.nil ?_
      refine at_n ?_
      -- region 7
      refine Sat.region ?_
      refine Tr.move rfl rfl rfl ?_
      refine Tr.loadAll rfl rfl rfl Try.underlying68 rfl Sz68 (by first | exact mem0 | exact mem1 | exact mem2 | exact mem3 | exact mem4 | exact mem5 | exact mem6 | exact mem7 | (repeat (first | exact List.mem_cons_self | refine List.mem_cons_of_mem _ ?_ | refine mem_seg ?_))) (Cut.length (by first | assumption | (simp; done) | exact Block.zero_ok | exact Vote.zero_ok | exact Reader.zero_ok | exact Cut.zero_ok | exact Cert.zero_ok | exact Msg.zero_ok | exact Inbox.zero_ok | exact Record.zero_ok | exact Kept.zero_ok  | exact his.ok | exact ownC_ok his.ok _ _)) ?_
      refine Tr.mkRow (z := agg Cut.zero.cells) [agg (ownC r q1 c1).cells] (ownC r q1 c1).cells rfl rfl rfl Try.underlying46 Sz68 Cut.zr rfl rfl (by intro v hv; rw [List.mem_singleton.1 hv]; exact Cut.length hok2) (by decide) (by simp [Value.cells]) ?_
      intro q17
      refine Tr.appendAcc (z := agg Cut.zero.cells) (by' := 64) ((ownC r q1 c1).cells) rfl rfl rfl rfl rfl Try.underlying46 Try.underlying46 Sz68 Zr68 (by unfold By; kernel_rfl) rfl hos.acc (by repeat (first | exact sg_here | exact sg_end | apply sg_there | apply sg_seg)) (fun w h => SeesP.of (sees_own h (by first | exact mem0 | exact mem1 | exact mem2 | exact mem3 | exact mem4 | exact mem5 | exact mem6 | exact mem7 | (repeat (first | exact List.mem_cons_self | refine List.mem_cons_of_mem _ ?_ | refine mem_seg ?_))))) (fun e => by cases e) (Cut.isCell hok2) (by omega) (by omega) (by rw [Cut.length hok2]) ?_
      intro s18 bl18 hac18
      refine Tr.assign rfl rfl rfl ?_
      refine Tr.nil ?_
      refine bl_n ?_
      refine at_n ?_
      -- region 4
      refine Sat.region ?_
      refine Tr.move rfl rfl rfl ?_
      refine Tr.add_i64 rfl rfl rfl rfl (by omega) ?_
      refine Tr.assign rfl rfl rfl ?_
      refine Tr.nil ?_
      refine at_n ?_
      exact ⟨(p.1 + 1, s18, bl18, _, p.2.2.2.2 ++ [ownC r q1 c1]), ⟨by simp only []; omega, by simp only [take_snoc hd]; exact hos.snoc hac18 (Cut.length hok2) hoi⟩, by simp only []; omega, weak_perm (wk1 rfl (wk1 rfl (wk1 rfl wk0))) (pm_seg (by repeat (first | exact sg_here | exact sg_end | apply sg_there | apply sg_seg)) (pm_in1 (pm_cons (by repeat (first | exact rem_here | apply rem_there | apply rem_seg)) (pm_seg (by repeat (first | exact sg_here | exact sg_end | apply sg_there | apply sg_seg)) pm_nil))))⟩
    ·
      have hpe : p.1 = s.n := by omega
      refine Sat.exit ?_
      refine at_x ?_
      refine at_x ?_
      refine bl_h ?_
      refine at_n ?_
      refine Sat.seq ?_
      -- region 8
      refine Sat.region ?_
      refine Tr.move rfl rfl rfl ?_
      refine Tr.assign rfl rfl rfl ?_
      refine Tr.nil ?_
      refine at_n ?_
      refine Sat.ret ?_
      refine en_r ?_
      refine end_perm (out := (p.2.2.1 ++ (p.2.2.2.1 ++ []))) (res_tmp rfl rfl) (pm_seg (by repeat (first | exact sg_here | exact sg_end | apply sg_there | apply sg_seg)) (pm_seg (by repeat (first | exact sg_here | exact sg_end | apply sg_there | apply sg_seg)) pm_nil)) ?_
      refine ⟨p.2.1, p.2.2.1, p.2.2.2.1, p.2.2.2.2, rfl, by simp, ?_⟩
      rw [hpe, List.take_of_length_le (by omega)] at hos
      exact hos

end Go.Proofs.Ytejjamifnombhaa
end

section
namespace Go.Proofs.Ytejjamifnombhaa
open Go Hw
set_option linter.unusedVariables false
set_option linter.unusedSimpArgs false


theorem Cert.setS_heads {x : Cert} (h : x.ok) (p : Option Addr) (n c : Nat) : x.cells.set (0 + 33) (.slice p n c) = ({ x with fCut := { x.fCut with fHeads := ⟨p, n, c⟩ } } : Cert).cells := by
  rw [Cert.cells, List.set_append, if_pos (by rw [Cut.length h.o_fCut]; decide), Nat.zero_add, Cut.setS_fHeads h.o_fCut]; rfl
theorem votes_cell {vs : List Vote} (h : ∀ r ∈ vs, r.ok) : ∀ u ∈ (vs.map Vote.cells).flatten, isCell u = true := by
  intro u hu
  obtain ⟨l, hl, hu⟩ := List.mem_flatten.1 hu
  obtain ⟨r, hr, rfl⟩ := List.mem_map.1 hl
  exact Vote.isCell (h r hr) u hu
theorem seq_votes {W : World} {s : Sl} {vs ds : List Vote} (h : SeqIs Vote.cells 132 VoteIs W s vs ds) : ∀ r ∈ vs, r.ok := by
  intro r hr
  obtain ⟨j, hj, rfl⟩ := List.getElem_of_mem hr
  have hj2 : j < ds.length := by rw [h.nd, ← h.nr]; exact hj
  exact (h.is j _ _ (List.getElem?_eq_getElem hj) (List.getElem?_eq_getElem hj2)).ok
def ownE (C : Cert) (q1 c1 q2 c2 : Nat) : Cert := { C with fCut := ownC C.fCut q1 c1, fVotes := ⟨some ⟨q2, 0, none⟩, C.fVotes.n, c2⟩ }
theorem ownE_ok {C : Cert} (h : C.ok) (q1 c1 q2 c2 : Nat) : (ownE C q1 c1 q2 c2).ok := ⟨ownC_ok h.o_fCut _ _⟩
theorem ownE_is {W : World} {C : Cert} {D : DCert} {vs : List Vote} {q1 c1 q2 c2 : Nat} (h : CertIs W C D) (hv : SeqIs Vote.cells 132 VoteIs W C.fVotes vs D.dVotes) (h1 : C.fCut.fHeads.n ≤ c1) (h2 : C.fVotes.n ≤ c2) (n1 : C.fCut.fHeads.n ≤ 1000000) (n2 : C.fVotes.n ≤ 1000000) :
    ∀ W2, Lies [⟨q2, (vs.map Vote.cells).flatten, 72, c2 * 132⟩, ⟨q1, flatB D.dCut.dHeads, 25, c1 * 32⟩] W2 → CertIs W2 (ownE C q1 c1 q2 c2) D := fun W2 hl => by
  have a2 : Acc ⟨some ⟨q2, 0, none⟩, C.fVotes.n, c2⟩ [⟨q2, (vs.map Vote.cells).flatten, 72, c2 * 132⟩] (vs.map Vote.cells).flatten 72 C.fVotes.n 132 := Acc.some h2 hv.flat
  exact ⟨ownE_ok h.ok _ _ _ _, ownC_is h.fCut h1 n1 W2 (hl.sub (by intro b hb; rw [List.mem_singleton.1 hb]; exact List.mem_cons_of_mem _ List.mem_cons_self)),
    ⟨vs, acc_seq a2 (hl.sub (by intro b hb; rw [List.mem_singleton.1 hb]; exact List.mem_cons_self)) hv.nr hv.nd hv.len n2 fun i r d hr hd => (by
      have := hv.is i r d hr hd
      exact ⟨this.ok, this.eq, this.wf⟩)⟩⟩


set_option maxRecDepth 100000 in
set_option maxHeartbeats 4000000 in
theorem kit_own_certs (s : Sl) (ds : List DCert) (hn : s.n ≤ 1000) (hsm : ∀ d ∈ ds, d.dCut.dHeads.length ≤ 500000 ∧ d.dVotes.length ≤ 500000) : Meets Try.prog 21 [s.v] [] (fun W => CertsAt W s ds) (fun v out => ∃ sl bl bl2 rs, v = sl.v ∧ out = bl ++ bl2 ∧ OwnSeq Cert.cells 35 CertIs 70 sl bl bl2 rs ds s.n) := by
  intro W hW
  obtain ⟨rs, hs⟩ := hW
  have hnd := hs.nd
  refine calls_of (hp0 := []) Try.func21 rfl 32 Try.ntmps21 rfl (HRep.nil _) ?_
  refine Sat.seq ?_
  -- region 0
  refine Sat.region ?_
  refine Tr.assign rfl rfl rfl ?_
  refine Tr.nil ?_
  refine at_n ?_
  refine Sat.seq ?_
  -- region 1
  refine Sat.region ?_
  refine Tr.assign rfl rfl rfl ?_
  refine Tr.nil ?_
  refine at_n ?_
  refine Sat.seq ?_
  refine Sat.seq ?_
  -- region 2
  refine Sat.region ?_
  refine Tr.assign rfl rfl rfl ?_
  refine Tr.nil ?_
  refine at_n ?_
  refine Sat.block ?_
  refine Sat.loop (ι := Nat × Sl × List Blk × List Blk × List Cert) (fun p => ⟨[(0, s.v), (3, p.2.1.v), (4, i64 (p.1 : Int))], (p.2.2.1 ++ (p.2.2.2.1 ++ []))⟩) (fun p => p.1 ≤ s.n ∧ OwnSeq Cert.cells 35 CertIs 70 p.2.1 p.2.2.1 p.2.2.2.1 p.2.2.2.2 (ds.take p.1) p.1) (fun p => s.n - p.1) ((0, Sl.nil, [], [], [])) ?_ ?_ ?_
  · exact ⟨Nat.zero_le _, OwnSeq.none⟩
  · exact weak_perm (wk1 rfl (wk1 rfl (wk1 rfl wk0))) (pm_seg (by repeat (first | exact sg_here | exact sg_end | apply sg_there | apply sg_seg)) (pm_seg (by repeat (first | exact sg_here | exact sg_end | apply sg_there | apply sg_seg)) pm_nil))
  ·
    rintro p ⟨hk, hos⟩
    refine Sat.seq ?_
    refine Sat.seq ?_
    -- region 3
    refine Sat.region ?_
    refine Tr.move rfl rfl rfl ?_
    refine Tr.move rfl rfl rfl ?_
    refine Tr.lenSl rfl rfl rfl Try.underlying47 ?_
    refine Tr.lss rfl rfl rfl rfl rfl ?_
    refine Tr.nil ?_
    refine at_n ?_
    first
      | refine Sat.condP rfl (fun hc0 => ?_) (fun hc0 => ?_)
      | refine Sat.condNP rfl (fun hc0 => ?_) (fun hc0 => ?_)
      | refine Sat.cond rfl (fun hc0 => ?_) (fun hc0 => ?_)
    ·
      have hk2 : p.1 < s.n := by omega
      obtain ⟨b, o, r, d, hsp, hr, hd, his, hlen, hsee⟩ := hs.at (by decide) hk2
      obtain ⟨vs, hvs⟩ := his.fVotes
      have hs1 := (hsm d (List.mem_of_getElem? hd)).1
      have hs2 := (hsm d (List.mem_of_getElem? hd)).2
      rw [his.fCut.fHeads.len] at hs1
      rw [hvs.nd] at hs2
      refine Sat.skip ?_
      refine at_n ?_
      refine Sat.seq ?_
      refine Sat.block ?_
      refine Sat.seq ?_
      -- region 5
      refine Sat.region ?_
      refine Tr.move rfl rfl rfl ?_
      refine Tr.move rfl rfl rfl ?_
      refine Tr.idxSlP 35 rfl rfl rfl hsp rfl Try.underlying47 Sz70 p.1 rfl (by omega) ?_
      refine Tr.loadEN r.cells rfl rfl rfl Try.underlying70 rfl Sz70 (by simp) hlen hsee ?_
      refine Tr.alloc (cs := Cert.zero.cells) rfl Cert.zr rfl ?_
      intro n5 hn5 hf5
      refine Tr.storeAll rfl rfl rfl rfl (Cert.isCell (by first | assumption | (simp; done) | exact Block.zero_ok | exact Vote.zero_ok | exact Reader.zero_ok | exact Cut.zero_ok | exact Cert.zero_ok | exact Msg.zero_ok | exact Inbox.zero_ok | exact Record.zero_ok | exact Kept.zero_ok  | exact his.ok | exact ⟨ownC_ok his.ok.o_fCut _ _⟩ | exact ownE_ok his.ok _ _ _ _)) Sz70 (Cert.length (by first | assumption | (simp; done) | exact Block.zero_ok | exact Vote.zero_ok | exact Reader.zero_ok | exact Cut.zero_ok | exact Cert.zero_ok | exact Msg.zero_ok | exact Inbox.zero_ok | exact Record.zero_ok | exact Kept.zero_ok  | exact his.ok | exact ⟨ownC_ok his.ok.o_fCut _ _⟩ | exact ownE_ok his.ok _ _ _ _)) (by first | exact mem0 | exact mem1 | exact mem2 | exact mem3 | exact mem4 | exact mem5 | exact mem6 | exact mem7 | (repeat (first | exact List.mem_cons_self | refine List.mem_cons_of_mem _ ?_ | refine mem_seg ?_))) (Cert.length (by first | assumption | (simp; done) | exact Block.zero_ok | exact Vote.zero_ok | exact Reader.zero_ok | exact Cut.zero_ok | exact Cert.zero_ok | exact Msg.zero_ok | exact Inbox.zero_ok | exact Record.zero_ok | exact Kept.zero_ok  | exact his.ok | exact ⟨ownC_ok his.ok.o_fCut _ _⟩ | exact ownE_ok his.ok _ _ _ _)) (by first | exact upd0 | exact upd1 | exact upd2 | exact upd3 | exact upd4 | exact upd5 | exact upd6 | exact upd7 | (repeat (first | exact upd0 | apply Upd.tail | apply Upd.seg))) ?_
      refine Tr.nil ?_
      refine at_n ?_
      refine Sat.seq ?_
      -- region 6
      refine Sat.draw [(0, 0), (0, 1), (1, 2), (0, 5), (1, 6), (3, 3), (0, 8), (0, 9), (2, 4), (4, 7), (4, 10), (0, 11), (4, 12)] Mixed (by kernel_rfl) ?_
      refine Tr.fld rfl rfl rfl Try.underlying70 rfl Sz68 (by decide) _ rfl ?_
      refine Tr.fld rfl rfl rfl Try.underlying68 rfl Sz26 (by decide) _ rfl ?_
      refine Tr.load1 rfl rfl rfl Try.underlying26 rfl (by first | exact mem0 | exact mem1 | exact mem2 | exact mem3 | exact mem4 | exact mem5 | exact mem6 | exact mem7 | (repeat (first | exact List.mem_cons_self | refine List.mem_cons_of_mem _ ?_ | refine mem_seg ?_))) (Cert.see_fCut his.ok 33 _ (Cut.get_fHeads his.ok.o_fCut)) ?_
      refine Tr.fld rfl rfl rfl Try.underlying70 rfl Sz45 (by decide) _ rfl ?_
      refine Tr.load1 rfl rfl rfl Try.underlying45 rfl (by first | exact mem0 | exact mem1 | exact mem2 | exact mem3 | exact mem4 | exact mem5 | exact mem6 | exact mem7 | (repeat (first | exact List.mem_cons_self | refine List.mem_cons_of_mem _ ?_ | refine mem_seg ?_))) (by first | exact Cert.get_fVotes (by first | assumption | (simp; done) | exact Block.zero_ok | exact Vote.zero_ok | exact Reader.zero_ok | exact Cut.zero_ok | exact Cert.zero_ok | exact Msg.zero_ok | exact Inbox.zero_ok | exact Record.zero_ok | exact Kept.zero_ok  | exact his.ok | exact ⟨ownC_ok his.ok.o_fCut _ _⟩ | exact ownE_ok his.ok _ _ _ _) | exact (by first | rfl | exact get_words (by first | omega | (simp; done) | (simp; omega)) | exact get_bytes (by first | omega | (simp; done) | (simp; omega)) | exact get_ints (by first | omega | (simp; done) | (simp; omega)))) ?_
      refine Tr.call rfl rfl rfl rfl Body59 (kit_names r.fCut.fHeads d.dCut.dHeads (by rw [← his.fCut.fHeads.len]; exact (hsm d (List.mem_of_getElem? hd)).1)) (FreshRow.loose _ _ _ _) (fun w h => rows_ext h rfl his.fCut.fHeads) ?_
      rintro v18 out18 ⟨q1, c1, rfl, hq1, rfl⟩
      refine Tr.fld rfl rfl rfl Try.underlying70 rfl Sz68 (by decide) _ rfl ?_
      refine Tr.fld rfl rfl rfl Try.underlying68 rfl Sz26 (by decide) _ rfl ?_
      refine Tr.mkRow2 (z := agg Vote.zero.cells) [] [] rfl rfl Try.underlying45 Sz72 Vote.zr rfl rfl (by intro v hv; cases hv) (by decide) rfl ?_
      intro q20
      refine Tr.appendSl (z := agg Vote.zero.cells) (by' := 160) ((vs.map Vote.cells).flatten) rfl rfl rfl rfl rfl Try.underlying45 Try.underlying45 Sz72 Zr72 (by unfold By; kernel_rfl) rfl (fun w h => seesP_ext h rfl hvs.see) (fun e => by have := hvs.nil e; have := hvs.cap; omega) (votes_cell (seq_votes hvs)) (by repeat (first | exact rem_here | apply rem_there | apply rem_seg)) rfl rfl (by omega) (by omega) (by omega) hvs.flat ?_
      intro q2 c2 hq2
      rw [Nat.zero_add r.fVotes.n]
      have hoi := ownE_is (q1 := q1) (q2 := q2) his hvs hq1 (show r.fVotes.n ≤ c2 by omega) (by omega) (by omega)
      have hok2 := ownE_ok his.ok q1 c1 q2 c2
      refine Tr.store1 rfl rfl rfl rfl rfl Sz26 (by first | exact mem0 | exact mem1 | exact mem2 | exact mem3 | exact mem4 | exact mem5 | exact mem6 | exact mem7 | (repeat (first | exact List.mem_cons_self | refine List.mem_cons_of_mem _ ?_ | refine mem_seg ?_))) (by rw [Cert.length his.ok]; decide) (Cert.setS_heads his.ok _ _ _) (by first | exact upd0 | exact upd1 | exact upd2 | exact upd3 | exact upd4 | exact upd5 | exact upd6 | exact upd7 | (repeat (first | exact upd0 | apply Upd.tail | apply Upd.seg))) ?_
      refine Tr.fld rfl rfl rfl Try.underlying70 rfl Sz45 (by decide) _ rfl ?_
      refine Tr.store1 rfl rfl rfl rfl rfl Sz45 (by first | exact mem0 | exact mem1 | exact mem2 | exact mem3 | exact mem4 | exact mem5 | exact mem6 | exact mem7 | (repeat (first | exact List.mem_cons_self | refine List.mem_cons_of_mem _ ?_ | refine mem_seg ?_))) (by rw [Cert.length (by first | assumption | (simp; done) | exact Block.zero_ok | exact Vote.zero_ok | exact Reader.zero_ok | exact Cut.zero_ok | exact Cert.zero_ok | exact Msg.zero_ok | exact Inbox.zero_ok | exact Record.zero_ok | exact Kept.zero_ok  | exact his.ok | exact ⟨ownC_ok his.ok.o_fCut _ _⟩ | exact ownE_ok his.ok _ _ _ _)]; decide) (by first | exact Cert.set_fVotes (by first | assumption | (simp; done) | exact Block.zero_ok | exact Vote.zero_ok | exact Reader.zero_ok | exact Cut.zero_ok | exact Cert.zero_ok | exact Msg.zero_ok | exact Inbox.zero_ok | exact Record.zero_ok | exact Kept.zero_ok  | exact his.ok | exact ⟨ownC_ok his.ok.o_fCut _ _⟩ | exact ownE_ok his.ok _ _ _ _) _ | exact Cert.setS_fVotes (by first | assumption | (simp; done) | exact Block.zero_ok | exact Vote.zero_ok | exact Reader.zero_ok | exact Cut.zero_ok | exact Cert.zero_ok | exact Msg.zero_ok | exact Inbox.zero_ok | exact Record.zero_ok | exact Kept.zero_ok  | exact his.ok | exact ⟨ownC_ok his.ok.o_fCut _ _⟩ | exact ownE_ok his.ok _ _ _ _) _ _ _) (by first | exact upd0 | exact upd1 | exact upd2 | exact upd3 | exact upd4 | exact upd5 | exact upd6 | exact upd7 | (repeat (first | exact upd0 | apply Upd.tail | apply Upd.seg))) ?_
      refine Tr.nil ?_
      refine at_n ?_
      -- region 7
      refine Sat.region ?_
      refine Tr.move rfl rfl rfl ?_
      refine Tr.loadAll rfl rfl rfl Try.underlying70 rfl Sz70 (by first | exact mem0 | exact mem1 | exact mem2 | exact mem3 | exact mem4 | exact mem5 | exact mem6 | exact mem7 | (repeat (first | exact List.mem_cons_self | refine List.mem_cons_of_mem _ ?_ | refine mem_seg ?_))) (Cert.length (by first | assumption | (simp; done) | exact Block.zero_ok | exact Vote.zero_ok | exact Reader.zero_ok | exact Cut.zero_ok | exact Cert.zero_ok | exact Msg.zero_ok | exact Inbox.zero_ok | exact Record.zero_ok | exact Kept.zero_ok  | exact his.ok | exact ⟨ownC_ok his.ok.o_fCut _ _⟩ | exact ownE_ok his.ok _ _ _ _)) ?_
      refine Tr.mkRow (z := agg Cert.zero.cells) [agg (ownE r q1 c1 q2 c2).cells] (ownE r q1 c1 q2 c2).cells rfl rfl rfl Try.underlying47 Sz70 Cert.zr rfl rfl (by intro v hv; rw [List.mem_singleton.1 hv]; exact Cert.length hok2) (by decide) (by simp [Value.cells]) ?_
      intro q17
      refine Tr.appendAcc (z := agg Cert.zero.cells) (by' := 88) ((ownE r q1 c1 q2 c2).cells) rfl rfl rfl rfl rfl Try.underlying47 Try.underlying47 Sz70 Zr70 (by unfold By; kernel_rfl) rfl hos.acc (by repeat (first | exact sg_here | exact sg_end | apply sg_there | apply sg_seg)) (fun w h => SeesP.of (sees_own h (by first | exact mem0 | exact mem1 | exact mem2 | exact mem3 | exact mem4 | exact mem5 | exact mem6 | exact mem7 | (repeat (first | exact List.mem_cons_self | refine List.mem_cons_of_mem _ ?_ | refine mem_seg ?_))))) (fun e => by cases e) (Cert.isCell hok2) (by omega) (by omega) (by rw [Cert.length hok2]) ?_
      intro s18 bl18 hac18
      refine Tr.assign rfl rfl rfl ?_
      refine Tr.nil ?_
      refine bl_n ?_
      refine at_n ?_
      -- region 4
      refine Sat.region ?_
      refine Tr.move rfl rfl rfl ?_
      refine Tr.add_i64 rfl rfl rfl rfl (by omega) ?_
      refine Tr.assign rfl rfl rfl ?_
      refine Tr.nil ?_
      refine at_n ?_
      exact ⟨(p.1 + 1, s18, bl18, _, p.2.2.2.2 ++ [ownE r q1 c1 q2 c2]), ⟨by simp only []; omega, by simp only [take_snoc hd]; exact hos.snoc hac18 (Cert.length hok2) hoi⟩, by simp only []; omega, weak_perm (wk1 rfl (wk1 rfl (wk1 rfl wk0))) (pm_seg (by repeat (first | exact sg_here | exact sg_end | apply sg_there | apply sg_seg)) (pm_in2 (pm_cons (by repeat (first | exact rem_here | apply rem_there | apply rem_seg)) (pm_cons (by repeat (first | exact rem_here | apply rem_there | apply rem_seg)) (pm_seg (by repeat (first | exact sg_here | exact sg_end | apply sg_there | apply sg_seg)) pm_nil)))))⟩
    ·
      have hpe : p.1 = s.n := by omega
      refine Sat.exit ?_
      refine at_x ?_
      refine at_x ?_
      refine bl_h ?_
      refine at_n ?_
      refine Sat.seq ?_
      -- region 8
      refine Sat.region ?_
      refine Tr.move rfl rfl rfl ?_
      refine Tr.assign rfl rfl rfl ?_
      refine Tr.nil ?_
      refine at_n ?_
      refine Sat.ret ?_
      refine en_r ?_
      refine end_perm (out := (p.2.2.1 ++ (p.2.2.2.1 ++ []))) (res_tmp rfl rfl) (pm_seg (by repeat (first | exact sg_here | exact sg_end | apply sg_there | apply sg_seg)) (pm_seg (by repeat (first | exact sg_here | exact sg_end | apply sg_there | apply sg_seg)) pm_nil)) ?_
      refine ⟨p.2.1, p.2.2.1, p.2.2.2.1, p.2.2.2.2, rfl, by simp, ?_⟩
      rw [hpe, List.take_of_length_le (by omega)] at hos
      exact hos

end Go.Proofs.Ytejjamifnombhaa
end

section
namespace Go.Proofs.Ytejjamifnombhaa
open Go Hw
set_option linter.unusedVariables false
set_option linter.unusedSimpArgs false


/-- a message of one's own, with what it holds -/
def OwnedMsg (D : DMsg) (v : Value) (out : List Blk) : Prop := ∃ m : Msg, m.ok ∧ v = agg m.cells ∧ ∀ W2, Lies out W2 → MsgIs W2 m D
theorem no_lie {n : Nat} {v : Value} {T : TypeId} {W : World} (h : Lies [⟨n, [v], T, 0⟩] W) : False := by
  obtain ⟨full, fr, hb⟩ := h _ (List.mem_singleton.2 rfl)
  have h1 := hb.pre.length_le
  have h2 := hb.size
  simp at h1
  simp only at h2
  omega
theorem OwnedMsg.loose (D : DMsg) : Loose (OwnedMsg D) := fun l hl => by
  obtain ⟨n, _, hn⟩ := fresh_is 0 l
  exact ⟨agg Msg.zero.cells, [⟨n, [undef], 0, 0⟩], ⟨Msg.zero, by exact Msg.zero_ok, rfl, fun W2 h => (no_lie h).elim⟩, by
    rw [List.map_append, List.nodup_append]
    refine ⟨by simp, hl, fun i hi j hj => ?_⟩
    obtain ⟨b, hb, rfl⟩ := List.mem_map.1 hj
    simp at hi
    subst hi
    exact fun e => hn b hb e.symm⟩
structure LightIs (D : DMsg) : Prop where
  heads : D.dHeads.length ≤ 40
  want : D.dWant.length ≤ 40
  votes : D.dVotes.length ≤ 20
  nB : D.dBlocks.length ≤ 10
  nC : D.dCuts.length ≤ 6
  nE : D.dCerts.length ≤ 4
  blocks : ∀ d ∈ D.dBlocks, d.ls.length ≤ 500000 ∧ d.ds.length ≤ 500000
  cuts : ∀ d ∈ D.dCuts, d.dHeads.length ≤ 500000
  certs : ∀ d ∈ D.dCerts, d.dCut.dHeads.length ≤ 500000 ∧ d.dVotes.length ≤ 500000
theorem light_small {D : DMsg} (h : D.light = true) : LightIs D := by
  simp only [DMsg.light, lightOf, lightBf, lightCf, lightEf, Bool.and_eq_true, decide_eq_true_eq, Bool.not_eq_true', decide_eq_false_iff_not, List.all_eq_true] at h
  obtain ⟨h1, h2, ⟨h3, h4⟩, h5, ⟨h6, h7⟩, h8, h9⟩ := h
  exact ⟨by omega, by omega, by omega, by omega, by omega, by omega, fun d hd => by have := h4 d hd; omega, fun d hd => by have := h7 d hd; omega, fun d hd => by have := h9 d hd; omega⟩


set_option maxRecDepth 100000 in
set_option maxHeartbeats 4000000 in
theorem kit_own_msg (m : Msg) (D : DMsg) (hl : D.light = true) : Meets Try.prog 19 [agg m.cells] [] (fun W => MsgIs W m D) (OwnedMsg D) := by
  intro W hW
  obtain ⟨vs, hvs⟩ := hW.fVotes
  have hok := hW.ok
  have hlen := hW.len
  have hsm := light_small hl
  have e1 := hlen.heads
  have e2 := hlen.want
  have e3 := hlen.blocks
  have e4 := hlen.votes
  have e5 := hlen.cuts
  have e6 := hlen.certs
  have f1 := hsm.heads
  have f2 := hsm.want
  have f3 := hsm.nB
  have f4 := hsm.votes
  have f5 := hsm.nC
  have f6 := hsm.nE
  clear hl
  refine calls_of (hp0 := []) Try.func19 rfl 29 Try.ntmps19 rfl (HRep.nil _) ?_
  refine Sat.seq ?_
  -- region 0
  refine Sat.region ?_
  refine Tr.boxA rfl rfl ?_
  intro n1 hn1 hf1
  refine Tr.alloc (cs := Msg.zero.cells) rfl Msg.zr rfl ?_
  intro n2 hn2 hf2
  refine Tr.nil ?_
  refine at_n ?_
  refine Sat.seq ?_
  -- region 1
  refine Sat.drawK (sp_v (sp_k sp_n)) rfl [(0, 0), (0, 1), (0, 3), (0, 4), (0, 6), (0, 7), (4, 2), (0, 9), (4, 5), (4, 8)] [(4, 10), (0, 11), (4, 12), (0, 13), (4, 14)] Mixed (by kernel_rfl) (by kernel_rfl) ?_
  refine Tr.fld rfl rfl rfl Try.underlying49 rfl Sz26 (by decide) _ rfl ?_
  refine Tr.kload1 rfl rfl rfl Try.underlying26 rfl (by first | exact mem0 | exact mem1 | exact mem2 | exact mem3 | exact mem4 | exact mem5 | exact mem6 | exact mem7 | (repeat (first | exact List.mem_cons_self | refine List.mem_cons_of_mem _ ?_ | refine mem_seg ?_))) (by first | exact Msg.get_fHeads (by first | assumption | (simp; done) | exact Block.zero_ok | exact Vote.zero_ok | exact Reader.zero_ok | exact Cut.zero_ok | exact Cert.zero_ok | exact Msg.zero_ok | exact Inbox.zero_ok | exact Record.zero_ok | exact Kept.zero_ok  | exact hW.ok | exact ⟨trivial⟩) | exact (by first | rfl | exact get_words (by first | omega | (simp; done) | (simp; omega)) | exact get_bytes (by first | omega | (simp; done) | (simp; omega)) | exact get_ints (by first | omega | (simp; done) | (simp; omega)))) ?_
  refine Tr.fld rfl rfl rfl Try.underlying49 rfl Sz26 (by decide) _ rfl ?_
  refine Tr.kload1 rfl rfl rfl Try.underlying26 rfl (by first | exact mem0 | exact mem1 | exact mem2 | exact mem3 | exact mem4 | exact mem5 | exact mem6 | exact mem7 | (repeat (first | exact List.mem_cons_self | refine List.mem_cons_of_mem _ ?_ | refine mem_seg ?_))) (by first | exact Msg.get_fWant (by first | assumption | (simp; done) | exact Block.zero_ok | exact Vote.zero_ok | exact Reader.zero_ok | exact Cut.zero_ok | exact Cert.zero_ok | exact Msg.zero_ok | exact Inbox.zero_ok | exact Record.zero_ok | exact Kept.zero_ok  | exact hW.ok | exact ⟨trivial⟩) | exact (by first | rfl | exact get_words (by first | omega | (simp; done) | (simp; omega)) | exact get_bytes (by first | omega | (simp; done) | (simp; omega)) | exact get_ints (by first | omega | (simp; done) | (simp; omega)))) ?_
  refine Tr.fld rfl rfl rfl Try.underlying49 rfl Sz34 (by decide) _ rfl ?_
  refine Tr.kload1 rfl rfl rfl Try.underlying34 rfl (by first | exact mem0 | exact mem1 | exact mem2 | exact mem3 | exact mem4 | exact mem5 | exact mem6 | exact mem7 | (repeat (first | exact List.mem_cons_self | refine List.mem_cons_of_mem _ ?_ | refine mem_seg ?_))) (by first | exact Msg.get_fBlocks (by first | assumption | (simp; done) | exact Block.zero_ok | exact Vote.zero_ok | exact Reader.zero_ok | exact Cut.zero_ok | exact Cert.zero_ok | exact Msg.zero_ok | exact Inbox.zero_ok | exact Record.zero_ok | exact Kept.zero_ok  | exact hW.ok | exact ⟨trivial⟩) | exact (by first | rfl | exact get_words (by first | omega | (simp; done) | (simp; omega)) | exact get_bytes (by first | omega | (simp; done) | (simp; omega)) | exact get_ints (by first | omega | (simp; done) | (simp; omega)))) ?_
  refine Tr.call4 rfl rfl rfl rfl rfl Body59 (kit_names m.fHeads D.dHeads (by omega)) (fun w h => rows_ext h rfl hW.fHeads) ?_
  rintro v5 out5 ⟨q1, c1, rfl, hq1, rfl⟩
  refine Tr.fld rfl rfl rfl Try.underlying49 rfl Sz26 (by decide) _ rfl ?_
  refine Tr.call4 rfl rfl rfl rfl rfl Body59 (kit_names m.fWant D.dWant (by omega)) (fun w h => rows_ext h rfl hW.fWant) ?_
  rintro v8 out8 ⟨q2, c2, rfl, hq2, rfl⟩
  refine Tr.call4 rfl rfl rfl rfl rfl Body20 (kit_own_blocks m.fBlocks D.dBlocks (by omega) hsm.blocks) (fun w h => Blocks_ext h rfl hW.fBlocks) ?_
  rintro v11 out11 ⟨sB, bB, bB2, rB, rfl, rfl, hoB⟩
  simp only [List.append_assoc, List.cons_append, List.nil_append]
  refine Tr.nil ?_
  refine Tr.store1 rfl rfl rfl rfl rfl Sz26 (by first | exact mem0 | exact mem1 | exact mem2 | exact mem3 | exact mem4 | exact mem5 | exact mem6 | exact mem7 | (repeat (first | exact List.mem_cons_self | refine List.mem_cons_of_mem _ ?_ | refine mem_seg ?_))) (by rw [Msg.length (by first | assumption | (simp; done) | exact Block.zero_ok | exact Vote.zero_ok | exact Reader.zero_ok | exact Cut.zero_ok | exact Cert.zero_ok | exact Msg.zero_ok | exact Inbox.zero_ok | exact Record.zero_ok | exact Kept.zero_ok  | exact hW.ok | exact ⟨trivial⟩)]; decide) (by first | exact Msg.set_fHeads (by first | assumption | (simp; done) | exact Block.zero_ok | exact Vote.zero_ok | exact Reader.zero_ok | exact Cut.zero_ok | exact Cert.zero_ok | exact Msg.zero_ok | exact Inbox.zero_ok | exact Record.zero_ok | exact Kept.zero_ok  | exact hW.ok | exact ⟨trivial⟩) _ | exact Msg.setS_fHeads (by first | assumption | (simp; done) | exact Block.zero_ok | exact Vote.zero_ok | exact Reader.zero_ok | exact Cut.zero_ok | exact Cert.zero_ok | exact Msg.zero_ok | exact Inbox.zero_ok | exact Record.zero_ok | exact Kept.zero_ok  | exact hW.ok | exact ⟨trivial⟩) _ _ _) (by first | exact upd0 | exact upd1 | exact upd2 | exact upd3 | exact upd4 | exact upd5 | exact upd6 | exact upd7 | (repeat (first | exact upd0 | apply Upd.tail | apply Upd.seg))) ?_
  refine Tr.fld rfl rfl rfl Try.underlying49 rfl Sz26 (by decide) _ rfl ?_
  refine Tr.store1 rfl rfl rfl rfl rfl Sz26 (by first | exact mem0 | exact mem1 | exact mem2 | exact mem3 | exact mem4 | exact mem5 | exact mem6 | exact mem7 | (repeat (first | exact List.mem_cons_self | refine List.mem_cons_of_mem _ ?_ | refine mem_seg ?_))) (by rw [Msg.length (by first | assumption | (simp; done) | exact Block.zero_ok | exact Vote.zero_ok | exact Reader.zero_ok | exact Cut.zero_ok | exact Cert.zero_ok | exact Msg.zero_ok | exact Inbox.zero_ok | exact Record.zero_ok | exact Kept.zero_ok  | exact hW.ok | exact ⟨trivial⟩)]; decide) (by first | exact Msg.set_fWant (by first | assumption | (simp; done) | exact Block.zero_ok | exact Vote.zero_ok | exact Reader.zero_ok | exact Cut.zero_ok | exact Cert.zero_ok | exact Msg.zero_ok | exact Inbox.zero_ok | exact Record.zero_ok | exact Kept.zero_ok  | exact hW.ok | exact ⟨trivial⟩) _ | exact Msg.setS_fWant (by first | assumption | (simp; done) | exact Block.zero_ok | exact Vote.zero_ok | exact Reader.zero_ok | exact Cut.zero_ok | exact Cert.zero_ok | exact Msg.zero_ok | exact Inbox.zero_ok | exact Record.zero_ok | exact Kept.zero_ok  | exact hW.ok | exact ⟨trivial⟩) _ _ _) (by first | exact upd0 | exact upd1 | exact upd2 | exact upd3 | exact upd4 | exact upd5 | exact upd6 | exact upd7 | (repeat (first | exact upd0 | apply Upd.tail | apply Upd.seg))) ?_
  refine Tr.fld rfl rfl rfl Try.underlying49 rfl Sz34 (by decide) _ rfl ?_
  refine Tr.store1 rfl rfl rfl rfl rfl Sz34 (by first | exact mem0 | exact mem1 | exact mem2 | exact mem3 | exact mem4 | exact mem5 | exact mem6 | exact mem7 | (repeat (first | exact List.mem_cons_self | refine List.mem_cons_of_mem _ ?_ | refine mem_seg ?_))) (by rw [Msg.length (by first | assumption | (simp; done) | exact Block.zero_ok | exact Vote.zero_ok | exact Reader.zero_ok | exact Cut.zero_ok | exact Cert.zero_ok | exact Msg.zero_ok | exact Inbox.zero_ok | exact Record.zero_ok | exact Kept.zero_ok  | exact hW.ok | exact ⟨trivial⟩)]; decide) (by first | exact Msg.set_fBlocks (by first | assumption | (simp; done) | exact Block.zero_ok | exact Vote.zero_ok | exact Reader.zero_ok | exact Cut.zero_ok | exact Cert.zero_ok | exact Msg.zero_ok | exact Inbox.zero_ok | exact Record.zero_ok | exact Kept.zero_ok  | exact hW.ok | exact ⟨trivial⟩) _ | exact Msg.setS_fBlocks (by first | assumption | (simp; done) | exact Block.zero_ok | exact Vote.zero_ok | exact Reader.zero_ok | exact Cut.zero_ok | exact Cert.zero_ok | exact Msg.zero_ok | exact Inbox.zero_ok | exact Record.zero_ok | exact Kept.zero_ok  | exact hW.ok | exact ⟨trivial⟩) _ _ _) (by first | exact upd0 | exact upd1 | exact upd2 | exact upd3 | exact upd4 | exact upd5 | exact upd6 | exact upd7 | (repeat (first | exact upd0 | apply Upd.tail | apply Upd.seg))) ?_
  refine Tr.nil ?_
  refine at_n ?_
  refine Sat.seq ?_
  -- region 2
  refine Sat.drawK (sp_k (sp_x (sp_x (sp_v (sp_v (sp_v sp_n)))))) rfl [(0, 1), (0, 2), (0, 4), (0, 5), (0, 7), (0, 8), (2, 0), (4, 3), (0, 10), (4, 6), (4, 9)] [(4, 11), (0, 12), (4, 13), (0, 14), (4, 15)] Mixed (by kernel_rfl) (by kernel_rfl) ?_
  refine Tr.fld rfl rfl rfl Try.underlying49 rfl Sz45 (by decide) _ rfl ?_
  refine Tr.kload1 rfl rfl rfl Try.underlying45 rfl (by first | exact mem0 | exact mem1 | exact mem2 | exact mem3 | exact mem4 | exact mem5 | exact mem6 | exact mem7 | (repeat (first | exact List.mem_cons_self | refine List.mem_cons_of_mem _ ?_ | refine mem_seg ?_))) (by first | exact Msg.get_fVotes (by first | assumption | (simp; done) | exact Block.zero_ok | exact Vote.zero_ok | exact Reader.zero_ok | exact Cut.zero_ok | exact Cert.zero_ok | exact Msg.zero_ok | exact Inbox.zero_ok | exact Record.zero_ok | exact Kept.zero_ok  | exact hW.ok | exact ⟨trivial⟩) | exact (by first | rfl | exact get_words (by first | omega | (simp; done) | (simp; omega)) | exact get_bytes (by first | omega | (simp; done) | (simp; omega)) | exact get_ints (by first | omega | (simp; done) | (simp; omega)))) ?_
  refine Tr.fld rfl rfl rfl Try.underlying49 rfl Sz46 (by decide) _ rfl ?_
  refine Tr.kload1 rfl rfl rfl Try.underlying46 rfl (by first | exact mem0 | exact mem1 | exact mem2 | exact mem3 | exact mem4 | exact mem5 | exact mem6 | exact mem7 | (repeat (first | exact List.mem_cons_self | refine List.mem_cons_of_mem _ ?_ | refine mem_seg ?_))) (by first | exact Msg.get_fCuts (by first | assumption | (simp; done) | exact Block.zero_ok | exact Vote.zero_ok | exact Reader.zero_ok | exact Cut.zero_ok | exact Cert.zero_ok | exact Msg.zero_ok | exact Inbox.zero_ok | exact Record.zero_ok | exact Kept.zero_ok  | exact hW.ok | exact ⟨trivial⟩) | exact (by first | rfl | exact get_words (by first | omega | (simp; done) | (simp; omega)) | exact get_bytes (by first | omega | (simp; done) | (simp; omega)) | exact get_ints (by first | omega | (simp; done) | (simp; omega)))) ?_
  refine Tr.fld rfl rfl rfl Try.underlying49 rfl Sz47 (by decide) _ rfl ?_
  refine Tr.kload1 rfl rfl rfl Try.underlying47 rfl (by first | exact mem0 | exact mem1 | exact mem2 | exact mem3 | exact mem4 | exact mem5 | exact mem6 | exact mem7 | (repeat (first | exact List.mem_cons_self | refine List.mem_cons_of_mem _ ?_ | refine mem_seg ?_))) (by first | exact Msg.get_fCerts (by first | assumption | (simp; done) | exact Block.zero_ok | exact Vote.zero_ok | exact Reader.zero_ok | exact Cut.zero_ok | exact Cert.zero_ok | exact Msg.zero_ok | exact Inbox.zero_ok | exact Record.zero_ok | exact Kept.zero_ok  | exact hW.ok | exact ⟨trivial⟩) | exact (by first | rfl | exact get_words (by first | omega | (simp; done) | (simp; omega)) | exact get_bytes (by first | omega | (simp; done) | (simp; omega)) | exact get_ints (by first | omega | (simp; done) | (simp; omega)))) ?_
  dsimp only
  refine Tr.mkRow2 (z := agg Vote.zero.cells) [] [] rfl rfl Try.underlying45 Sz72 Vote.zr rfl rfl (by intro v hv; cases hv) (by decide) rfl ?_
  intro q15
  refine Tr.appendSl (z := agg Vote.zero.cells) (by' := 160) ((vs.map Vote.cells).flatten) rfl rfl rfl rfl rfl Try.underlying45 Try.underlying45 Sz72 Zr72 (by unfold By; kernel_rfl) rfl (fun w h => seesP_ext h rfl hvs.see) (fun e => by have := hvs.nil e; have := hvs.cap; omega) (votes_cell (seq_votes hvs)) (by repeat (first | exact rem_here | apply rem_there | apply rem_seg)) rfl rfl (by omega) (by omega) (by omega) hvs.flat ?_
  intro q18 c18 hq18
  rw [Nat.zero_add m.fVotes.n]
  refine Tr.fld rfl rfl rfl Try.underlying49 rfl Sz45 (by decide) _ rfl ?_
  refine Tr.call4 rfl rfl rfl rfl rfl Body22 (kit_own_cuts m.fCuts D.dCuts (by omega) hsm.cuts) (fun w h => Cuts_ext h rfl hW.fCuts) ?_
  rintro v21 out21 ⟨sC, bC, bC2, rC, rfl, rfl, hoC⟩
  simp only [List.append_assoc, List.cons_append, List.nil_append]
  refine Tr.call4 rfl rfl rfl rfl rfl Body21 (kit_own_certs m.fCerts D.dCerts (by omega) hsm.certs) (fun w h => Certs_ext h rfl hW.fCerts) ?_
  rintro v24 out24 ⟨sE, bE, bE2, rE, rfl, rfl, hoE⟩
  simp only [List.append_assoc, List.cons_append, List.nil_append]
  refine Tr.nil ?_
  refine Tr.store1 rfl rfl rfl rfl rfl Sz45 (by first | exact mem0 | exact mem1 | exact mem2 | exact mem3 | exact mem4 | exact mem5 | exact mem6 | exact mem7 | (repeat (first | exact List.mem_cons_self | refine List.mem_cons_of_mem _ ?_ | refine mem_seg ?_))) (by rw [Msg.length (by first | assumption | (simp; done) | exact Block.zero_ok | exact Vote.zero_ok | exact Reader.zero_ok | exact Cut.zero_ok | exact Cert.zero_ok | exact Msg.zero_ok | exact Inbox.zero_ok | exact Record.zero_ok | exact Kept.zero_ok  | exact hW.ok | exact ⟨trivial⟩)]; decide) (by first | exact Msg.set_fVotes (by first | assumption | (simp; done) | exact Block.zero_ok | exact Vote.zero_ok | exact Reader.zero_ok | exact Cut.zero_ok | exact Cert.zero_ok | exact Msg.zero_ok | exact Inbox.zero_ok | exact Record.zero_ok | exact Kept.zero_ok  | exact hW.ok | exact ⟨trivial⟩) _ | exact Msg.setS_fVotes (by first | assumption | (simp; done) | exact Block.zero_ok | exact Vote.zero_ok | exact Reader.zero_ok | exact Cut.zero_ok | exact Cert.zero_ok | exact Msg.zero_ok | exact Inbox.zero_ok | exact Record.zero_ok | exact Kept.zero_ok  | exact hW.ok | exact ⟨trivial⟩) _ _ _) (by first | exact upd0 | exact upd1 | exact upd2 | exact upd3 | exact upd4 | exact upd5 | exact upd6 | exact upd7 | (repeat (first | exact upd0 | apply Upd.tail | apply Upd.seg))) ?_
  refine Tr.fld rfl rfl rfl Try.underlying49 rfl Sz46 (by decide) _ rfl ?_
  refine Tr.store1 rfl rfl rfl rfl rfl Sz46 (by first | exact mem0 | exact mem1 | exact mem2 | exact mem3 | exact mem4 | exact mem5 | exact mem6 | exact mem7 | (repeat (first | exact List.mem_cons_self | refine List.mem_cons_of_mem _ ?_ | refine mem_seg ?_))) (by rw [Msg.length (by first | assumption | (simp; done) | exact Block.zero_ok | exact Vote.zero_ok | exact Reader.zero_ok | exact Cut.zero_ok | exact Cert.zero_ok | exact Msg.zero_ok | exact Inbox.zero_ok | exact Record.zero_ok | exact Kept.zero_ok  | exact hW.ok | exact ⟨trivial⟩)]; decide) (by first | exact Msg.set_fCuts (by first | assumption | (simp; done) | exact Block.zero_ok | exact Vote.zero_ok | exact Reader.zero_ok | exact Cut.zero_ok | exact Cert.zero_ok | exact Msg.zero_ok | exact Inbox.zero_ok | exact Record.zero_ok | exact Kept.zero_ok  | exact hW.ok | exact ⟨trivial⟩) _ | exact Msg.setS_fCuts (by first | assumption | (simp; done) | exact Block.zero_ok | exact Vote.zero_ok | exact Reader.zero_ok | exact Cut.zero_ok | exact Cert.zero_ok | exact Msg.zero_ok | exact Inbox.zero_ok | exact Record.zero_ok | exact Kept.zero_ok  | exact hW.ok | exact ⟨trivial⟩) _ _ _) (by first | exact upd0 | exact upd1 | exact upd2 | exact upd3 | exact upd4 | exact upd5 | exact upd6 | exact upd7 | (repeat (first | exact upd0 | apply Upd.tail | apply Upd.seg))) ?_
  refine Tr.fld rfl rfl rfl Try.underlying49 rfl Sz47 (by decide) _ rfl ?_
  refine Tr.store1 rfl rfl rfl rfl rfl Sz47 (by first | exact mem0 | exact mem1 | exact mem2 | exact mem3 | exact mem4 | exact mem5 | exact mem6 | exact mem7 | (repeat (first | exact List.mem_cons_self | refine List.mem_cons_of_mem _ ?_ | refine mem_seg ?_))) (by rw [Msg.length (by first | assumption | (simp; done) | exact Block.zero_ok | exact Vote.zero_ok | exact Reader.zero_ok | exact Cut.zero_ok | exact Cert.zero_ok | exact Msg.zero_ok | exact Inbox.zero_ok | exact Record.zero_ok | exact Kept.zero_ok  | exact hW.ok | exact ⟨trivial⟩)]; decide) (by first | exact Msg.set_fCerts (by first | assumption | (simp; done) | exact Block.zero_ok | exact Vote.zero_ok | exact Reader.zero_ok | exact Cut.zero_ok | exact Cert.zero_ok | exact Msg.zero_ok | exact Inbox.zero_ok | exact Record.zero_ok | exact Kept.zero_ok  | exact hW.ok | exact ⟨trivial⟩) _ | exact Msg.setS_fCerts (by first | assumption | (simp; done) | exact Block.zero_ok | exact Vote.zero_ok | exact Reader.zero_ok | exact Cut.zero_ok | exact Cert.zero_ok | exact Msg.zero_ok | exact Inbox.zero_ok | exact Record.zero_ok | exact Kept.zero_ok  | exact hW.ok | exact ⟨trivial⟩) _ _ _) (by first | exact upd0 | exact upd1 | exact upd2 | exact upd3 | exact upd4 | exact upd5 | exact upd6 | exact upd7 | (repeat (first | exact upd0 | apply Upd.tail | apply Upd.seg))) ?_
  refine Tr.nil ?_
  refine at_n ?_
  refine Sat.seq ?_
  -- region 3
  refine Sat.region ?_
  refine Tr.loadAll rfl rfl rfl Try.underlying49 rfl Sz49 (by first | exact mem0 | exact mem1 | exact mem2 | exact mem3 | exact mem4 | exact mem5 | exact mem6 | exact mem7 | (repeat (first | exact List.mem_cons_self | refine List.mem_cons_of_mem _ ?_ | refine mem_seg ?_))) (Msg.length (by first | assumption | (simp; done) | exact Block.zero_ok | exact Vote.zero_ok | exact Reader.zero_ok | exact Cut.zero_ok | exact Cert.zero_ok | exact Msg.zero_ok | exact Inbox.zero_ok | exact Record.zero_ok | exact Kept.zero_ok  | exact hW.ok | exact ⟨trivial⟩)) ?_
  refine Tr.storeAll rfl rfl rfl rfl (Msg.isCell (by first | assumption | (simp; done) | exact Block.zero_ok | exact Vote.zero_ok | exact Reader.zero_ok | exact Cut.zero_ok | exact Cert.zero_ok | exact Msg.zero_ok | exact Inbox.zero_ok | exact Record.zero_ok | exact Kept.zero_ok  | exact hW.ok | exact ⟨trivial⟩)) Sz49 (Msg.length (by first | assumption | (simp; done) | exact Block.zero_ok | exact Vote.zero_ok | exact Reader.zero_ok | exact Cut.zero_ok | exact Cert.zero_ok | exact Msg.zero_ok | exact Inbox.zero_ok | exact Record.zero_ok | exact Kept.zero_ok  | exact hW.ok | exact ⟨trivial⟩)) (by first | exact mem0 | exact mem1 | exact mem2 | exact mem3 | exact mem4 | exact mem5 | exact mem6 | exact mem7 | (repeat (first | exact List.mem_cons_self | refine List.mem_cons_of_mem _ ?_ | refine mem_seg ?_))) (Msg.length (by first | assumption | (simp; done) | exact Block.zero_ok | exact Vote.zero_ok | exact Reader.zero_ok | exact Cut.zero_ok | exact Cert.zero_ok | exact Msg.zero_ok | exact Inbox.zero_ok | exact Record.zero_ok | exact Kept.zero_ok  | exact hW.ok | exact ⟨trivial⟩)) (by first | exact upd0 | exact upd1 | exact upd2 | exact upd3 | exact upd4 | exact upd5 | exact upd6 | exact upd7 | (repeat (first | exact upd0 | apply Upd.tail | apply Upd.seg))) ?_
  refine Tr.nil ?_
  refine at_n ?_
  refine Sat.ret ?_
  refine en_r ?_
  refine end_perm (out := (⟨q1, flatB D.dHeads, 25, c1 * 32⟩ :: (⟨q2, flatB D.dWant, 25, c2 * 32⟩ :: (bB ++ (bB2 ++ (⟨q18, (vs.map Vote.cells).flatten, 72, c18 * 132⟩ :: (bC ++ (bC2 ++ (bE ++ (bE2 ++ [])))))))))) (res_cell rfl rfl Try.underlying49 rfl Sz49 (by first | exact mem0 | exact mem1 | exact mem2 | exact mem3 | exact mem4 | exact mem5 | exact mem6 | exact mem7 | (repeat (first | exact List.mem_cons_self | refine List.mem_cons_of_mem _ ?_ | refine mem_seg ?_))) (by first | (simp; done) | exact Msg.length (by first | assumption | (simp; done) | exact Block.zero_ok | exact Vote.zero_ok | exact Reader.zero_ok | exact Cut.zero_ok | exact Cert.zero_ok | exact Msg.zero_ok | exact Inbox.zero_ok | exact Record.zero_ok | exact Kept.zero_ok  | exact hW.ok | exact ⟨trivial⟩))) (pm_cons (by repeat (first | exact rem_here | apply rem_there | apply rem_seg)) (pm_cons (by repeat (first | exact rem_here | apply rem_there | apply rem_seg)) (pm_seg (by repeat (first | exact sg_here | exact sg_end | apply sg_there | apply sg_seg)) (pm_seg (by repeat (first | exact sg_here | exact sg_end | apply sg_there | apply sg_seg)) (pm_cons (by repeat (first | exact rem_here | apply rem_there | apply rem_seg)) (pm_seg (by repeat (first | exact sg_here | exact sg_end | apply sg_there | apply sg_seg)) (pm_seg (by repeat (first | exact sg_here | exact sg_end | apply sg_there | apply sg_seg)) (pm_seg (by repeat (first | exact sg_here | exact sg_end | apply sg_there | apply sg_seg)) (pm_seg (by repeat (first | exact sg_here | exact sg_end | apply sg_there | apply sg_seg)) pm_nil))))))))) ?_
  refine ⟨({ m with fHeads := ⟨some ⟨q1, 0, none⟩, m.fHeads.n, c1⟩, fWant := ⟨some ⟨q2, 0, none⟩, m.fWant.n, c2⟩, fBlocks := sB, fVotes := ⟨some ⟨q18, 0, none⟩, m.fVotes.n, c18⟩, fCuts := sC, fCerts := sE } : Msg), ⟨trivial⟩, rfl, fun W2 hl => ⟨⟨trivial⟩, hW.fKind, hW.wKind, hW.fHeight, acc_rows (Acc.some (E := 25) hq1 (by rw [flatB_length hW.fHeads.row, hW.fHeads.len])) (hl.sub (by intro b hb; rw [List.mem_singleton.1 hb]; repeat (first | exact List.mem_cons_self | refine List.mem_cons_of_mem _ ?_ | refine mem_seg ?_))) hW.fHeads.row hW.fHeads.len (by omega), acc_rows (Acc.some (E := 25) hq2 (by rw [flatB_length hW.fWant.row, hW.fWant.len])) (hl.sub (by intro b hb; rw [List.mem_singleton.1 hb]; repeat (first | exact List.mem_cons_self | refine List.mem_cons_of_mem _ ?_ | refine mem_seg ?_))) hW.fWant.row hW.fWant.len (by omega), ⟨_, hoB.seq (hl.sub (by repeat (first | exact in_here | exact in_all | refine in_there ?_ | refine in_seg ?_))) (hl.sub (by repeat (first | exact in_here | exact in_all | refine in_there ?_ | refine in_seg ?_))) (by omega)⟩, ⟨vs, ?_⟩, ⟨_, hoC.seq (hl.sub (by repeat (first | exact in_here | exact in_all | refine in_there ?_ | refine in_seg ?_))) (hl.sub (by repeat (first | exact in_here | exact in_all | refine in_there ?_ | refine in_seg ?_))) (by omega)⟩, ⟨_, hoE.seq (hl.sub (by repeat (first | exact in_here | exact in_all | refine in_there ?_ | refine in_seg ?_))) (hl.sub (by repeat (first | exact in_here | exact in_all | refine in_there ?_ | refine in_seg ?_))) (by omega)⟩⟩⟩
  exact acc_seq (Acc.some (E := 72) (show m.fVotes.n ≤ c18 by omega) hvs.flat) (hl.sub (by intro b hb; rw [List.mem_singleton.1 hb]; repeat (first | exact List.mem_cons_self | refine List.mem_cons_of_mem _ ?_ | refine mem_seg ?_))) hvs.nr hvs.nd hvs.len (by omega) fun i r d hr hd => (by
    have := hvs.is i r d hr hd
    exact ⟨this.ok, this.eq, this.wf⟩)

end Go.Proofs.Ytejjamifnombhaa
end

section
namespace Go.Proofs.Ytejjamifnombhaa
open Go Hw
set_option linter.unusedVariables false
set_option linter.unusedSimpArgs false

set_option maxRecDepth 100000 in
set_option maxHeartbeats 1000000 in
theorem put_digest (q n c : Nat) (l d : List UInt8) (hl : l.length = n) (hd : d.length = 32) (hnc : n ≤ c) (hn : n ≤ 100000) : Meets Try.prog 97 [.slice (some ⟨q, 0, none⟩) n c, agg (bytesV d)] [q] (fun W => BlkOk W ⟨q, bytesV (l), 5, c * 1⟩) (fun v out => FreshRow v out (bytesV (l ++ d)) 5 (n + 32) 1) := by
  intro W hW
  refine calls_of (hp0 := [⟨q, bytesV (l), 5, c * 1⟩]) Try.func97 rfl 8 Try.ntmps97 rfl (HRep.one hW) ?_
  refine Sat.seq ?_
  -- region 0
  refine Sat.region ?_
  refine Tr.boxA rfl rfl ?_
  intro n3 hn3 hf3
  refine Tr.assign rfl rfl rfl ?_
  refine Tr.nil ?_
  refine at_n ?_
  refine Sat.seq ?_
  -- region 1
  refine Sat.region ?_
  refine Tr.move rfl rfl rfl ?_
  refine Tr.sliceArr rfl rfl rfl Try.underlying25 Sz5 ?_
  refine Tr.appendSl (z := u8 0) (by' := 1) (bytesV d) rfl rfl rfl rfl rfl Try.underlying27 Try.underlying27 Sz5 Zr5 (by unfold By; kernel_rfl) rfl (fun w h => SeesP.of (sees_own h (by first | exact mem0 | exact mem1 | exact mem2 | exact mem3 | exact mem4 | exact mem5 | exact mem6 | exact mem7 | (repeat (first | exact List.mem_cons_self | refine List.mem_cons_of_mem _ ?_ | refine mem_seg ?_))))) (fun e => by cases e) (bytesV_cell _) (by repeat (first | exact rem_here | apply rem_there | apply rem_seg)) rfl (by rw [bytesV, List.length_map, hl, Nat.mul_one]) hnc (by omega) (by omega) (by rw [bytesV, List.length_map, hd]) ?_
  intro q1 c1 hq1
  refine Tr.assign rfl rfl rfl ?_
  refine Tr.nil ?_
  refine at_n ?_
  refine Sat.ret ?_
  refine en_r ?_
  refine ⟨_, [⟨q1, bytesV (l ++ d), 5, c1 * 1⟩], res_tmp rfl rfl, (by intro b hb; rw [List.mem_singleton.1 hb]; simp only [bytesV, List.map_append]; exact mem0), nodup1, ⟨q1, c1, rfl, hq1, rfl⟩⟩

set_option maxRecDepth 100000 in
set_option maxHeartbeats 4000000 in
theorem put_digests (a : Option Addr) (n c : Nat) (l : List UInt8) (s : Sl) (ls : List (List UInt8)) (hl : l.length = n) (hp : a = none → n = 0) (hn : n ≤ 50000) (hs : s.n ≤ 1000) : Meets Try.prog 96 [.slice a n c, s.v, .func (.func 97) #[] #[]] [] (fun W => SeesP W a (bytesV l) ∧ RowsAt W s 32 ls) (fun v out => FreshRow v out (bytesV (l ++ numB (UInt64.ofNat s.n) ++ ls.flatten)) 5 (n + szN s.n + s.n * 32) 1) := by
  intro W hW
  have hz := szN_pos s.n
  have hon := ofNat_nat (n := s.n) (by omega)
  have hll := hW.2.len
  refine calls_of (hp0 := []) Try.func96 rfl 26 Try.ntmps96 rfl (HRep.nil _) ?_
  refine Sat.seq ?_
  -- region 0
  refine Sat.region ?_
  refine Tr.assign rfl rfl rfl ?_
  refine Tr.nil ?_
  refine at_n ?_
  refine Sat.seq ?_
  -- region 1
  refine Sat.region ?_
  refine Tr.move rfl rfl rfl ?_
  refine Tr.move rfl rfl rfl ?_
  refine Tr.lenSl rfl rfl rfl Try.underlying26 ?_
  refine Tr.conv rfl rfl rfl Try.underlying3 Try.underlying24 (cv_i64_u64 _) ?_
  rw [word_nat (n := s.n) (by omega)]
  refine Tr.call4 rfl rfl rfl rfl rfl Body90 (oct_Number a n c l (UInt64.ofNat s.n) hl hp (by omega)) (fun w h => seesP_ext h rfl hW.1) ?_
  rintro v13 out13 ⟨q1, c1, rfl, hc1, rfl⟩
  rw [hon] at hc1 ⊢
  refine Tr.assign rfl rfl rfl ?_
  refine Tr.nil ?_
  refine at_n ?_
  refine Sat.seq ?_
  refine Sat.seq ?_
  -- region 2
  refine Sat.region ?_
  refine Tr.move rfl rfl rfl ?_
  refine Tr.lenSl rfl rfl rfl Try.underlying26 ?_
  refine Tr.move rfl rfl rfl ?_
  refine Tr.nil ?_
  refine at_n ?_
  refine Sat.block ?_
  refine Sat.loop (ι := Nat × Nat × Nat) (fun p => ⟨[(0, .slice (some ⟨p.2.1, 0, none⟩) (n + szN s.n + p.1 * 32) p.2.2), (2, .func (.func 97) #[] #[]), (14, s.v), (15, i64 (s.n : Int)), (16, i64 (p.1 : Int))], [⟨p.2.1, bytesV (l ++ numB (UInt64.ofNat s.n) ++ (ls.take p.1).flatten), 5, p.2.2 * 1⟩]⟩) (fun p => p.1 ≤ s.n ∧ n + szN s.n + p.1 * 32 ≤ p.2.2) (fun p => s.n - p.1) ((0, q1, c1)) ?_ ?_ ?_
  · exact ⟨Nat.zero_le _, by simp only []; omega⟩
  · exact weak_of (wk1 (by simp only [Nat.zero_mul, Nat.add_zero]; rfl) (wk1 rfl (wk1 rfl (wk1 rfl (wk1 rfl wk0))))) (wh1 (by simp only [List.take_zero, List.flatten_nil, List.append_nil]; exact mem0) wh0) (by repeat (first | exact ns_nil | refine ns_keep rfl ?_ | refine ns_skip ?_))
  ·
    rintro p ⟨hp1, hp2⟩
    refine Sat.seq ?_
    -- region 3
    refine Sat.region ?_
    refine Tr.lss rfl rfl rfl rfl rfl ?_
    refine Tr.nil ?_
    refine at_n ?_
    refine Sat.seq ?_
    first
      | refine Sat.condP rfl (fun hc0 => ?_) (fun hc0 => ?_)
      | refine Sat.condNP rfl (fun hc0 => ?_) (fun hc0 => ?_)
      | refine Sat.cond rfl (fun hc0 => ?_) (fun hc0 => ?_)
    ·
      have hk2 : p.1 < s.n := by omega
      obtain ⟨b, o, hbp, hbs⟩ := hW.2.see.at (by rw [flatB_length hW.2.row]; omega)
      have hr0 : (ls.getD p.1 []).length = 32 := getD_len hW.2.row (by omega)
      refine Sat.skip ?_
      refine at_n ?_
      refine Sat.seq ?_
      refine Sat.block ?_
      refine Sat.seq ?_
      -- region 4
      refine Sat.region ?_
      refine Tr.idxSlP 32 rfl rfl rfl hbp rfl Try.underlying26 Sz25 p.1 rfl (by omega) ?_
      refine Tr.loadEN (bytesV (ls.getD (p.1) [])) rfl rfl rfl Try.underlying25 rfl Sz25 (by simp) (by rw [bytesV, List.length_map]; exact getD_len hW.2.row (by omega)) (sees_row hW.2.row hbs (by omega)) ?_
      refine Tr.alloc (cs := (bytesV (List.replicate 32 0))) rfl Zr25 rfl ?_
      intro n8 hn8 hf8
      first
        | refine Tr.storeAll rfl rfl rfl rfl (by first | exact bytesV_cell _ | simp [isCell]) Sz25 (by first | assumption | (simp [hr0]; done) | (rw [bytesV, List.length_map]; assumption)) (by first | exact mem0 | exact mem1 | exact mem2 | exact mem3 | exact mem4 | exact mem5 | exact mem6 | exact mem7 | (repeat (first | exact List.mem_cons_self | refine List.mem_cons_of_mem _ ?_ | refine mem_seg ?_))) (by first | assumption | (simp [hr0]; done) | (rw [bytesV, List.length_map]; assumption)) (by first | exact upd0 | exact upd1 | exact upd2 | exact upd3 | exact upd4 | exact upd5 | exact upd6 | exact upd7 | (repeat (first | exact upd0 | apply Upd.tail | apply Upd.seg))) ?_
        | refine Tr.storeN _ rfl rfl rfl rfl rfl (by first | exact bytesV_cell _ | simp [isCell]) Sz25 (by first | assumption | (simp [hr0]; done) | (rw [bytesV, List.length_map]; assumption)) (by first | exact mem0 | exact mem1 | exact mem2 | exact mem3 | exact mem4 | exact mem5 | exact mem6 | exact mem7 | (repeat (first | exact List.mem_cons_self | refine List.mem_cons_of_mem _ ?_ | refine mem_seg ?_))) (by first | assumption | (simp [hr0]; done) | (rw [bytesV, List.length_map]; assumption)) (by exact rfl) (by first | exact upd0 | exact upd1 | exact upd2 | exact upd3 | exact upd4 | exact upd5 | exact upd6 | exact upd7 | (repeat (first | exact upd0 | apply Upd.tail | apply Upd.seg))) ?_
      refine Tr.nil ?_
      refine at_n ?_
      -- region 5
      refine Sat.region ?_
      refine Tr.move rfl rfl rfl ?_
      refine Tr.move rfl rfl rfl ?_
      first
        | refine Tr.loadAll rfl rfl rfl Try.underlying25 rfl Sz25 (by first | exact mem0 | exact mem1 | exact mem2 | exact mem3 | exact mem4 | exact mem5 | exact mem6 | exact mem7 | (repeat (first | exact List.mem_cons_self | refine List.mem_cons_of_mem _ ?_ | refine mem_seg ?_))) (by first | assumption | (simp [hr0]; done) | (rw [bytesV, List.length_map]; assumption)) ?_
        | refine Tr.loadN _ rfl rfl rfl Try.underlying25 rfl Sz25 (by first | exact mem0 | exact mem1 | exact mem2 | exact mem3 | exact mem4 | exact mem5 | exact mem6 | exact mem7 | (repeat (first | exact List.mem_cons_self | refine List.mem_cons_of_mem _ ?_ | refine mem_seg ?_))) (by exact rfl) (by first | assumption | (simp [hr0]; done) | (rw [bytesV, List.length_map]; assumption)) ?_
      refine Tr.callL (L := [⟨p.2.1, bytesV (l ++ numB (UInt64.ofNat s.n) ++ (ls.take p.1).flatten), 5, p.2.2 * 1⟩]) rfl rfl rfl rfl rfl Body97 (put_digest p.2.1 (n + szN s.n + p.1 * 32) p.2.2 (l ++ numB (UInt64.ofNat s.n) ++ (ls.take p.1).flatten) (ls.getD p.1 []) (by simp only [List.length_append, numB_length, hon, hl, flatten_take_len hW.2.row (show p.1 ≤ ls.length by omega)]) hr0 hp2 (by omega)) (by repeat (first | exact rem_here | apply rem_there | apply rem_seg)) (by intro m hm; exact ⟨_, List.mem_singleton.2 rfl, (List.mem_singleton.1 hm).symm⟩) (fun w h => own_blk h (by first | exact mem0 | exact mem1 | exact mem2 | exact mem3 | exact mem4 | exact mem5 | exact mem6 | exact mem7 | (repeat (first | exact List.mem_cons_self | refine List.mem_cons_of_mem _ ?_ | refine mem_seg ?_)))) ?_
      rintro v23 out23 ⟨q2, c2, rfl, hq2, rfl⟩
      refine Tr.assign rfl rfl rfl ?_
      refine Tr.nil ?_
      refine bl_n ?_
      refine at_n ?_
      -- region 6
      refine Sat.region ?_
      refine Tr.add_i64 rfl rfl rfl rfl (by omega) ?_
      refine Tr.move rfl rfl rfl ?_
      refine Tr.nil ?_
      refine at_n ?_
      exact ⟨(p.1 + 1, q2, c2), ⟨by simp only []; omega, by simp only []; omega⟩, by simp only []; omega, weak_of (wk1 (by rw [show n + szN s.n + (p.1 + 1) * 32 = n + szN s.n + p.1 * 32 + 32 by omega]; rfl) (wk1 rfl (wk1 rfl (wk1 rfl (wk1 rfl wk0))))) (wh1 (by rw [flatten_take_step (show p.1 < ls.length by omega), ← List.append_assoc]; exact mem0) wh0) (by repeat (first | exact ns_nil | refine ns_keep rfl ?_ | refine ns_skip ?_))⟩
    ·
      have hpe : p.1 = s.n := by omega
      refine Sat.exit ?_
      refine at_x ?_
      refine at_x ?_
      refine bl_h ?_
      refine at_n ?_
      refine Sat.seq ?_
      -- region 7
      refine Sat.region ?_
      refine Tr.move rfl rfl rfl ?_
      refine Tr.assign rfl rfl rfl ?_
      refine Tr.nil ?_
      refine at_n ?_
      refine Sat.ret ?_
      refine en_r ?_
      refine ⟨_, [⟨p.2.1, bytesV (l ++ numB (UInt64.ofNat s.n) ++ ls.flatten), 5, p.2.2 * 1⟩], res_tmp rfl rfl, (by intro b hb; rw [List.mem_singleton.1 hb, show ls.flatten = (ls.take p.1).flatten by rw [List.take_of_length_le (by omega)]]; exact mem0), nodup1, ⟨p.2.1, p.2.2, by rw [hpe], by omega, rfl⟩⟩


def mz (k : Int) (h : UInt64) : Msg := ⟨k, h, Sl.nil, Sl.nil, Sl.nil, Sl.nil, Sl.nil, Sl.nil⟩
def dz (k : Int) (h : UInt64) : DMsg := ⟨k, h, [], [], [], [], [], []⟩
theorem rows_none {W : World} {m : Nat} : RowsAt W Sl.nil m [] := ⟨rfl, fun l h => (by cases h), Nat.le_refl _, SeesP.nil, by decide, fun _ => rfl⟩
theorem mz_is {W : World} (k : Int) (h : UInt64) (hk : (Lit.int .i64 k).wf = true) : MsgIs W (mz k h) (dz k h) :=
  ⟨⟨trivial⟩, rfl, hk, rfl, rows_none, rows_none, ⟨[], SeqIs.none⟩, ⟨[], SeqIs.none⟩, ⟨[], SeqIs.none⟩, ⟨[], SeqIs.none⟩⟩
theorem mz_hello : (dz 1 3).check = 0 := msg_good (by unfold DMsg.bad; decide)
theorem mz_blocks : (dz 3 0).check = 2 := msg_bad (by unfold DMsg.bad; decide)
/-- the bytes of a message of kind 1 -/
def helloB (D : DMsg) : List UInt8 := [1] ++ numB D.dHeight ++ numB (UInt64.ofNat D.dHeads.length) ++ D.dHeads.flatten
theorem hello_ex : helloB (dz 1 3) = [1, 3, 0] := by kernel_rfl


set_option maxRecDepth 100000 in
set_option maxHeartbeats 4000000 in
theorem bytes_hello (m : Msg) (D : DMsg) (hk : D.dKind = 1) (hc : D.check = 0) (hh : D.dHeads.length ≤ 40) : Meets Try.prog 49 [agg m.cells] [] (fun W => MsgIs W m D) (fun v out => ∃ q c, v = .tuple #[.slice (some ⟨q, 0, none⟩) (helloB D).length c, i64 0] ∧ (helloB D).length ≤ c ∧ out = [⟨q, bytesV (helloB D), 5, c * 1⟩]) := by
  intro W hW
  have hok := hW.ok
  have hkm : m.fKind = 1 := hW.fKind.trans hk
  have hpk : partsI m.fKind = 3 := by rw [hkm]; rfl
  have hhl := hW.fHeads.len
  have hz1 := szN_pos m.fHeight.toNat
  have hz2 := szN_pos m.fHeads.n
  have hbk : Hw.byteOf m.fKind = 1 := by rw [hkm]; rfl
  refine calls_of (hp0 := []) Try.func49 rfl 73 Try.ntmps49 rfl (HRep.nil _) ?_
  refine Sat.seq ?_
  -- region 0
  refine Sat.region ?_
  refine Tr.boxA rfl rfl ?_
  intro n1 hn1 hf1
  refine Tr.assign rfl rfl rfl ?_
  refine Tr.assign rfl rfl rfl ?_
  refine Tr.nil ?_
  refine at_n ?_
  refine Sat.seq ?_
  refine Sat.seq ?_
  -- region 1
  refine Sat.region ?_
  refine Tr.loadAll rfl rfl rfl Try.underlying49 rfl Sz49 (by first | exact mem0 | exact mem1 | exact mem2 | exact mem3 | exact mem4 | exact mem5 | exact mem6 | exact mem7 | (repeat (first | exact List.mem_cons_self | refine List.mem_cons_of_mem _ ?_ | refine mem_seg ?_))) (Msg.length (by first | assumption | (simp; done) | exact Block.zero_ok | exact Vote.zero_ok | exact Reader.zero_ok | exact Cut.zero_ok | exact Cert.zero_ok | exact Msg.zero_ok | exact Inbox.zero_ok | exact Record.zero_ok | exact Kept.zero_ok  | exact hok)) ?_
  refine Tr.callV rfl rfl rfl rfl Body18 (msg_check m D) (fun w h => hW.ext h rfl) ?_
  refine Tr.assign rfl rfl rfl ?_
  refine Tr.nil ?_
  refine at_n ?_
  refine Sat.seq ?_
  -- region 2
  refine Sat.region ?_
  refine Tr.move rfl rfl rfl ?_
  refine Tr.nei rfl rfl rfl rfl (show (!decide _) = false from congrArg not (decide_eq_true (hc))) ?_
  refine Tr.nil ?_
  refine at_n ?_
  refine Sat.cond_f rfl (rfl) ?_
  refine Sat.skip ?_
  refine at_n ?_
  refine Sat.seq ?_
  -- region 4
  refine Sat.region ?_
  refine Tr.fld rfl rfl rfl Try.underlying49 rfl Sz3 (by decide) _ rfl ?_
  refine Tr.load1 rfl rfl rfl Try.underlying3 rfl (by first | exact mem0 | exact mem1 | exact mem2 | exact mem3 | exact mem4 | exact mem5 | exact mem6 | exact mem7 | (repeat (first | exact List.mem_cons_self | refine List.mem_cons_of_mem _ ?_ | refine mem_seg ?_))) (by first | exact Msg.get_fKind (by first | assumption | (simp; done) | exact Block.zero_ok | exact Vote.zero_ok | exact Reader.zero_ok | exact Cut.zero_ok | exact Cert.zero_ok | exact Msg.zero_ok | exact Inbox.zero_ok | exact Record.zero_ok | exact Kept.zero_ok  | exact hok) | exact (by first | rfl | exact get_words (by first | omega | (simp; done) | (simp; omega)) | exact get_bytes (by first | omega | (simp; done) | (simp; omega)) | exact get_ints (by first | omega | (simp; done) | (simp; omega)))) ?_
  refine Tr.callV rfl rfl rfl rfl Body50 ((show Meets _ _ _ _ _ (fun v out => v = i64 3 ∧ out = []) from by have h := sync_parts m.fKind; rwa [hpk] at h)) (fun _ _ => trivial) ?_
  refine Tr.assign rfl rfl rfl ?_
  refine Tr.nil ?_
  refine at_n ?_
  refine Sat.seq ?_
  -- region 5
  refine Sat.region ?_
  refine Tr.fld rfl rfl rfl Try.underlying49 rfl Sz3 (by decide) _ rfl ?_
  refine Tr.load1 rfl rfl rfl Try.underlying3 rfl (by first | exact mem0 | exact mem1 | exact mem2 | exact mem3 | exact mem4 | exact mem5 | exact mem6 | exact mem7 | (repeat (first | exact List.mem_cons_self | refine List.mem_cons_of_mem _ ?_ | refine mem_seg ?_))) (by first | exact Msg.get_fKind (by first | assumption | (simp; done) | exact Block.zero_ok | exact Vote.zero_ok | exact Reader.zero_ok | exact Cut.zero_ok | exact Cert.zero_ok | exact Msg.zero_ok | exact Inbox.zero_ok | exact Record.zero_ok | exact Kept.zero_ok  | exact hok) | exact (by first | rfl | exact get_words (by first | omega | (simp; done) | (simp; omega)) | exact get_bytes (by first | omega | (simp; done) | (simp; omega)) | exact get_ints (by first | omega | (simp; done) | (simp; omega)))) ?_
  refine Tr.conv rfl rfl rfl Try.underlying3 Try.underlying5 (cv_i64_u8 _) ?_
  rw [hbk]
  refine Tr.mkRow (z := u8 0) [u8 1] (bytesV [1]) rfl rfl rfl Try.underlying27 Sz5 Zr5 rfl rfl (by intro v hv; rw [List.mem_singleton.1 hv]; rfl) (by decide) rfl ?_
  intro q18
  refine Tr.assign rfl rfl rfl ?_
  refine Tr.nil ?_
  refine at_n ?_
  refine Sat.seq ?_
  refine Sat.seq ?_
  -- region 6
  refine Sat.region ?_
  refine Tr.move rfl rfl rfl ?_
  refine Tr.and_i64 rfl rfl rfl rfl ?_
  refine Tr.nei rfl rfl rfl rfl (show (!decide _) = true from congrArg not (decide_eq_false (by decide))) ?_
  refine Tr.nil ?_
  refine at_n ?_
  refine Sat.cond_t rfl (rfl) ?_
  -- region 7
  refine Sat.region ?_
  refine Tr.move rfl rfl rfl ?_
  refine Tr.fld rfl rfl rfl Try.underlying49 rfl Sz24 (by decide) _ rfl ?_
  refine Tr.load1 rfl rfl rfl Try.underlying24 rfl (by first | exact mem0 | exact mem1 | exact mem2 | exact mem3 | exact mem4 | exact mem5 | exact mem6 | exact mem7 | (repeat (first | exact List.mem_cons_self | refine List.mem_cons_of_mem _ ?_ | refine mem_seg ?_))) (by first | exact Msg.get_fHeight (by first | assumption | (simp; done) | exact Block.zero_ok | exact Vote.zero_ok | exact Reader.zero_ok | exact Cut.zero_ok | exact Cert.zero_ok | exact Msg.zero_ok | exact Inbox.zero_ok | exact Record.zero_ok | exact Kept.zero_ok  | exact hok) | exact (by first | rfl | exact get_words (by first | omega | (simp; done) | (simp; omega)) | exact get_bytes (by first | omega | (simp; done) | (simp; omega)) | exact get_ints (by first | omega | (simp; done) | (simp; omega)))) ?_
  refine Tr.call4 rfl rfl rfl rfl rfl Body90 (oct_Number (some ⟨q18, 0, none⟩) 1 1 [1] m.fHeight rfl (fun e => by cases e) (by decide)) (fun w h => SeesP.of (sees_own h (by first | exact mem0 | exact mem1 | exact mem2 | exact mem3 | exact mem4 | exact mem5 | exact mem6 | exact mem7 | (repeat (first | exact List.mem_cons_self | refine List.mem_cons_of_mem _ ?_ | refine mem_seg ?_))))) ?_
  rintro v25 out25 ⟨q25, c25, rfl, hc25, rfl⟩
  refine Tr.assign rfl rfl rfl ?_
  refine Tr.nil ?_
  refine at_n ?_
  refine Sat.seq ?_
  refine Sat.seq ?_
  -- region 8
  refine Sat.region ?_
  refine Tr.move rfl rfl rfl ?_
  refine Tr.and_i64 rfl rfl rfl rfl ?_
  refine Tr.nei rfl rfl rfl rfl (show (!decide _) = true from congrArg not (decide_eq_false (by decide))) ?_
  refine Tr.nil ?_
  refine at_n ?_
  refine Sat.cond_t rfl (rfl) ?_
  -- region 9
  refine Sat.region ?_
  refine Tr.move rfl rfl rfl ?_
  refine Tr.fld rfl rfl rfl Try.underlying49 rfl Sz26 (by decide) _ rfl ?_
  refine Tr.load1 rfl rfl rfl Try.underlying26 rfl (by first | exact mem0 | exact mem1 | exact mem2 | exact mem3 | exact mem4 | exact mem5 | exact mem6 | exact mem7 | (repeat (first | exact List.mem_cons_self | refine List.mem_cons_of_mem _ ?_ | refine mem_seg ?_))) (by first | exact Msg.get_fHeads (by first | assumption | (simp; done) | exact Block.zero_ok | exact Vote.zero_ok | exact Reader.zero_ok | exact Cut.zero_ok | exact Cert.zero_ok | exact Msg.zero_ok | exact Inbox.zero_ok | exact Record.zero_ok | exact Kept.zero_ok  | exact hok) | exact (by first | rfl | exact get_words (by first | omega | (simp; done) | (simp; omega)) | exact get_bytes (by first | omega | (simp; done) | (simp; omega)) | exact get_ints (by first | omega | (simp; done) | (simp; omega)))) ?_
  refine Tr.call4 rfl rfl rfl rfl rfl Body96 (put_digests (some ⟨q25, 0, none⟩) (1 + szN m.fHeight.toNat) c25 ([1] ++ numB m.fHeight) m.fHeads D.dHeads (by simp [numB_length]; omega) (fun e => by cases e) (by omega) (by omega)) (fun w h => ⟨SeesP.of (sees_own h (by first | exact mem0 | exact mem1 | exact mem2 | exact mem3 | exact mem4 | exact mem5 | exact mem6 | exact mem7 | (repeat (first | exact List.mem_cons_self | refine List.mem_cons_of_mem _ ?_ | refine mem_seg ?_)))), rows_ext h rfl hW.fHeads⟩) ?_
  rintro v32 out32 ⟨q32, c32, rfl, hc32, rfl⟩
  refine Tr.assign rfl rfl rfl ?_
  refine Tr.nil ?_
  refine at_n ?_
  refine Sat.seq ?_
  refine Sat.seq ?_
  -- region 10
  refine Sat.region ?_
  refine Tr.move rfl rfl rfl ?_
  refine Tr.and_i64 rfl rfl rfl rfl ?_
  refine Tr.nei rfl rfl rfl rfl (show (!decide _) = false from congrArg not (decide_eq_true (by decide))) ?_
  refine Tr.nil ?_
  refine at_n ?_
  refine Sat.cond_f rfl (rfl) ?_
  refine Sat.skip ?_
  refine at_n ?_
  refine Sat.seq ?_
  refine Sat.seq ?_
  -- region 12
  refine Sat.region ?_
  refine Tr.move rfl rfl rfl ?_
  refine Tr.and_i64 rfl rfl rfl rfl ?_
  refine Tr.nei rfl rfl rfl rfl (show (!decide _) = false from congrArg not (decide_eq_true (by decide))) ?_
  refine Tr.nil ?_
  refine at_n ?_
  refine Sat.cond_f rfl (rfl) ?_
  refine Sat.skip ?_
  refine at_n ?_
  refine Sat.seq ?_
  refine Sat.seq ?_
  -- region 14
  refine Sat.region ?_
  refine Tr.move rfl rfl rfl ?_
  refine Tr.and_i64 rfl rfl rfl rfl ?_
  refine Tr.nei rfl rfl rfl rfl (show (!decide _) = false from congrArg not (decide_eq_true (by decide))) ?_
  refine Tr.nil ?_
  refine at_n ?_
  refine Sat.cond_f rfl (rfl) ?_
  refine Sat.skip ?_
  refine at_n ?_
  refine Sat.seq ?_
  refine Sat.seq ?_
  -- region 16
  refine Sat.region ?_
  refine Tr.move rfl rfl rfl ?_
  refine Tr.and_i64 rfl rfl rfl rfl ?_
  refine Tr.nei rfl rfl rfl rfl (show (!decide _) = false from congrArg not (decide_eq_true (by decide))) ?_
  refine Tr.nil ?_
  refine at_n ?_
  refine Sat.cond_f rfl (rfl) ?_
  refine Sat.skip ?_
  refine at_n ?_
  refine Sat.seq ?_
  refine Sat.seq ?_
  -- region 18
  refine Sat.region ?_
  refine Tr.move rfl rfl rfl ?_
  refine Tr.and_i64 rfl rfl rfl rfl ?_
  refine Tr.nei rfl rfl rfl rfl (show (!decide _) = false from congrArg not (decide_eq_true (by decide))) ?_
  refine Tr.nil ?_
  refine at_n ?_
  refine Sat.cond_f rfl (rfl) ?_
  refine Sat.skip ?_
  refine at_n ?_
  refine Sat.seq ?_
  -- region 20
  refine Sat.region ?_
  refine Tr.move rfl rfl rfl ?_
  refine Tr.assign rfl rfl rfl ?_
  refine Tr.assign rfl rfl rfl ?_
  refine Tr.nil ?_
  refine at_n ?_
  refine Sat.ret ?_
  refine en_r ?_
  have hN : (helloB D).length = 1 + szN m.fHeight.toNat + szN m.fHeads.n + m.fHeads.n * 32 := by
    have hfl := flatten_take_len hW.fHeads.row (Nat.le_refl D.dHeads.length)
    rw [List.take_length] at hfl
    simp only [helloB, List.length_append, numB_length, hfl, ← hW.fHeight, hhl, ofNat_nat (n := m.fHeads.n) (by omega), List.length_cons, List.length_nil]
  have hE : [1] ++ numB m.fHeight ++ numB (UInt64.ofNat m.fHeads.n) ++ D.dHeads.flatten = helloB D := by rw [helloB, hW.fHeight, hhl]
  refine ⟨_, [⟨q32, bytesV (helloB D), 5, c32 * 1⟩], res_tmp2 rfl rfl rfl, (by intro b hb; rw [List.mem_singleton.1 hb, ← hE]; exact mem0), nodup1, ⟨q32, c32, by rw [hN], by rw [hN]; exact hc32, rfl⟩⟩

set_option maxRecDepth 100000 in
set_option maxHeartbeats 4000000 in
theorem law25_lives  : Meets Try.prog 16 [] [] (fun _ => True) (fun v out => v = .bool true ∧ out = []) := by
  intro W hW
  refine calls_of (hp0 := []) Try.func16 rfl 20 Try.ntmps16 rfl (HRep.nil _) ?_
  refine Sat.seq ?_
  -- region 0
  refine Sat.region ?_
  refine Tr.assign rfl rfl rfl ?_
  refine Tr.nil ?_
  refine at_n ?_
  refine Sat.seq ?_
  -- region 1
  refine Sat.region ?_
  refine Tr.build (cs := (mz 1 3).cells) rfl rfl rfl (fun w => by kernel_rfl) ?_
  refine Tr.call4 rfl rfl rfl rfl rfl Body49 (bytes_hello (mz 1 3) (dz 1 3) rfl mz_hello (by decide)) (fun w h => mz_is 1 3 rfl) ?_
  rintro v5 out5 ⟨q5, c5, rfl, hc5, rfl⟩
  refine Tr.move rfl rfl rfl ?_
  refine Tr.extract rfl rfl rfl rfl ?_
  refine Tr.extract rfl rfl rfl rfl ?_
  refine Tr.assign rfl rfl rfl ?_
  refine Tr.assign rfl rfl rfl ?_
  refine Tr.nil ?_
  refine at_n ?_
  refine Sat.seq ?_
  -- region 2
  refine Sat.region ?_
  refine Tr.move rfl rfl rfl ?_
  refine Tr.eqi rfl rfl rfl rfl (decide_eq_true (rfl)) ?_
  refine Tr.move rfl rfl rfl ?_
  refine Tr.move rfl rfl rfl ?_
  refine Tr.toStr rfl rfl rfl Try.underlying27 Try.underlying5 Try.underlying9 (fun w h => SeesP.of (sees_own h (by first | exact mem0 | exact mem1 | exact mem2 | exact mem3 | exact mem4 | exact mem5 | exact mem6 | exact mem7 | (repeat (first | exact List.mem_cons_self | refine List.mem_cons_of_mem _ ?_ | refine mem_seg ?_))))) rfl ?_
  refine Tr.eql_str rfl rfl rfl rfl (decide_eq_true (hello_ex)) ?_
  refine Tr.pick rfl rfl rfl rfl rfl rfl ?_
  refine Tr.move rfl rfl rfl ?_
  refine Tr.build (cs := (mz 3 0).cells) rfl rfl rfl (fun w => by kernel_rfl) ?_
  refine Tr.callV rfl rfl rfl rfl Body18 (msg_check (mz 3 0) (dz 3 0)) (fun w h => mz_is 3 0 rfl) ?_
  refine Tr.eqi rfl rfl rfl rfl (decide_eq_true (by rw [mz_blocks])) ?_
  refine Tr.pick rfl rfl rfl rfl rfl rfl ?_
  refine Tr.assign rfl rfl rfl ?_
  refine Tr.nil ?_
  refine at_n ?_
  refine Sat.ret ?_
  refine en_r ?_
  refine ⟨_, [], res_tmp rfl rfl, (by simp), (by simp), ?_, rfl⟩
  rfl

end Go.Proofs.Ytejjamifnombhaa
end

section
namespace Go.Proofs.Ytejjamifnombhaa
open Go Hw
set_option linter.unusedVariables false
set_option linter.unusedSimpArgs false


def allBs : Nat → List (List Bool)
  | 0 => [[]]
  | n + 1 => (allBs n).flatMap fun l => [true :: l, false :: l]
theorem mem_allBs : ∀ bs : List Bool, bs ∈ allBs bs.length
  | [] => List.mem_singleton.2 rfl
  | b :: bs => by
    rw [List.length_cons, allBs, List.mem_flatMap]
    exact ⟨bs, mem_allBs bs, by cases b <;> simp⟩
def okBits (k : Nat) (bs : List Bool) : Bool := (!bs.getD 0 false || (k == 1 || k == 6)) && ((!bs.getD 1 false || (k == 1 || k == 2)) && ((!bs.getD 2 false || k == 2) && ((!bs.getD 3 false || k == 3) && ((!bs.getD 4 false || k == 4) && ((!bs.getD 5 false || k == 4) && (!bs.getD 6 false || k == 5))))))
theorem fits_all : ((List.range 7).all fun k => k == 0 || (allBs 7).all fun bs => decide (andNotI ((usedN bs 7 : Nat) : Int) (partsI (k : Int)) = 0) == okBits k bs) = true := by kernel_rfl
theorem zero_all : ((allBs 7).all fun bs => decide (((usedN bs 7 : Nat) : Int) = 0) == !(bs.getD 0 false || (bs.getD 1 false || (bs.getD 2 false || (bs.getD 3 false || (bs.getD 4 false || (bs.getD 5 false || bs.getD 6 false))))))) = true := by kernel_rfl
theorem fits_iff {k : Nat} {bs : List Bool} (h0 : k ≠ 0) (h7 : k < 7) (hb : bs.length = 7) : andNotI ((usedN bs 7 : Nat) : Int) (partsI (k : Int)) = 0 ↔ okBits k bs = true := by
  have h := List.all_eq_true.1 fits_all k (List.mem_range.2 h7)
  rw [Bool.or_eq_true] at h
  rcases h with h | h
  · simp at h; exact absurd h h0
  · have h := List.all_eq_true.1 h bs (hb ▸ mem_allBs bs)
    rw [beq_iff_eq] at h
    rw [← h, decide_eq_true_iff]
theorem zero_iff {bs : List Bool} (hb : bs.length = 7) : ((usedN bs 7 : Nat) : Int) = 0 ↔ (!(bs.getD 0 false || (bs.getD 1 false || (bs.getD 2 false || (bs.getD 3 false || (bs.getD 4 false || (bs.getD 5 false || bs.getD 6 false))))))) = true := by
  have h := List.all_eq_true.1 zero_all bs (hb ▸ mem_allBs bs)
  rw [beq_iff_eq] at h
  rw [← h, decide_eq_true_iff]
theorem parts_zero (k : Int) : partsI k = 0 ↔ ¬ (1 ≤ k ∧ k ≤ 6) := by
  by_cases h : 0 ≤ k ∧ k < 7
  · obtain ⟨n, rfl⟩ : ∃ n : Nat, k = n := ⟨k.toNat, by omega⟩
    have hn : n < 7 := by omega
    match n, hn with
    | 0, _ => decide
    | 1, _ => decide
    | 2, _ => decide
    | 3, _ => decide
    | 4, _ => decide
    | 5, _ => decide
    | 6, _ => decide
  · rw [parts_out h]
    simp
    omega
/-- the heads of a valid message -/
def DMsg.hd (D : DMsg) : Prop := (1 ≤ D.dKind ∧ D.dKind ≤ 6) ∧ D.dHeight.toNat ≤ 4294967295 ∧ (D.dKind = 1 ∨ D.dKind = 6 ∨ D.dHeight.toNat = 0) ∧ (D.dKind = 1 ∨ D.dKind = 2 ∨ D.dHeads.length = 0) ∧ (D.dKind = 2 ∨ D.dWant.length = 0) ∧ (D.dKind = 3 ∨ D.dBlocks.length = 0) ∧ (D.dKind = 4 ∨ D.dVotes.length = 0) ∧ (D.dKind = 4 ∨ D.dCuts.length = 0) ∧ (D.dKind = 5 ∨ D.dCerts.length = 0) ∧
  D.dHeads.length ≤ 32 ∧ D.dWant.length ≤ 32 ∧ D.dBlocks.length ≤ 8 ∧ D.dVotes.length ≤ 20 ∧ D.dCuts.length ≤ 4 ∧ D.dCerts.length ≤ 2 ∧ (D.dKind = 1 ∨ D.dKind = 2 ∨ ¬ (D.dHeight.toNat = 0 ∧ D.dHeads.length = 0 ∧ D.dWant.length = 0 ∧ D.dBlocks.length = 0 ∧ D.dVotes.length = 0 ∧ D.dCuts.length = 0 ∧ D.dCerts.length = 0))
structure DMsg.els (D : DMsg) : Prop where
  b : (D.dBlocks.all fun d => decide (d.check = 0)) = true
  v : (D.dVotes.all fun d => decide (vcheck d = 0)) = true
  c : (D.dCuts.all fun d => decide (d.check = 0)) = true
  e : (D.dCerts.all fun d => decide (d.check = 0)) = true
theorem bits_len (D : DMsg) : D.bits.length = 7 := rfl
theorem used_zero (D : DMsg) : D.used = 0 ↔ (D.dHeight.toNat = 0 ∧ D.dHeads.length = 0 ∧ D.dWant.length = 0 ∧ D.dBlocks.length = 0 ∧ D.dVotes.length = 0 ∧ D.dCuts.length = 0 ∧ D.dCerts.length = 0) := by
  rw [DMsg.used, zero_iff (bits_len D)]
  simp only [DMsg.bits, List.getD_cons_zero, List.getD_cons_succ, Bool.not_eq_true', Bool.or_eq_false_iff, Bool.not_eq_false', decide_eq_true_eq, decide_eq_false_iff_not]
  omega
theorem used_fits (D : DMsg) {k : Nat} (h0 : k ≠ 0) (h7 : k < 7) : andNotI D.used (partsI (k : Int)) = 0 ↔ ((k = 1 ∨ k = 6 ∨ D.dHeight.toNat = 0) ∧ (k = 1 ∨ k = 2 ∨ D.dHeads.length = 0) ∧ (k = 2 ∨ D.dWant.length = 0) ∧ (k = 3 ∨ D.dBlocks.length = 0) ∧ (k = 4 ∨ D.dVotes.length = 0) ∧ (k = 4 ∨ D.dCuts.length = 0) ∧ (k = 5 ∨ D.dCerts.length = 0)) := by
  rw [DMsg.used, fits_iff h0 h7 (bits_len D)]
  simp only [okBits, DMsg.bits, List.getD_cons_zero, List.getD_cons_succ, Bool.and_eq_true, Bool.or_eq_true, Bool.not_eq_true', Bool.not_eq_false', decide_eq_true_eq, decide_eq_false_iff_not, beq_iff_eq]
  omega
theorem valid_iff (D : DMsg) : D.check = 0 ↔ D.hd ∧ D.els := by
  have hb : D.check = 0 ↔ ¬ D.bad := ⟨fun h hb => (by rw [msg_bad hb] at h; cases h), msg_good⟩
  rw [hb]
  by_cases hk : 1 ≤ D.dKind ∧ D.dKind ≤ 6
  · obtain ⟨n, hn⟩ : ∃ n : Nat, D.dKind = n := ⟨D.dKind.toNat, by omega⟩
    have hf := used_fits D (k := n) (by omega) (by omega)
    have hz := used_zero D
    have hp : ¬ partsI D.dKind = 0 := fun e => (parts_zero _).1 e hk
    rw [← hn] at hf
    constructor
    · intro h
      have g1 : andNotI D.used (partsI D.dKind) = 0 := Classical.byContradiction fun e => h (.inr (.inr (.inl e)))
      have g2 := hf.1 g1
      have g3 : ¬ (4294967295 : Int) < (D.dHeight.toNat : Int) := fun e => h (.inr (.inl e))
      have g4 : ¬ (32 : Int) < (D.dHeads.length : Int) := fun e => h (.inr (.inr (.inr (.inl e))))
      have g5 : ¬ (32 : Int) < (D.dWant.length : Int) := fun e => h (.inr (.inr (.inr (.inr (.inl e)))))
      have g6 : ¬ (8 : Int) < (D.dBlocks.length : Int) := fun e => h (.inr (.inr (.inr (.inr (.inr (.inl e))))))
      have g7 : ¬ (20 : Int) < (D.dVotes.length : Int) := fun e => h (.inr (.inr (.inr (.inr (.inr (.inr (.inl e)))))))
      have g8 : ¬ (4 : Int) < (D.dCuts.length : Int) := fun e => h (.inr (.inr (.inr (.inr (.inr (.inr (.inr (.inl e))))))))
      have g9 : ¬ (2 : Int) < (D.dCerts.length : Int) := fun e => h (.inr (.inr (.inr (.inr (.inr (.inr (.inr (.inr (.inl e)))))))))
      have g10 : ¬ (¬ D.dKind = 1 ∧ ¬ D.dKind = 2 ∧ D.used = 0) := fun e => h (.inr (.inr (.inr (.inr (.inr (.inr (.inr (.inr (.inr (.inl e))))))))))
      have el : D.els := ⟨Classical.byContradiction fun e => h (.inr (.inr (.inr (.inr (.inr (.inr (.inr (.inr (.inr (.inr (.inl e))))))))))), Classical.byContradiction fun e => h (.inr (.inr (.inr (.inr (.inr (.inr (.inr (.inr (.inr (.inr (.inr (.inl e)))))))))))), Classical.byContradiction fun e => h (.inr (.inr (.inr (.inr (.inr (.inr (.inr (.inr (.inr (.inr (.inr (.inr (.inl e))))))))))))), Classical.byContradiction fun e => h (.inr (.inr (.inr (.inr (.inr (.inr (.inr (.inr (.inr (.inr (.inr (.inr (.inr (e))))))))))))))⟩
      refine ⟨?_, el⟩
      rw [hz] at g10
      clear h el hb hf hz g1
      unfold DMsg.hd
      omega
    · rintro ⟨h, el⟩ hbad
      unfold DMsg.hd at h
      rcases hbad with e | e | e | e | e | e | e | e | e | ⟨e1, e2, e3⟩ | e | e | e | e
      · exact hp e
      · omega
      · exact e (hf.2 (by omega))
      · omega
      · omega
      · omega
      · omega
      · omega
      · omega
      · have := hz.1 e3
        omega
      · exact e el.b
      · exact e el.v
      · exact e el.c
      · exact e el.e
  · exact ⟨fun h => absurd (.inl ((parts_zero _).2 hk)) h, fun h => absurd h.1.1 hk⟩
def DMsg.setH (D : DMsg) (x : UInt64) : DMsg := { D with dHeight := x }
def DMsg.setHeads (D : DMsg) (x : List (List UInt8)) : DMsg := { D with dHeads := x }
def DMsg.setWant (D : DMsg) (x : List (List UInt8)) : DMsg := { D with dWant := x }
def DMsg.setB (D : DMsg) (x : List DB) : DMsg := { D with dBlocks := x }
def DMsg.setE (D : DMsg) (x : List DCert) : DMsg := { D with dCerts := x }
def DMsg.setVC (D : DMsg) (x : List Vote) (y : List DCut) : DMsg := { D with dVotes := x, dCuts := y }
section
variable {W : World} {m : Msg} {D E : DMsg}
theorem MsgIs.setH (h : MsgIs W m D) (x : UInt64) : MsgIs W { m with fHeight := x } (D.setH x) := ⟨⟨trivial⟩, h.fKind, h.wKind, rfl, h.fHeads, h.fWant, h.fBlocks, h.fVotes, h.fCuts, h.fCerts⟩
theorem MsgIs.setHeads {s : Sl} {ls : List (List UInt8)} (h : MsgIs W m D) (hr : RowsAt W s 32 ls) : MsgIs W { m with fHeads := s } (D.setHeads ls) := ⟨⟨trivial⟩, h.fKind, h.wKind, h.fHeight, hr, h.fWant, h.fBlocks, h.fVotes, h.fCuts, h.fCerts⟩
theorem MsgIs.setWant {s : Sl} {ls : List (List UInt8)} (h : MsgIs W m D) (hr : RowsAt W s 32 ls) : MsgIs W { m with fWant := s } (D.setWant ls) := ⟨⟨trivial⟩, h.fKind, h.wKind, h.fHeight, h.fHeads, hr, h.fBlocks, h.fVotes, h.fCuts, h.fCerts⟩
theorem MsgIs.setB {s : Sl} {ds : List DB} (h : MsgIs W m D) (hr : BlocksAt W s ds) : MsgIs W { m with fBlocks := s } (D.setB ds) := ⟨⟨trivial⟩, h.fKind, h.wKind, h.fHeight, h.fHeads, h.fWant, hr, h.fVotes, h.fCuts, h.fCerts⟩
theorem MsgIs.setE {s : Sl} {ds : List DCert} (h : MsgIs W m D) (hr : CertsAt W s ds) : MsgIs W { m with fCerts := s } (D.setE ds) := ⟨⟨trivial⟩, h.fKind, h.wKind, h.fHeight, h.fHeads, h.fWant, h.fBlocks, h.fVotes, h.fCuts, hr⟩
theorem MsgIs.setVC {s t : Sl} {vs : List Vote} {ds : List DCut} (h : MsgIs W m D) (hr : VotesAt W s vs) (hc : CutsAt W t ds) : MsgIs W { m with fVotes := s, fCuts := t } (D.setVC vs ds) := ⟨⟨trivial⟩, h.fKind, h.wKind, h.fHeight, h.fHeads, h.fWant, h.fBlocks, hr, hc, h.fCerts⟩
set_option maxHeartbeats 2000000 in
theorem ok_setH (h : D.check = 0) : (D.setH 5).check = 0 ↔ D.dKind = 1 ∨ D.dKind = 6 := by
  rw [valid_iff] at h ⊢
  obtain ⟨h1, h2⟩ := h
  have h3 : (D.setH 5).els := ⟨h2.b, h2.v, h2.c, h2.e⟩
  unfold DMsg.hd at *
  simp only [DMsg.setH, show (5 : UInt64).toNat = 5 from rfl] at *
  constructor
  · rintro ⟨hh, _⟩
    clear h1 h2 h3
    omega
  · intro hh
    refine ⟨?_, h3⟩
    clear h2 h3
    omega
set_option maxHeartbeats 2000000 in
theorem ok_setHeads (h : D.check = 0) {a b : List UInt8} : (D.setHeads [a, b]).check = 0 ↔ D.dKind = 1 ∨ D.dKind = 2 := by
  rw [valid_iff] at h ⊢
  obtain ⟨h1, h2⟩ := h
  have h3 : (D.setHeads [a, b]).els := ⟨h2.b, h2.v, h2.c, h2.e⟩
  unfold DMsg.hd at *
  simp only [DMsg.setHeads, List.length_cons, List.length_nil] at *
  constructor
  · rintro ⟨hh, _⟩
    clear h1 h2 h3
    omega
  · intro hh
    refine ⟨?_, h3⟩
    clear h2 h3
    omega
set_option maxHeartbeats 2000000 in
theorem ok_setWant (h : D.check = 0) {a : List UInt8} : (D.setWant [a]).check = 0 ↔ D.dKind = 2 := by
  rw [valid_iff] at h ⊢
  obtain ⟨h1, h2⟩ := h
  have h3 : (D.setWant [a]).els := ⟨h2.b, h2.v, h2.c, h2.e⟩
  unfold DMsg.hd at *
  simp only [DMsg.setWant, List.length_cons, List.length_nil] at *
  constructor
  · rintro ⟨hh, _⟩
    clear h1 h2 h3
    omega
  · intro hh
    refine ⟨?_, h3⟩
    clear h2 h3
    omega
set_option maxHeartbeats 2000000 in
theorem ok_setB (h : D.check = 0) (k : E.check = 0) (hl : 0 < E.dBlocks.length) : (D.setB E.dBlocks).check = 0 ↔ D.dKind = 3 := by
  rw [valid_iff] at h k ⊢
  obtain ⟨h1, h2⟩ := h
  obtain ⟨k1, k2⟩ := k
  have h3 : (D.setB E.dBlocks).els := ⟨k2.b, h2.v, h2.c, h2.e⟩
  unfold DMsg.hd at *
  simp only [DMsg.setB] at *
  constructor
  · rintro ⟨hh, _⟩
    clear h1 h2 h3
    omega
  · intro hh
    refine ⟨?_, h3⟩
    clear h2 h3
    omega
set_option maxHeartbeats 2000000 in
theorem ok_setE (h : D.check = 0) (k : E.check = 0) (hl : 0 < E.dCerts.length) : (D.setE E.dCerts).check = 0 ↔ D.dKind = 5 := by
  rw [valid_iff] at h k ⊢
  obtain ⟨h1, h2⟩ := h
  obtain ⟨k1, k2⟩ := k
  have h3 : (D.setE E.dCerts).els := ⟨h2.b, h2.v, h2.c, k2.e⟩
  unfold DMsg.hd at *
  simp only [DMsg.setE] at *
  constructor
  · rintro ⟨hh, _⟩
    clear h1 h2 h3
    omega
  · intro hh
    refine ⟨?_, h3⟩
    clear h2 h3
    omega
set_option maxHeartbeats 2000000 in
theorem ok_setVC (h : D.check = 0) (k : E.check = 0) (hl : ¬ E.dVotes.length + E.dCuts.length = 0) : (D.setVC E.dVotes E.dCuts).check = 0 ↔ D.dKind = 4 := by
  rw [valid_iff] at h k ⊢
  obtain ⟨h1, h2⟩ := h
  obtain ⟨k1, k2⟩ := k
  have h3 : (D.setVC E.dVotes E.dCuts).els := ⟨h2.b, k2.v, k2.c, h2.e⟩
  unfold DMsg.hd at *
  simp only [DMsg.setVC] at *
  constructor
  · rintro ⟨hh, _⟩
    clear h1 h2 h3
    omega
  · intro hh
    refine ⟨?_, h3⟩
    clear h2 h3
    omega
theorem own_rowsF {C : Cx} {hp : List Blk} {w : World} {q c n m : Nat} {T : TypeId} {k : Nat} {ls : List (List UInt8)} (h : HRep C hp w) (hb : (⟨q, flatB ls, T, k⟩ : Blk) ∈ hp) (hl : ls.length = n) (hr : ∀ l ∈ ls, l.length = m) (hc : n ≤ c) (hn : n ≤ 1000000) : RowsAt w ⟨some ⟨q, 0, none⟩, n, c⟩ m ls :=
  ⟨hl, hr, hc, SeesP.of (sees_own h hb), by simp only [maxLen]; omega, fun e => by cases e⟩
end


end Go.Proofs.Ytejjamifnombhaa
end
