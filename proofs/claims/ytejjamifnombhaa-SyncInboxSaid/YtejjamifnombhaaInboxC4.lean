/- Contracts of functions of the loaded program, and the lemmas that they need (part 4). It proves no statement by itself; it has no conditions. -/
import Derived.WalkKit
import Derived.Orders
import Derived.Deep.LoopGhost
import Derived.IntWalk
import Derived.Laws.StructEq
import Derived.ArgAppend
import Derived.Deep.AppendSrc
import Derived.Lib.Bytealg
import Derived.Lib.BytesEntry
import Derived.Laws.IdiomStrings
import Derived.WideKeyArr2
import Derived.ProofKit
import Derived.OpenShut
import Derived.Deep.Slices
import Derived.Laws.Pointers
import Derived.Laws.Cover3
import Derived.LaidEqlPtr
import Derived.LoopN
import Derived.RangeFuncLeaves
import Derived.RangeFuncSeq
import Derived.OrdersIn
import Derived.Test.YtejjamifnombhaaRows
import Derived.KernelRfl
import Derived.Laws.Externs
import Derived.ChangeOld
import Derived.Below
import Derived.Test.YtejjamifnombhaaInboxC3
section
namespace Go.Proofs.Ytejjamifnombhaa
open Go Hw
set_option linter.unusedVariables false
set_option linter.unusedSimpArgs false

set_option maxRecDepth 100000 in
set_option maxHeartbeats 1000000 in
theorem all_cert_1 (x : Cert) (d : DCert) (q : Nat) : Meets Try.prog 113 [agg x.cells, ptr q 0] [] (fun W => CertIs W x d ∧ W.cell? ⟨q, 0, none⟩ = some (.func (.func 58) #[] #[])) (fun v out => v = .bool (!decide (d.check = 0)) ∧ out = []) := by
  intro W hW
  refine calls_of (hp0 := []) Try.func113 rfl 8 Try.ntmps113 rfl (HRep.nil _) ?_
  refine Sat.seq ?_
  -- region 0
  refine Sat.region ?_
  refine Tr.boxA rfl rfl ?_
  intro n2 hn2 hf2
  refine Tr.assign rfl rfl rfl ?_
  refine Tr.nil ?_
  refine at_n ?_
  refine Sat.seq ?_
  -- region 1
  refine Sat.region ?_
  refine Tr.loadE rfl rfl rfl Try.underlying111 rfl (by first | (simp; done) | (simp; exact hW.2.2) | (simp [Cx.with]; omega)) (hW.2) ?_
  refine Tr.loadAll rfl rfl rfl Try.underlying70 rfl Sz70 (by first | exact mem0 | exact mem1 | exact mem2 | exact mem3 | exact mem4 | exact mem5 | exact mem6 | exact mem7 | (repeat (first | exact List.mem_cons_self | refine List.mem_cons_of_mem _ ?_ | refine mem_seg ?_))) (Cert.length (by first | assumption | (simp; done) | exact Block.zero_ok | exact Vote.zero_ok | exact Reader.zero_ok | exact Cut.zero_ok | exact Cert.zero_ok | exact Msg.zero_ok | exact Inbox.zero_ok | exact Record.zero_ok | exact Kept.zero_ok  | exact hW.1.ok)) ?_
  refine Tr.callV rfl rfl rfl rfl Body58 (cert_check x d) (fun w h => hW.1.ext h rfl) ?_
  refine Tr.nei rfl rfl rfl rfl rfl ?_
  refine Tr.assign rfl rfl rfl ?_
  refine Tr.nil ?_
  refine at_n ?_
  refine Sat.ret ?_
  refine en_r ?_
  refine ⟨_, [], res_tmp rfl rfl, (by simp), (by simp), ?_, rfl⟩
  first
    | rfl
    | simp

set_option maxRecDepth 100000 in
set_option maxHeartbeats 1000000 in
theorem index_cert (s : Sl) (ds : List DCert) (q : Nat) : Meets Try.prog 145 [s.v, .func (.func 113) #[] #[ptr q 0]] [] (fun W => CertsAt W s ds ∧ W.cell? ⟨q, 0, none⟩ = some (.func (.func 58) #[] #[])) (fun v out => v = i64 (fstBad (fun d : DCert => !decide (d.check = 0)) ds) ∧ out = []) := by
  intro W hW
  obtain ⟨⟨rs, hs⟩, hq⟩ := hW
  have hmax := hs.max
  simp only [maxLen] at hmax
  have hcap := hs.cap
  refine calls_of (hp0 := []) Try.func145 rfl 19 Try.ntmps145 rfl (HRep.nil _) ?_
  refine Sat.seq ?_
  -- region 0
  refine Sat.region ?_
  refine Tr.assign rfl rfl rfl ?_
  refine Tr.nil ?_
  refine at_n ?_
  refine Sat.seq ?_
  refine Sat.seq ?_
  -- region 1
  refine Sat.region ?_
  refine Tr.move rfl rfl rfl ?_
  refine Tr.lenSl rfl rfl rfl Try.underlying47 ?_
  refine Tr.move rfl rfl rfl ?_
  refine Tr.nil ?_
  refine at_n ?_
  refine Sat.block ?_
  refine Sat.loop (ι := Nat) (fun k => ⟨[(0, s.v), (1, .func (.func 113) #[] #[ptr q 0]), (7, i64 (s.n : Int)), (8, i64 (k : Int))], []⟩) (fun k => k ≤ s.n ∧ ∀ j, j < k → (ds.map (fun d : DCert => !decide (d.check = 0)))[j]? = some false) (fun k => s.n - k) (0) ?_ ?_ ?_
  · exact ⟨by omega, fun j hj => by omega⟩
  · exact weak_of (wk1 rfl (wk1 rfl (wk1 rfl (wk1 rfl wk0)))) wh0 (by repeat (first | exact ns_nil | refine ns_keep rfl ?_ | refine ns_skip ?_))
  ·
    rintro k ⟨hk, hg⟩
    refine Sat.seq ?_
    -- region 2
    refine Sat.region ?_
    refine Tr.lss rfl rfl rfl rfl rfl ?_
    refine Tr.nil ?_
    refine at_n ?_
    refine Sat.seq ?_
    first
      | refine Sat.condP rfl (fun hc0 => ?_) (fun hc0 => ?_)
      | refine Sat.condNP rfl (fun hc0 => ?_) (fun hc0 => ?_)
      | refine Sat.cond rfl (fun hc0 => ?_) (fun hc0 => ?_)
    ·
      have hk2 : k < s.n := by omega
      obtain ⟨b, o, r, d, hsp, hr, hd, his, hlen, hsee⟩ := hs.at (by decide) hk2
      refine Sat.skip ?_
      refine at_n ?_
      refine Sat.seq ?_
      refine Sat.block ?_
      refine Sat.seq ?_
      -- region 3
      refine Sat.region ?_
      refine Tr.move rfl rfl rfl ?_
      refine Tr.assign rfl rfl rfl ?_
      refine Tr.nil ?_
      refine at_n ?_
      refine Sat.seq ?_
      -- region 4
      refine Sat.region ?_
      refine Tr.move rfl rfl rfl ?_
      refine Tr.move rfl rfl rfl ?_
      refine Tr.move rfl rfl rfl ?_
      refine Tr.idxSlP 35 rfl rfl rfl hsp rfl Try.underlying47 Sz70 k (by omega) (by omega) ?_
      refine Tr.loadEN r.cells rfl rfl rfl Try.underlying70 rfl Sz70 (by simp) hlen hsee ?_
      refine Tr.callCV rfl rfl rfl rfl rfl Body113 (all_cert_1 r d q) (fun w h => ⟨his.ext h rfl, h.keeps.cell (by simp) hq⟩) ?_
      refine Tr.nil ?_
      refine at_n ?_
      first
        | refine Sat.condP rfl (fun hc1 => ?_) (fun hc1 => ?_)
        | refine Sat.condNP rfl (fun hc1 => ?_) (fun hc1 => ?_)
        | refine Sat.cond rfl (fun hc1 => ?_) (fun hc1 => ?_)
      ·
        refine Sat.seq ?_
        -- region 5
        refine Sat.region ?_
        refine Tr.move rfl rfl rfl ?_
        refine Tr.assign rfl rfl rfl ?_
        refine Tr.nil ?_
        refine at_n ?_
        refine Sat.ret ?_
        refine bl_r ?_
        refine at_r ?_
        refine at_r ?_
        refine bl_r ?_
        refine at_r ?_
        refine en_r ?_
        refine ⟨_, [], res_tmp rfl rfl, (by simp), (by simp), ?_, rfl⟩
        first
          | exact congrArg i64 (fstBad_none (by intro j hj; exact hg j (by rw [hs.nd] at hj; exact hj))).symm
          | exact congrArg i64 (fstBad_at hg (by rw [List.getElem?_map, hd]; simpa using hc1)).symm
      ·
        refine Sat.skip ?_
        refine bl_n ?_
        refine at_n ?_
        -- region 6
        refine Sat.region ?_
        refine Tr.add_i64 rfl rfl rfl rfl (by omega) ?_
        refine Tr.move rfl rfl rfl ?_
        refine Tr.nil ?_
        refine at_n ?_
        exact ⟨k + 1, ⟨by omega, fun j hj => by rcases Nat.lt_succ_iff_lt_or_eq.1 hj with h | rfl; exact hg j h; rw [List.getElem?_map, hd]; simpa using hc1⟩, by omega, weak_of (wk1 rfl (wk1 rfl (wk1 rfl (wk1 rfl wk0)))) wh0 (by repeat (first | exact ns_nil | refine ns_keep rfl ?_ | refine ns_skip ?_))⟩
    ·
      obtain rfl : k = s.n := by omega
      refine Sat.exit ?_
      refine at_x ?_
      refine at_x ?_
      refine bl_h ?_
      refine at_n ?_
      refine Sat.seq ?_
      -- region 7
      refine Sat.region ?_
      refine Tr.assign rfl rfl rfl ?_
      refine Tr.nil ?_
      refine at_n ?_
      refine Sat.ret ?_
      refine en_r ?_
      refine ⟨_, [], res_tmp rfl rfl, (by simp), (by simp), ?_, rfl⟩
      first
        | exact congrArg i64 (fstBad_none (by intro j hj; exact hg j (by rw [hs.nd] at hj; exact hj))).symm
        | exact congrArg i64 (fstBad_at hg (by rw [List.getElem?_map, hd]; simpa using hc1)).symm

set_option maxRecDepth 100000 in
set_option maxHeartbeats 1000000 in
theorem contains_cert (s : Sl) (ds : List DCert) (q : Nat) : Meets Try.prog 112 [s.v, .func (.func 113) #[] #[ptr q 0]] [] (fun W => CertsAt W s ds ∧ W.cell? ⟨q, 0, none⟩ = some (.func (.func 58) #[] #[])) (fun v out => v = .bool (ds.any (fun d : DCert => !decide (d.check = 0))) ∧ out = []) := by
  intro W hW
  refine calls_of (hp0 := []) Try.func112 rfl 9 Try.ntmps112 rfl (HRep.nil _) ?_
  refine Sat.seq ?_
  -- region 0
  refine Sat.region ?_
  refine Tr.assign rfl rfl rfl ?_
  refine Tr.nil ?_
  refine at_n ?_
  refine Sat.seq ?_
  -- region 1
  refine Sat.region ?_
  refine Tr.move rfl rfl rfl ?_
  refine Tr.move rfl rfl rfl ?_
  refine Tr.callV rfl rfl rfl rfl Body145 (index_cert s ds q) (fun w h => ⟨Certs_ext h rfl hW.1, h.keeps.cell (by simp) hW.2⟩) ?_
  refine Tr.geq rfl rfl rfl rfl rfl ?_
  refine Tr.assign rfl rfl rfl ?_
  refine Tr.nil ?_
  refine at_n ?_
  refine Sat.ret ?_
  refine en_r ?_
  refine ⟨_, [], res_tmp rfl rfl, (by simp), (by simp), ?_, rfl⟩
  exact congrArg Value.bool (fstBad_ge _ _)

set_option maxRecDepth 100000 in
set_option maxHeartbeats 1000000 in
theorem all_cert (s : Sl) (ds : List DCert) : Meets Try.prog 57 [s.v, .func (.func 58) #[] #[]] [] (fun W => CertsAt W s ds) (fun v out => v = .bool (ds.all fun d => decide (d.check = 0)) ∧ out = []) := by
  intro W hW
  refine calls_of (hp0 := []) Try.func57 rfl 9 Try.ntmps57 rfl (HRep.nil _) ?_
  refine Sat.seq ?_
  -- region 0
  refine Sat.region ?_
  refine Tr.box1 rfl rfl rfl ?_
  intro n3 hn3 hf3
  refine Tr.assign rfl rfl rfl ?_
  refine Tr.nil ?_
  refine at_n ?_
  refine Sat.seq ?_
  -- region 1
  refine Sat.region ?_
  refine Tr.move rfl rfl rfl ?_
  refine Tr.makeFunc rfl rfl rfl rfl ?_
  refine Tr.callV rfl rfl rfl rfl Body112 (contains_cert s ds n3) (fun w h => ⟨Certs_ext h rfl hW, (own_blk h (by first | exact mem0 | exact mem1 | exact mem2 | exact mem3 | exact mem4 | exact mem5 | exact mem6 | exact mem7 | (repeat (first | exact List.mem_cons_self | refine List.mem_cons_of_mem _ ?_ | refine mem_seg ?_)))).cell (o := 0) rfl⟩) ?_
  refine Tr.not rfl rfl rfl ?_
  refine Tr.assign rfl rfl rfl ?_
  refine Tr.nil ?_
  refine at_n ?_
  refine Sat.ret ?_
  refine en_r ?_
  refine ⟨_, [], res_tmp rfl rfl, (by simp), (by simp), ?_, rfl⟩
  exact congrArg Value.bool (any_all _ _)


/-- what is wrong with a message -/
def DMsg.bad (D : DMsg) : Prop := partsI D.dKind = 0 ∨ (4294967295 : Int) < (D.dHeight.toNat : Int) ∨ ¬ andNotI D.used (partsI D.dKind) = 0 ∨ (32 : Int) < (D.dHeads.length : Int) ∨ (32 : Int) < (D.dWant.length : Int) ∨ (8 : Int) < (D.dBlocks.length : Int) ∨ (20 : Int) < (D.dVotes.length : Int) ∨ (4 : Int) < (D.dCuts.length : Int) ∨ (2 : Int) < (D.dCerts.length : Int) ∨ (¬ D.dKind = 1 ∧ ¬ D.dKind = 2 ∧ D.used = 0) ∨
  ¬ (D.dBlocks.all fun d => decide (d.check = 0)) = true ∨ ¬ (D.dVotes.all fun d => decide (vcheck d = 0)) = true ∨ ¬ (D.dCuts.all fun d => decide (d.check = 0)) = true ∨ ¬ (D.dCerts.all fun d => decide (d.check = 0)) = true
open Classical in
noncomputable def DMsg.check (D : DMsg) : Int := if D.bad then 2 else 0
theorem msg_bad {D : DMsg} (h : D.bad) : D.check = 2 := if_pos h
theorem msg_good {D : DMsg} (h : ¬ D.bad) : D.check = 0 := if_neg h


set_option maxRecDepth 100000 in
set_option maxHeartbeats 4000000 in
theorem msg_check (m : Msg) (D : DMsg) : Meets Try.prog 18 [agg m.cells] [] (fun W => MsgIs W m D) (fun v out => v = i64 D.check ∧ out = []) := by
  intro W hW
  have hok := hW.ok
  have hl := hW.len
  have hbits := mbits_eq hW
  have hu : ((usedN (mbits m) 7 : Nat) : Int) = D.used := by rw [hbits]; rfl
  have eK := hW.fKind
  have eH := hW.fHeight
  refine calls_of (hp0 := []) Try.func18 rfl 90 Try.ntmps18 rfl (HRep.nil _) ?_
  refine Sat.seq ?_
  -- region 0
  refine Sat.region ?_
  refine Tr.boxA rfl rfl ?_
  intro n1 hn1 hf1
  refine Tr.assign rfl rfl rfl ?_
  refine Tr.nil ?_
  refine at_n ?_
  refine Sat.seq ?_
  -- region 1
  refine Sat.region ?_
  refine Tr.fld rfl rfl rfl Try.underlying49 rfl Sz3 (by decide) _ rfl ?_
  refine Tr.load1 rfl rfl rfl Try.underlying3 rfl (by first | exact mem0 | exact mem1 | exact mem2 | exact mem3 | exact mem4 | exact mem5 | exact mem6 | exact mem7 | (repeat (first | exact List.mem_cons_self | refine List.mem_cons_of_mem _ ?_ | refine mem_seg ?_))) (by first | exact Msg.get_fKind (by first | assumption | (simp; done) | exact Block.zero_ok | exact Vote.zero_ok | exact Reader.zero_ok | exact Cut.zero_ok | exact Cert.zero_ok | exact Msg.zero_ok | exact Inbox.zero_ok | exact Record.zero_ok | exact Kept.zero_ok  | exact hok) | exact (by first | rfl | exact get_words (by first | omega | (simp; done) | (simp; omega)) | exact get_bytes (by first | omega | (simp; done) | (simp; omega)) | exact get_ints (by first | omega | (simp; done) | (simp; omega)))) ?_
  refine Tr.callV rfl rfl rfl rfl Body50 (sync_parts m.fKind) (fun _ _ => trivial) ?_
  refine Tr.assign rfl rfl rfl ?_
  refine Tr.nil ?_
  refine at_n ?_
  refine Sat.seq ?_
  refine Sat.seq ?_
  -- region 2
  refine Sat.region ?_
  refine Tr.move rfl rfl rfl ?_
  refine two (fun r hr k => Tr.eqi rfl rfl rfl rfl hr k) (fun hs2_10 => ?_) (fun hs2_10 => ?_)
  ·
    first | have hs2_1 := of_decide_eq_true hs2_10 | have hs2_1 := of_decide_eq_false hs2_10 | have hs2_1 := nd_t hs2_10 | have hs2_1 := nd_f hs2_10 | have hs2_1 := hs2_10
    refine Tr.move rfl rfl rfl ?_
    refine Tr.skp rfl rfl ?_
    refine Tr.skp rfl rfl ?_
    refine Tr.skp rfl rfl ?_
    refine Tr.pick rfl rfl rfl rfl rfl rfl ?_
    refine Tr.move rfl rfl rfl ?_
    refine Tr.skp rfl rfl ?_
    refine Tr.skp rfl rfl ?_
    refine Tr.skp rfl rfl ?_
    refine Tr.skp rfl rfl ?_
    refine Tr.skp rfl rfl ?_
    refine Tr.pick rfl rfl rfl rfl rfl rfl ?_
    refine Tr.nil ?_
    refine at_n ?_
    refine Sat.cond_t rfl rfl ?_
    refine Sat.seq ?_
    -- region 3
    refine Sat.region ?_
    refine Tr.assign rfl rfl rfl ?_
    refine Tr.nil ?_
    refine at_n ?_
    refine Sat.ret ?_
    refine at_r ?_
    refine en_r ?_
    refine ⟨_, [], res_tmp rfl rfl, (by simp), (by simp), ?_, rfl⟩
    first
      | exact congrArg i64 (msg_bad (by
          simp only [DMsg.bad, ← eK, ← eH, ← hu, ← hl.heads, ← hl.want, ← hl.blocks, ← hl.votes, ← hl.cuts, ← hl.certs]
          first
            | exact .inl (‹_›)
            | exact .inr (.inl (‹_›))
            | exact .inr (.inr (.inl (‹_›)))
            | exact .inr (.inr (.inr (.inl (‹_›))))
            | exact .inr (.inr (.inr (.inr (.inl (‹_›)))))
            | exact .inr (.inr (.inr (.inr (.inr (.inl (‹_›))))))
            | exact .inr (.inr (.inr (.inr (.inr (.inr (.inl (‹_›)))))))
            | exact .inr (.inr (.inr (.inr (.inr (.inr (.inr (.inl (‹_›))))))))
            | exact .inr (.inr (.inr (.inr (.inr (.inr (.inr (.inr (.inl (‹_›)))))))))
            | exact .inr (.inr (.inr (.inr (.inr (.inr (.inr (.inr (.inr (.inl (⟨‹_›, ‹_›, ‹_›⟩))))))))))
            | exact .inr (.inr (.inr (.inr (.inr (.inr (.inr (.inr (.inr (.inl (⟨by omega, by omega, by omega⟩))))))))))
            | exact .inr (.inr (.inr (.inr (.inr (.inr (.inr (.inr (.inr (.inr (.inl (‹_›)))))))))))
            | exact .inr (.inr (.inr (.inr (.inr (.inr (.inr (.inr (.inr (.inr (.inr (.inl (‹_›))))))))))))
            | exact .inr (.inr (.inr (.inr (.inr (.inr (.inr (.inr (.inr (.inr (.inr (.inr (.inl (‹_›)))))))))))))
            | exact .inr (.inr (.inr (.inr (.inr (.inr (.inr (.inr (.inr (.inr (.inr (.inr (.inr (‹_›)))))))))))))
            | exact .inr (.inr (.inr (.inr (.inr (.inr (.inr (.inr (.inr (.inr (.inl (fun e => Bool.noConfusion (hs8_2.symm.trans e))))))))))))
            | exact .inr (.inr (.inr (.inr (.inr (.inr (.inr (.inr (.inr (.inr (.inr (.inl (fun e => Bool.noConfusion (hs8_7.symm.trans e)))))))))))))
            | exact .inr (.inr (.inr (.inr (.inr (.inr (.inr (.inr (.inr (.inr (.inr (.inr (.inl (fun e => Bool.noConfusion (hs8_13.symm.trans e)))))))))))))))).symm
      | exact congrArg i64 (msg_good (by
          simp only [DMsg.bad, ← eK, ← eH, ← hu, ← hl.heads, ← hl.want, ← hl.blocks, ← hl.votes, ← hl.cuts, ← hl.certs]
          rintro (h | h | h | h | h | h | h | h | h | h | h | h | h | h)
          all_goals first | exact h ‹_› | omega | (simp_all; done))).symm
  ·
    first | have hs2_1 := of_decide_eq_true hs2_10 | have hs2_1 := of_decide_eq_false hs2_10 | have hs2_1 := nd_t hs2_10 | have hs2_1 := nd_f hs2_10 | have hs2_1 := hs2_10
    refine Tr.move rfl rfl rfl ?_
    refine Tr.fld rfl rfl rfl Try.underlying49 rfl Sz24 (by decide) _ rfl ?_
    refine Tr.load1 rfl rfl rfl Try.underlying24 rfl (by first | exact mem0 | exact mem1 | exact mem2 | exact mem3 | exact mem4 | exact mem5 | exact mem6 | exact mem7 | (repeat (first | exact List.mem_cons_self | refine List.mem_cons_of_mem _ ?_ | refine mem_seg ?_))) (by first | exact Msg.get_fHeight (by first | assumption | (simp; done) | exact Block.zero_ok | exact Vote.zero_ok | exact Reader.zero_ok | exact Cut.zero_ok | exact Cert.zero_ok | exact Msg.zero_ok | exact Inbox.zero_ok | exact Record.zero_ok | exact Kept.zero_ok  | exact hok) | exact (by first | rfl | exact get_words (by first | omega | (simp; done) | (simp; omega)) | exact get_bytes (by first | omega | (simp; done) | (simp; omega)) | exact get_ints (by first | omega | (simp; done) | (simp; omega)))) ?_
    refine two (fun r hr k => Tr.gtr rfl rfl rfl rfl hr k) (fun hs2_50 => ?_) (fun hs2_50 => ?_)
    ·
      first | have hs2_5 := of_decide_eq_true hs2_50 | have hs2_5 := of_decide_eq_false hs2_50 | have hs2_5 := nd_t hs2_50 | have hs2_5 := nd_f hs2_50 | have hs2_5 := hs2_50
      refine Tr.pick rfl rfl rfl rfl rfl rfl ?_
      refine Tr.move rfl rfl rfl ?_
      refine Tr.skp rfl rfl ?_
      refine Tr.skp rfl rfl ?_
      refine Tr.skp rfl rfl ?_
      refine Tr.skp rfl rfl ?_
      refine Tr.skp rfl rfl ?_
      refine Tr.pick rfl rfl rfl rfl rfl rfl ?_
      refine Tr.nil ?_
      refine at_n ?_
      refine Sat.cond_t rfl rfl ?_
      refine Sat.seq ?_
      -- region 3
      refine Sat.region ?_
      refine Tr.assign rfl rfl rfl ?_
      refine Tr.nil ?_
      refine at_n ?_
      refine Sat.ret ?_
      refine at_r ?_
      refine en_r ?_
      refine ⟨_, [], res_tmp rfl rfl, (by simp), (by simp), ?_, rfl⟩
      first
        | exact congrArg i64 (msg_bad (by
            simp only [DMsg.bad, ← eK, ← eH, ← hu, ← hl.heads, ← hl.want, ← hl.blocks, ← hl.votes, ← hl.cuts, ← hl.certs]
            first
              | exact .inl (‹_›)
              | exact .inr (.inl (‹_›))
              | exact .inr (.inr (.inl (‹_›)))
              | exact .inr (.inr (.inr (.inl (‹_›))))
              | exact .inr (.inr (.inr (.inr (.inl (‹_›)))))
              | exact .inr (.inr (.inr (.inr (.inr (.inl (‹_›))))))
              | exact .inr (.inr (.inr (.inr (.inr (.inr (.inl (‹_›)))))))
              | exact .inr (.inr (.inr (.inr (.inr (.inr (.inr (.inl (‹_›))))))))
              | exact .inr (.inr (.inr (.inr (.inr (.inr (.inr (.inr (.inl (‹_›)))))))))
              | exact .inr (.inr (.inr (.inr (.inr (.inr (.inr (.inr (.inr (.inl (⟨‹_›, ‹_›, ‹_›⟩))))))))))
              | exact .inr (.inr (.inr (.inr (.inr (.inr (.inr (.inr (.inr (.inl (⟨by omega, by omega, by omega⟩))))))))))
              | exact .inr (.inr (.inr (.inr (.inr (.inr (.inr (.inr (.inr (.inr (.inl (‹_›)))))))))))
              | exact .inr (.inr (.inr (.inr (.inr (.inr (.inr (.inr (.inr (.inr (.inr (.inl (‹_›))))))))))))
              | exact .inr (.inr (.inr (.inr (.inr (.inr (.inr (.inr (.inr (.inr (.inr (.inr (.inl (‹_›)))))))))))))
              | exact .inr (.inr (.inr (.inr (.inr (.inr (.inr (.inr (.inr (.inr (.inr (.inr (.inr (‹_›)))))))))))))
              | exact .inr (.inr (.inr (.inr (.inr (.inr (.inr (.inr (.inr (.inr (.inl (fun e => Bool.noConfusion (hs8_2.symm.trans e))))))))))))
              | exact .inr (.inr (.inr (.inr (.inr (.inr (.inr (.inr (.inr (.inr (.inr (.inl (fun e => Bool.noConfusion (hs8_7.symm.trans e)))))))))))))
              | exact .inr (.inr (.inr (.inr (.inr (.inr (.inr (.inr (.inr (.inr (.inr (.inr (.inl (fun e => Bool.noConfusion (hs8_13.symm.trans e)))))))))))))))).symm
        | exact congrArg i64 (msg_good (by
            simp only [DMsg.bad, ← eK, ← eH, ← hu, ← hl.heads, ← hl.want, ← hl.blocks, ← hl.votes, ← hl.cuts, ← hl.certs]
            rintro (h | h | h | h | h | h | h | h | h | h | h | h | h | h)
            all_goals first | exact h ‹_› | omega | (simp_all; done))).symm
    ·
      first | have hs2_5 := of_decide_eq_true hs2_50 | have hs2_5 := of_decide_eq_false hs2_50 | have hs2_5 := nd_t hs2_50 | have hs2_5 := nd_f hs2_50 | have hs2_5 := hs2_50
      refine Tr.pick rfl rfl rfl rfl rfl rfl ?_
      refine Tr.move rfl rfl rfl ?_
      refine Tr.loadAll rfl rfl rfl Try.underlying49 rfl Sz49 (by first | exact mem0 | exact mem1 | exact mem2 | exact mem3 | exact mem4 | exact mem5 | exact mem6 | exact mem7 | (repeat (first | exact List.mem_cons_self | refine List.mem_cons_of_mem _ ?_ | refine mem_seg ?_))) (Msg.length (by first | assumption | (simp; done) | exact Block.zero_ok | exact Vote.zero_ok | exact Reader.zero_ok | exact Cut.zero_ok | exact Cert.zero_ok | exact Msg.zero_ok | exact Inbox.zero_ok | exact Record.zero_ok | exact Kept.zero_ok  | exact hok)) ?_
      refine Tr.callV rfl rfl rfl rfl Body51 (sync_used m hok) (fun _ _ => trivial) ?_
      refine Tr.move rfl rfl rfl ?_
      refine Tr.andNot_i64 rfl rfl rfl rfl ?_
      refine Tr.nei rfl rfl rfl rfl rfl ?_
      refine Tr.pick rfl rfl rfl rfl rfl rfl ?_
      refine Tr.nil ?_
      refine at_n ?_
      first
        | refine Sat.condP rfl (fun hc0 => ?_) (fun hc0 => ?_)
        | refine Sat.condNP rfl (fun hc0 => ?_) (fun hc0 => ?_)
        | refine Sat.cond rfl (fun hc0 => ?_) (fun hc0 => ?_)
      ·
        refine Sat.seq ?_
        -- region 3
        refine Sat.region ?_
        refine Tr.assign rfl rfl rfl ?_
        refine Tr.nil ?_
        refine at_n ?_
        refine Sat.ret ?_
        refine at_r ?_
        refine en_r ?_
        refine ⟨_, [], res_tmp rfl rfl, (by simp), (by simp), ?_, rfl⟩
        first
          | exact congrArg i64 (msg_bad (by
              simp only [DMsg.bad, ← eK, ← eH, ← hu, ← hl.heads, ← hl.want, ← hl.blocks, ← hl.votes, ← hl.cuts, ← hl.certs]
              first
                | exact .inl (‹_›)
                | exact .inr (.inl (‹_›))
                | exact .inr (.inr (.inl (‹_›)))
                | exact .inr (.inr (.inr (.inl (‹_›))))
                | exact .inr (.inr (.inr (.inr (.inl (‹_›)))))
                | exact .inr (.inr (.inr (.inr (.inr (.inl (‹_›))))))
                | exact .inr (.inr (.inr (.inr (.inr (.inr (.inl (‹_›)))))))
                | exact .inr (.inr (.inr (.inr (.inr (.inr (.inr (.inl (‹_›))))))))
                | exact .inr (.inr (.inr (.inr (.inr (.inr (.inr (.inr (.inl (‹_›)))))))))
                | exact .inr (.inr (.inr (.inr (.inr (.inr (.inr (.inr (.inr (.inl (⟨‹_›, ‹_›, ‹_›⟩))))))))))
                | exact .inr (.inr (.inr (.inr (.inr (.inr (.inr (.inr (.inr (.inl (⟨by omega, by omega, by omega⟩))))))))))
                | exact .inr (.inr (.inr (.inr (.inr (.inr (.inr (.inr (.inr (.inr (.inl (‹_›)))))))))))
                | exact .inr (.inr (.inr (.inr (.inr (.inr (.inr (.inr (.inr (.inr (.inr (.inl (‹_›))))))))))))
                | exact .inr (.inr (.inr (.inr (.inr (.inr (.inr (.inr (.inr (.inr (.inr (.inr (.inl (‹_›)))))))))))))
                | exact .inr (.inr (.inr (.inr (.inr (.inr (.inr (.inr (.inr (.inr (.inr (.inr (.inr (‹_›)))))))))))))
                | exact .inr (.inr (.inr (.inr (.inr (.inr (.inr (.inr (.inr (.inr (.inl (fun e => Bool.noConfusion (hs8_2.symm.trans e))))))))))))
                | exact .inr (.inr (.inr (.inr (.inr (.inr (.inr (.inr (.inr (.inr (.inr (.inl (fun e => Bool.noConfusion (hs8_7.symm.trans e)))))))))))))
                | exact .inr (.inr (.inr (.inr (.inr (.inr (.inr (.inr (.inr (.inr (.inr (.inr (.inl (fun e => Bool.noConfusion (hs8_13.symm.trans e)))))))))))))))).symm
          | exact congrArg i64 (msg_good (by
              simp only [DMsg.bad, ← eK, ← eH, ← hu, ← hl.heads, ← hl.want, ← hl.blocks, ← hl.votes, ← hl.cuts, ← hl.certs]
              rintro (h | h | h | h | h | h | h | h | h | h | h | h | h | h)
              all_goals first | exact h ‹_› | omega | (simp_all; done))).symm
      ·
        refine Sat.skip ?_
        refine at_n ?_
        refine Sat.seq ?_
        refine Sat.seq ?_
        -- region 4
        refine Sat.region ?_
        refine Tr.fld rfl rfl rfl Try.underlying49 rfl Sz26 (by decide) _ rfl ?_
        refine Tr.load1 rfl rfl rfl Try.underlying26 rfl (by first | exact mem0 | exact mem1 | exact mem2 | exact mem3 | exact mem4 | exact mem5 | exact mem6 | exact mem7 | (repeat (first | exact List.mem_cons_self | refine List.mem_cons_of_mem _ ?_ | refine mem_seg ?_))) (by first | exact Msg.get_fHeads (by first | assumption | (simp; done) | exact Block.zero_ok | exact Vote.zero_ok | exact Reader.zero_ok | exact Cut.zero_ok | exact Cert.zero_ok | exact Msg.zero_ok | exact Inbox.zero_ok | exact Record.zero_ok | exact Kept.zero_ok  | exact hok) | exact (by first | rfl | exact get_words (by first | omega | (simp; done) | (simp; omega)) | exact get_bytes (by first | omega | (simp; done) | (simp; omega)) | exact get_ints (by first | omega | (simp; done) | (simp; omega)))) ?_
        refine Tr.lenSl rfl rfl rfl Try.underlying26 ?_
        refine two (fun r hr k => Tr.gtr rfl rfl rfl rfl hr k) (fun hs4_30 => ?_) (fun hs4_30 => ?_)
        ·
          first | have hs4_3 := of_decide_eq_true hs4_30 | have hs4_3 := of_decide_eq_false hs4_30 | have hs4_3 := nd_t hs4_30 | have hs4_3 := nd_f hs4_30 | have hs4_3 := hs4_30
          refine Tr.move rfl rfl rfl ?_
          refine Tr.skp rfl rfl ?_
          refine Tr.skp rfl rfl ?_
          refine Tr.skp rfl rfl ?_
          refine Tr.skp rfl rfl ?_
          refine Tr.pick rfl rfl rfl rfl rfl rfl ?_
          refine Tr.move rfl rfl rfl ?_
          refine Tr.skp rfl rfl ?_
          refine Tr.skp rfl rfl ?_
          refine Tr.skp rfl rfl ?_
          refine Tr.skp rfl rfl ?_
          refine Tr.pick rfl rfl rfl rfl rfl rfl ?_
          refine Tr.move rfl rfl rfl ?_
          refine Tr.skp rfl rfl ?_
          refine Tr.skp rfl rfl ?_
          refine Tr.skp rfl rfl ?_
          refine Tr.skp rfl rfl ?_
          refine Tr.pick rfl rfl rfl rfl rfl rfl ?_
          refine Tr.move rfl rfl rfl ?_
          refine Tr.skp rfl rfl ?_
          refine Tr.skp rfl rfl ?_
          refine Tr.skp rfl rfl ?_
          refine Tr.skp rfl rfl ?_
          refine Tr.pick rfl rfl rfl rfl rfl rfl ?_
          refine Tr.move rfl rfl rfl ?_
          refine Tr.skp rfl rfl ?_
          refine Tr.skp rfl rfl ?_
          refine Tr.skp rfl rfl ?_
          refine Tr.skp rfl rfl ?_
          refine Tr.pick rfl rfl rfl rfl rfl rfl ?_
          refine Tr.nil ?_
          refine at_n ?_
          refine Sat.cond_t rfl rfl ?_
          refine Sat.seq ?_
          -- region 5
          refine Sat.region ?_
          refine Tr.assign rfl rfl rfl ?_
          refine Tr.nil ?_
          refine at_n ?_
          refine Sat.ret ?_
          refine at_r ?_
          refine en_r ?_
          refine ⟨_, [], res_tmp rfl rfl, (by simp), (by simp), ?_, rfl⟩
          first
            | exact congrArg i64 (msg_bad (by
                simp only [DMsg.bad, ← eK, ← eH, ← hu, ← hl.heads, ← hl.want, ← hl.blocks, ← hl.votes, ← hl.cuts, ← hl.certs]
                first
                  | exact .inl (‹_›)
                  | exact .inr (.inl (‹_›))
                  | exact .inr (.inr (.inl (‹_›)))
                  | exact .inr (.inr (.inr (.inl (‹_›))))
                  | exact .inr (.inr (.inr (.inr (.inl (‹_›)))))
                  | exact .inr (.inr (.inr (.inr (.inr (.inl (‹_›))))))
                  | exact .inr (.inr (.inr (.inr (.inr (.inr (.inl (‹_›)))))))
                  | exact .inr (.inr (.inr (.inr (.inr (.inr (.inr (.inl (‹_›))))))))
                  | exact .inr (.inr (.inr (.inr (.inr (.inr (.inr (.inr (.inl (‹_›)))))))))
                  | exact .inr (.inr (.inr (.inr (.inr (.inr (.inr (.inr (.inr (.inl (⟨‹_›, ‹_›, ‹_›⟩))))))))))
                  | exact .inr (.inr (.inr (.inr (.inr (.inr (.inr (.inr (.inr (.inl (⟨by omega, by omega, by omega⟩))))))))))
                  | exact .inr (.inr (.inr (.inr (.inr (.inr (.inr (.inr (.inr (.inr (.inl (‹_›)))))))))))
                  | exact .inr (.inr (.inr (.inr (.inr (.inr (.inr (.inr (.inr (.inr (.inr (.inl (‹_›))))))))))))
                  | exact .inr (.inr (.inr (.inr (.inr (.inr (.inr (.inr (.inr (.inr (.inr (.inr (.inl (‹_›)))))))))))))
                  | exact .inr (.inr (.inr (.inr (.inr (.inr (.inr (.inr (.inr (.inr (.inr (.inr (.inr (‹_›)))))))))))))
                  | exact .inr (.inr (.inr (.inr (.inr (.inr (.inr (.inr (.inr (.inr (.inl (fun e => Bool.noConfusion (hs8_2.symm.trans e))))))))))))
                  | exact .inr (.inr (.inr (.inr (.inr (.inr (.inr (.inr (.inr (.inr (.inr (.inl (fun e => Bool.noConfusion (hs8_7.symm.trans e)))))))))))))
                  | exact .inr (.inr (.inr (.inr (.inr (.inr (.inr (.inr (.inr (.inr (.inr (.inr (.inl (fun e => Bool.noConfusion (hs8_13.symm.trans e)))))))))))))))).symm
            | exact congrArg i64 (msg_good (by
                simp only [DMsg.bad, ← eK, ← eH, ← hu, ← hl.heads, ← hl.want, ← hl.blocks, ← hl.votes, ← hl.cuts, ← hl.certs]
                rintro (h | h | h | h | h | h | h | h | h | h | h | h | h | h)
                all_goals first | exact h ‹_› | omega | (simp_all; done))).symm
        ·
          first | have hs4_3 := of_decide_eq_true hs4_30 | have hs4_3 := of_decide_eq_false hs4_30 | have hs4_3 := nd_t hs4_30 | have hs4_3 := nd_f hs4_30 | have hs4_3 := hs4_30
          refine Tr.move rfl rfl rfl ?_
          refine Tr.fld rfl rfl rfl Try.underlying49 rfl Sz26 (by decide) _ rfl ?_
          refine Tr.load1 rfl rfl rfl Try.underlying26 rfl (by first | exact mem0 | exact mem1 | exact mem2 | exact mem3 | exact mem4 | exact mem5 | exact mem6 | exact mem7 | (repeat (first | exact List.mem_cons_self | refine List.mem_cons_of_mem _ ?_ | refine mem_seg ?_))) (by first | exact Msg.get_fWant (by first | assumption | (simp; done) | exact Block.zero_ok | exact Vote.zero_ok | exact Reader.zero_ok | exact Cut.zero_ok | exact Cert.zero_ok | exact Msg.zero_ok | exact Inbox.zero_ok | exact Record.zero_ok | exact Kept.zero_ok  | exact hok) | exact (by first | rfl | exact get_words (by first | omega | (simp; done) | (simp; omega)) | exact get_bytes (by first | omega | (simp; done) | (simp; omega)) | exact get_ints (by first | omega | (simp; done) | (simp; omega)))) ?_
          refine Tr.lenSl rfl rfl rfl Try.underlying26 ?_
          refine two (fun r hr k => Tr.gtr rfl rfl rfl rfl hr k) (fun hs4_80 => ?_) (fun hs4_80 => ?_)
          ·
            first | have hs4_8 := of_decide_eq_true hs4_80 | have hs4_8 := of_decide_eq_false hs4_80 | have hs4_8 := nd_t hs4_80 | have hs4_8 := nd_f hs4_80 | have hs4_8 := hs4_80
            refine Tr.pick rfl rfl rfl rfl rfl rfl ?_
            refine Tr.move rfl rfl rfl ?_
            refine Tr.skp rfl rfl ?_
            refine Tr.skp rfl rfl ?_
            refine Tr.skp rfl rfl ?_
            refine Tr.skp rfl rfl ?_
            refine Tr.pick rfl rfl rfl rfl rfl rfl ?_
            refine Tr.move rfl rfl rfl ?_
            refine Tr.skp rfl rfl ?_
            refine Tr.skp rfl rfl ?_
            refine Tr.skp rfl rfl ?_
            refine Tr.skp rfl rfl ?_
            refine Tr.pick rfl rfl rfl rfl rfl rfl ?_
            refine Tr.move rfl rfl rfl ?_
            refine Tr.skp rfl rfl ?_
            refine Tr.skp rfl rfl ?_
            refine Tr.skp rfl rfl ?_
            refine Tr.skp rfl rfl ?_
            refine Tr.pick rfl rfl rfl rfl rfl rfl ?_
            refine Tr.move rfl rfl rfl ?_
            refine Tr.skp rfl rfl ?_
            refine Tr.skp rfl rfl ?_
            refine Tr.skp rfl rfl ?_
            refine Tr.skp rfl rfl ?_
            refine Tr.pick rfl rfl rfl rfl rfl rfl ?_
            refine Tr.nil ?_
            refine at_n ?_
            refine Sat.cond_t rfl rfl ?_
            refine Sat.seq ?_
            -- region 5
            refine Sat.region ?_
            refine Tr.assign rfl rfl rfl ?_
            refine Tr.nil ?_
            refine at_n ?_
            refine Sat.ret ?_
            refine at_r ?_
            refine en_r ?_
            refine ⟨_, [], res_tmp rfl rfl, (by simp), (by simp), ?_, rfl⟩
            first
              | exact congrArg i64 (msg_bad (by
                  simp only [DMsg.bad, ← eK, ← eH, ← hu, ← hl.heads, ← hl.want, ← hl.blocks, ← hl.votes, ← hl.cuts, ← hl.certs]
                  first
                    | exact .inl (‹_›)
                    | exact .inr (.inl (‹_›))
                    | exact .inr (.inr (.inl (‹_›)))
                    | exact .inr (.inr (.inr (.inl (‹_›))))
                    | exact .inr (.inr (.inr (.inr (.inl (‹_›)))))
                    | exact .inr (.inr (.inr (.inr (.inr (.inl (‹_›))))))
                    | exact .inr (.inr (.inr (.inr (.inr (.inr (.inl (‹_›)))))))
                    | exact .inr (.inr (.inr (.inr (.inr (.inr (.inr (.inl (‹_›))))))))
                    | exact .inr (.inr (.inr (.inr (.inr (.inr (.inr (.inr (.inl (‹_›)))))))))
                    | exact .inr (.inr (.inr (.inr (.inr (.inr (.inr (.inr (.inr (.inl (⟨‹_›, ‹_›, ‹_›⟩))))))))))
                    | exact .inr (.inr (.inr (.inr (.inr (.inr (.inr (.inr (.inr (.inl (⟨by omega, by omega, by omega⟩))))))))))
                    | exact .inr (.inr (.inr (.inr (.inr (.inr (.inr (.inr (.inr (.inr (.inl (‹_›)))))))))))
                    | exact .inr (.inr (.inr (.inr (.inr (.inr (.inr (.inr (.inr (.inr (.inr (.inl (‹_›))))))))))))
                    | exact .inr (.inr (.inr (.inr (.inr (.inr (.inr (.inr (.inr (.inr (.inr (.inr (.inl (‹_›)))))))))))))
                    | exact .inr (.inr (.inr (.inr (.inr (.inr (.inr (.inr (.inr (.inr (.inr (.inr (.inr (‹_›)))))))))))))
                    | exact .inr (.inr (.inr (.inr (.inr (.inr (.inr (.inr (.inr (.inr (.inl (fun e => Bool.noConfusion (hs8_2.symm.trans e))))))))))))
                    | exact .inr (.inr (.inr (.inr (.inr (.inr (.inr (.inr (.inr (.inr (.inr (.inl (fun e => Bool.noConfusion (hs8_7.symm.trans e)))))))))))))
                    | exact .inr (.inr (.inr (.inr (.inr (.inr (.inr (.inr (.inr (.inr (.inr (.inr (.inl (fun e => Bool.noConfusion (hs8_13.symm.trans e)))))))))))))))).symm
              | exact congrArg i64 (msg_good (by
                  simp only [DMsg.bad, ← eK, ← eH, ← hu, ← hl.heads, ← hl.want, ← hl.blocks, ← hl.votes, ← hl.cuts, ← hl.certs]
                  rintro (h | h | h | h | h | h | h | h | h | h | h | h | h | h)
                  all_goals first | exact h ‹_› | omega | (simp_all; done))).symm
          ·
            first | have hs4_8 := of_decide_eq_true hs4_80 | have hs4_8 := of_decide_eq_false hs4_80 | have hs4_8 := nd_t hs4_80 | have hs4_8 := nd_f hs4_80 | have hs4_8 := hs4_80
            refine Tr.pick rfl rfl rfl rfl rfl rfl ?_
            refine Tr.move rfl rfl rfl ?_
            refine Tr.fld rfl rfl rfl Try.underlying49 rfl Sz34 (by decide) _ rfl ?_
            refine Tr.load1 rfl rfl rfl Try.underlying34 rfl (by first | exact mem0 | exact mem1 | exact mem2 | exact mem3 | exact mem4 | exact mem5 | exact mem6 | exact mem7 | (repeat (first | exact List.mem_cons_self | refine List.mem_cons_of_mem _ ?_ | refine mem_seg ?_))) (by first | exact Msg.get_fBlocks (by first | assumption | (simp; done) | exact Block.zero_ok | exact Vote.zero_ok | exact Reader.zero_ok | exact Cut.zero_ok | exact Cert.zero_ok | exact Msg.zero_ok | exact Inbox.zero_ok | exact Record.zero_ok | exact Kept.zero_ok  | exact hok) | exact (by first | rfl | exact get_words (by first | omega | (simp; done) | (simp; omega)) | exact get_bytes (by first | omega | (simp; done) | (simp; omega)) | exact get_ints (by first | omega | (simp; done) | (simp; omega)))) ?_
            refine Tr.lenSl rfl rfl rfl Try.underlying34 ?_
            refine two (fun r hr k => Tr.gtr rfl rfl rfl rfl hr k) (fun hs4_140 => ?_) (fun hs4_140 => ?_)
            ·
              first | have hs4_14 := of_decide_eq_true hs4_140 | have hs4_14 := of_decide_eq_false hs4_140 | have hs4_14 := nd_t hs4_140 | have hs4_14 := nd_f hs4_140 | have hs4_14 := hs4_140
              refine Tr.pick rfl rfl rfl rfl rfl rfl ?_
              refine Tr.move rfl rfl rfl ?_
              refine Tr.skp rfl rfl ?_
              refine Tr.skp rfl rfl ?_
              refine Tr.skp rfl rfl ?_
              refine Tr.skp rfl rfl ?_
              refine Tr.pick rfl rfl rfl rfl rfl rfl ?_
              refine Tr.move rfl rfl rfl ?_
              refine Tr.skp rfl rfl ?_
              refine Tr.skp rfl rfl ?_
              refine Tr.skp rfl rfl ?_
              refine Tr.skp rfl rfl ?_
              refine Tr.pick rfl rfl rfl rfl rfl rfl ?_
              refine Tr.move rfl rfl rfl ?_
              refine Tr.skp rfl rfl ?_
              refine Tr.skp rfl rfl ?_
              refine Tr.skp rfl rfl ?_
              refine Tr.skp rfl rfl ?_
              refine Tr.pick rfl rfl rfl rfl rfl rfl ?_
              refine Tr.nil ?_
              refine at_n ?_
              refine Sat.cond_t rfl rfl ?_
              refine Sat.seq ?_
              -- region 5
              refine Sat.region ?_
              refine Tr.assign rfl rfl rfl ?_
              refine Tr.nil ?_
              refine at_n ?_
              refine Sat.ret ?_
              refine at_r ?_
              refine en_r ?_
              refine ⟨_, [], res_tmp rfl rfl, (by simp), (by simp), ?_, rfl⟩
              first
                | exact congrArg i64 (msg_bad (by
                    simp only [DMsg.bad, ← eK, ← eH, ← hu, ← hl.heads, ← hl.want, ← hl.blocks, ← hl.votes, ← hl.cuts, ← hl.certs]
                    first
                      | exact .inl (‹_›)
                      | exact .inr (.inl (‹_›))
                      | exact .inr (.inr (.inl (‹_›)))
                      | exact .inr (.inr (.inr (.inl (‹_›))))
                      | exact .inr (.inr (.inr (.inr (.inl (‹_›)))))
                      | exact .inr (.inr (.inr (.inr (.inr (.inl (‹_›))))))
                      | exact .inr (.inr (.inr (.inr (.inr (.inr (.inl (‹_›)))))))
                      | exact .inr (.inr (.inr (.inr (.inr (.inr (.inr (.inl (‹_›))))))))
                      | exact .inr (.inr (.inr (.inr (.inr (.inr (.inr (.inr (.inl (‹_›)))))))))
                      | exact .inr (.inr (.inr (.inr (.inr (.inr (.inr (.inr (.inr (.inl (⟨‹_›, ‹_›, ‹_›⟩))))))))))
                      | exact .inr (.inr (.inr (.inr (.inr (.inr (.inr (.inr (.inr (.inl (⟨by omega, by omega, by omega⟩))))))))))
                      | exact .inr (.inr (.inr (.inr (.inr (.inr (.inr (.inr (.inr (.inr (.inl (‹_›)))))))))))
                      | exact .inr (.inr (.inr (.inr (.inr (.inr (.inr (.inr (.inr (.inr (.inr (.inl (‹_›))))))))))))
                      | exact .inr (.inr (.inr (.inr (.inr (.inr (.inr (.inr (.inr (.inr (.inr (.inr (.inl (‹_›)))))))))))))
                      | exact .inr (.inr (.inr (.inr (.inr (.inr (.inr (.inr (.inr (.inr (.inr (.inr (.inr (‹_›)))))))))))))
                      | exact .inr (.inr (.inr (.inr (.inr (.inr (.inr (.inr (.inr (.inr (.inl (fun e => Bool.noConfusion (hs8_2.symm.trans e))))))))))))
                      | exact .inr (.inr (.inr (.inr (.inr (.inr (.inr (.inr (.inr (.inr (.inr (.inl (fun e => Bool.noConfusion (hs8_7.symm.trans e)))))))))))))
                      | exact .inr (.inr (.inr (.inr (.inr (.inr (.inr (.inr (.inr (.inr (.inr (.inr (.inl (fun e => Bool.noConfusion (hs8_13.symm.trans e)))))))))))))))).symm
                | exact congrArg i64 (msg_good (by
                    simp only [DMsg.bad, ← eK, ← eH, ← hu, ← hl.heads, ← hl.want, ← hl.blocks, ← hl.votes, ← hl.cuts, ← hl.certs]
                    rintro (h | h | h | h | h | h | h | h | h | h | h | h | h | h)
                    all_goals first | exact h ‹_› | omega | (simp_all; done))).symm
            ·
              first | have hs4_14 := of_decide_eq_true hs4_140 | have hs4_14 := of_decide_eq_false hs4_140 | have hs4_14 := nd_t hs4_140 | have hs4_14 := nd_f hs4_140 | have hs4_14 := hs4_140
              refine Tr.pick rfl rfl rfl rfl rfl rfl ?_
              refine Tr.move rfl rfl rfl ?_
              refine Tr.fld rfl rfl rfl Try.underlying49 rfl Sz45 (by decide) _ rfl ?_
              refine Tr.load1 rfl rfl rfl Try.underlying45 rfl (by first | exact mem0 | exact mem1 | exact mem2 | exact mem3 | exact mem4 | exact mem5 | exact mem6 | exact mem7 | (repeat (first | exact List.mem_cons_self | refine List.mem_cons_of_mem _ ?_ | refine mem_seg ?_))) (by first | exact Msg.get_fVotes (by first | assumption | (simp; done) | exact Block.zero_ok | exact Vote.zero_ok | exact Reader.zero_ok | exact Cut.zero_ok | exact Cert.zero_ok | exact Msg.zero_ok | exact Inbox.zero_ok | exact Record.zero_ok | exact Kept.zero_ok  | exact hok) | exact (by first | rfl | exact get_words (by first | omega | (simp; done) | (simp; omega)) | exact get_bytes (by first | omega | (simp; done) | (simp; omega)) | exact get_ints (by first | omega | (simp; done) | (simp; omega)))) ?_
              refine Tr.lenSl rfl rfl rfl Try.underlying45 ?_
              refine two (fun r hr k => Tr.gtr rfl rfl rfl rfl hr k) (fun hs4_200 => ?_) (fun hs4_200 => ?_)
              ·
                first | have hs4_20 := of_decide_eq_true hs4_200 | have hs4_20 := of_decide_eq_false hs4_200 | have hs4_20 := nd_t hs4_200 | have hs4_20 := nd_f hs4_200 | have hs4_20 := hs4_200
                refine Tr.pick rfl rfl rfl rfl rfl rfl ?_
                refine Tr.move rfl rfl rfl ?_
                refine Tr.skp rfl rfl ?_
                refine Tr.skp rfl rfl ?_
                refine Tr.skp rfl rfl ?_
                refine Tr.skp rfl rfl ?_
                refine Tr.pick rfl rfl rfl rfl rfl rfl ?_
                refine Tr.move rfl rfl rfl ?_
                refine Tr.skp rfl rfl ?_
                refine Tr.skp rfl rfl ?_
                refine Tr.skp rfl rfl ?_
                refine Tr.skp rfl rfl ?_
                refine Tr.pick rfl rfl rfl rfl rfl rfl ?_
                refine Tr.nil ?_
                refine at_n ?_
                refine Sat.cond_t rfl rfl ?_
                refine Sat.seq ?_
                -- region 5
                refine Sat.region ?_
                refine Tr.assign rfl rfl rfl ?_
                refine Tr.nil ?_
                refine at_n ?_
                refine Sat.ret ?_
                refine at_r ?_
                refine en_r ?_
                refine ⟨_, [], res_tmp rfl rfl, (by simp), (by simp), ?_, rfl⟩
                first
                  | exact congrArg i64 (msg_bad (by
                      simp only [DMsg.bad, ← eK, ← eH, ← hu, ← hl.heads, ← hl.want, ← hl.blocks, ← hl.votes, ← hl.cuts, ← hl.certs]
                      first
                        | exact .inl (‹_›)
                        | exact .inr (.inl (‹_›))
                        | exact .inr (.inr (.inl (‹_›)))
                        | exact .inr (.inr (.inr (.inl (‹_›))))
                        | exact .inr (.inr (.inr (.inr (.inl (‹_›)))))
                        | exact .inr (.inr (.inr (.inr (.inr (.inl (‹_›))))))
                        | exact .inr (.inr (.inr (.inr (.inr (.inr (.inl (‹_›)))))))
                        | exact .inr (.inr (.inr (.inr (.inr (.inr (.inr (.inl (‹_›))))))))
                        | exact .inr (.inr (.inr (.inr (.inr (.inr (.inr (.inr (.inl (‹_›)))))))))
                        | exact .inr (.inr (.inr (.inr (.inr (.inr (.inr (.inr (.inr (.inl (⟨‹_›, ‹_›, ‹_›⟩))))))))))
                        | exact .inr (.inr (.inr (.inr (.inr (.inr (.inr (.inr (.inr (.inl (⟨by omega, by omega, by omega⟩))))))))))
                        | exact .inr (.inr (.inr (.inr (.inr (.inr (.inr (.inr (.inr (.inr (.inl (‹_›)))))))))))
                        | exact .inr (.inr (.inr (.inr (.inr (.inr (.inr (.inr (.inr (.inr (.inr (.inl (‹_›))))))))))))
                        | exact .inr (.inr (.inr (.inr (.inr (.inr (.inr (.inr (.inr (.inr (.inr (.inr (.inl (‹_›)))))))))))))
                        | exact .inr (.inr (.inr (.inr (.inr (.inr (.inr (.inr (.inr (.inr (.inr (.inr (.inr (‹_›)))))))))))))
                        | exact .inr (.inr (.inr (.inr (.inr (.inr (.inr (.inr (.inr (.inr (.inl (fun e => Bool.noConfusion (hs8_2.symm.trans e))))))))))))
                        | exact .inr (.inr (.inr (.inr (.inr (.inr (.inr (.inr (.inr (.inr (.inr (.inl (fun e => Bool.noConfusion (hs8_7.symm.trans e)))))))))))))
                        | exact .inr (.inr (.inr (.inr (.inr (.inr (.inr (.inr (.inr (.inr (.inr (.inr (.inl (fun e => Bool.noConfusion (hs8_13.symm.trans e)))))))))))))))).symm
                  | exact congrArg i64 (msg_good (by
                      simp only [DMsg.bad, ← eK, ← eH, ← hu, ← hl.heads, ← hl.want, ← hl.blocks, ← hl.votes, ← hl.cuts, ← hl.certs]
                      rintro (h | h | h | h | h | h | h | h | h | h | h | h | h | h)
                      all_goals first | exact h ‹_› | omega | (simp_all; done))).symm
              ·
                first | have hs4_20 := of_decide_eq_true hs4_200 | have hs4_20 := of_decide_eq_false hs4_200 | have hs4_20 := nd_t hs4_200 | have hs4_20 := nd_f hs4_200 | have hs4_20 := hs4_200
                refine Tr.pick rfl rfl rfl rfl rfl rfl ?_
                refine Tr.move rfl rfl rfl ?_
                refine Tr.fld rfl rfl rfl Try.underlying49 rfl Sz46 (by decide) _ rfl ?_
                refine Tr.load1 rfl rfl rfl Try.underlying46 rfl (by first | exact mem0 | exact mem1 | exact mem2 | exact mem3 | exact mem4 | exact mem5 | exact mem6 | exact mem7 | (repeat (first | exact List.mem_cons_self | refine List.mem_cons_of_mem _ ?_ | refine mem_seg ?_))) (by first | exact Msg.get_fCuts (by first | assumption | (simp; done) | exact Block.zero_ok | exact Vote.zero_ok | exact Reader.zero_ok | exact Cut.zero_ok | exact Cert.zero_ok | exact Msg.zero_ok | exact Inbox.zero_ok | exact Record.zero_ok | exact Kept.zero_ok  | exact hok) | exact (by first | rfl | exact get_words (by first | omega | (simp; done) | (simp; omega)) | exact get_bytes (by first | omega | (simp; done) | (simp; omega)) | exact get_ints (by first | omega | (simp; done) | (simp; omega)))) ?_
                refine Tr.lenSl rfl rfl rfl Try.underlying46 ?_
                refine two (fun r hr k => Tr.gtr rfl rfl rfl rfl hr k) (fun hs4_260 => ?_) (fun hs4_260 => ?_)
                ·
                  first | have hs4_26 := of_decide_eq_true hs4_260 | have hs4_26 := of_decide_eq_false hs4_260 | have hs4_26 := nd_t hs4_260 | have hs4_26 := nd_f hs4_260 | have hs4_26 := hs4_260
                  refine Tr.pick rfl rfl rfl rfl rfl rfl ?_
                  refine Tr.move rfl rfl rfl ?_
                  refine Tr.skp rfl rfl ?_
                  refine Tr.skp rfl rfl ?_
                  refine Tr.skp rfl rfl ?_
                  refine Tr.skp rfl rfl ?_
                  refine Tr.pick rfl rfl rfl rfl rfl rfl ?_
                  refine Tr.nil ?_
                  refine at_n ?_
                  refine Sat.cond_t rfl rfl ?_
                  refine Sat.seq ?_
                  -- region 5
                  refine Sat.region ?_
                  refine Tr.assign rfl rfl rfl ?_
                  refine Tr.nil ?_
                  refine at_n ?_
                  refine Sat.ret ?_
                  refine at_r ?_
                  refine en_r ?_
                  refine ⟨_, [], res_tmp rfl rfl, (by simp), (by simp), ?_, rfl⟩
                  first
                    | exact congrArg i64 (msg_bad (by
                        simp only [DMsg.bad, ← eK, ← eH, ← hu, ← hl.heads, ← hl.want, ← hl.blocks, ← hl.votes, ← hl.cuts, ← hl.certs]
                        first
                          | exact .inl (‹_›)
                          | exact .inr (.inl (‹_›))
                          | exact .inr (.inr (.inl (‹_›)))
                          | exact .inr (.inr (.inr (.inl (‹_›))))
                          | exact .inr (.inr (.inr (.inr (.inl (‹_›)))))
                          | exact .inr (.inr (.inr (.inr (.inr (.inl (‹_›))))))
                          | exact .inr (.inr (.inr (.inr (.inr (.inr (.inl (‹_›)))))))
                          | exact .inr (.inr (.inr (.inr (.inr (.inr (.inr (.inl (‹_›))))))))
                          | exact .inr (.inr (.inr (.inr (.inr (.inr (.inr (.inr (.inl (‹_›)))))))))
                          | exact .inr (.inr (.inr (.inr (.inr (.inr (.inr (.inr (.inr (.inl (⟨‹_›, ‹_›, ‹_›⟩))))))))))
                          | exact .inr (.inr (.inr (.inr (.inr (.inr (.inr (.inr (.inr (.inl (⟨by omega, by omega, by omega⟩))))))))))
                          | exact .inr (.inr (.inr (.inr (.inr (.inr (.inr (.inr (.inr (.inr (.inl (‹_›)))))))))))
                          | exact .inr (.inr (.inr (.inr (.inr (.inr (.inr (.inr (.inr (.inr (.inr (.inl (‹_›))))))))))))
                          | exact .inr (.inr (.inr (.inr (.inr (.inr (.inr (.inr (.inr (.inr (.inr (.inr (.inl (‹_›)))))))))))))
                          | exact .inr (.inr (.inr (.inr (.inr (.inr (.inr (.inr (.inr (.inr (.inr (.inr (.inr (‹_›)))))))))))))
                          | exact .inr (.inr (.inr (.inr (.inr (.inr (.inr (.inr (.inr (.inr (.inl (fun e => Bool.noConfusion (hs8_2.symm.trans e))))))))))))
                          | exact .inr (.inr (.inr (.inr (.inr (.inr (.inr (.inr (.inr (.inr (.inr (.inl (fun e => Bool.noConfusion (hs8_7.symm.trans e)))))))))))))
                          | exact .inr (.inr (.inr (.inr (.inr (.inr (.inr (.inr (.inr (.inr (.inr (.inr (.inl (fun e => Bool.noConfusion (hs8_13.symm.trans e)))))))))))))))).symm
                    | exact congrArg i64 (msg_good (by
                        simp only [DMsg.bad, ← eK, ← eH, ← hu, ← hl.heads, ← hl.want, ← hl.blocks, ← hl.votes, ← hl.cuts, ← hl.certs]
                        rintro (h | h | h | h | h | h | h | h | h | h | h | h | h | h)
                        all_goals first | exact h ‹_› | omega | (simp_all; done))).symm
                ·
                  first | have hs4_26 := of_decide_eq_true hs4_260 | have hs4_26 := of_decide_eq_false hs4_260 | have hs4_26 := nd_t hs4_260 | have hs4_26 := nd_f hs4_260 | have hs4_26 := hs4_260
                  refine Tr.pick rfl rfl rfl rfl rfl rfl ?_
                  refine Tr.move rfl rfl rfl ?_
                  refine Tr.fld rfl rfl rfl Try.underlying49 rfl Sz47 (by decide) _ rfl ?_
                  refine Tr.load1 rfl rfl rfl Try.underlying47 rfl (by first | exact mem0 | exact mem1 | exact mem2 | exact mem3 | exact mem4 | exact mem5 | exact mem6 | exact mem7 | (repeat (first | exact List.mem_cons_self | refine List.mem_cons_of_mem _ ?_ | refine mem_seg ?_))) (by first | exact Msg.get_fCerts (by first | assumption | (simp; done) | exact Block.zero_ok | exact Vote.zero_ok | exact Reader.zero_ok | exact Cut.zero_ok | exact Cert.zero_ok | exact Msg.zero_ok | exact Inbox.zero_ok | exact Record.zero_ok | exact Kept.zero_ok  | exact hok) | exact (by first | rfl | exact get_words (by first | omega | (simp; done) | (simp; omega)) | exact get_bytes (by first | omega | (simp; done) | (simp; omega)) | exact get_ints (by first | omega | (simp; done) | (simp; omega)))) ?_
                  refine Tr.lenSl rfl rfl rfl Try.underlying47 ?_
                  refine Tr.gtr rfl rfl rfl rfl rfl ?_
                  refine Tr.pick rfl rfl rfl rfl rfl rfl ?_
                  refine Tr.nil ?_
                  refine at_n ?_
                  first
                    | refine Sat.condP rfl (fun hc1 => ?_) (fun hc1 => ?_)
                    | refine Sat.condNP rfl (fun hc1 => ?_) (fun hc1 => ?_)
                    | refine Sat.cond rfl (fun hc1 => ?_) (fun hc1 => ?_)
                  ·
                    refine Sat.seq ?_
                    -- region 5
                    refine Sat.region ?_
                    refine Tr.assign rfl rfl rfl ?_
                    refine Tr.nil ?_
                    refine at_n ?_
                    refine Sat.ret ?_
                    refine at_r ?_
                    refine en_r ?_
                    refine ⟨_, [], res_tmp rfl rfl, (by simp), (by simp), ?_, rfl⟩
                    first
                      | exact congrArg i64 (msg_bad (by
                          simp only [DMsg.bad, ← eK, ← eH, ← hu, ← hl.heads, ← hl.want, ← hl.blocks, ← hl.votes, ← hl.cuts, ← hl.certs]
                          first
                            | exact .inl (‹_›)
                            | exact .inr (.inl (‹_›))
                            | exact .inr (.inr (.inl (‹_›)))
                            | exact .inr (.inr (.inr (.inl (‹_›))))
                            | exact .inr (.inr (.inr (.inr (.inl (‹_›)))))
                            | exact .inr (.inr (.inr (.inr (.inr (.inl (‹_›))))))
                            | exact .inr (.inr (.inr (.inr (.inr (.inr (.inl (‹_›)))))))
                            | exact .inr (.inr (.inr (.inr (.inr (.inr (.inr (.inl (‹_›))))))))
                            | exact .inr (.inr (.inr (.inr (.inr (.inr (.inr (.inr (.inl (‹_›)))))))))
                            | exact .inr (.inr (.inr (.inr (.inr (.inr (.inr (.inr (.inr (.inl (⟨‹_›, ‹_›, ‹_›⟩))))))))))
                            | exact .inr (.inr (.inr (.inr (.inr (.inr (.inr (.inr (.inr (.inl (⟨by omega, by omega, by omega⟩))))))))))
                            | exact .inr (.inr (.inr (.inr (.inr (.inr (.inr (.inr (.inr (.inr (.inl (‹_›)))))))))))
                            | exact .inr (.inr (.inr (.inr (.inr (.inr (.inr (.inr (.inr (.inr (.inr (.inl (‹_›))))))))))))
                            | exact .inr (.inr (.inr (.inr (.inr (.inr (.inr (.inr (.inr (.inr (.inr (.inr (.inl (‹_›)))))))))))))
                            | exact .inr (.inr (.inr (.inr (.inr (.inr (.inr (.inr (.inr (.inr (.inr (.inr (.inr (‹_›)))))))))))))
                            | exact .inr (.inr (.inr (.inr (.inr (.inr (.inr (.inr (.inr (.inr (.inl (fun e => Bool.noConfusion (hs8_2.symm.trans e))))))))))))
                            | exact .inr (.inr (.inr (.inr (.inr (.inr (.inr (.inr (.inr (.inr (.inr (.inl (fun e => Bool.noConfusion (hs8_7.symm.trans e)))))))))))))
                            | exact .inr (.inr (.inr (.inr (.inr (.inr (.inr (.inr (.inr (.inr (.inr (.inr (.inl (fun e => Bool.noConfusion (hs8_13.symm.trans e)))))))))))))))).symm
                      | exact congrArg i64 (msg_good (by
                          simp only [DMsg.bad, ← eK, ← eH, ← hu, ← hl.heads, ← hl.want, ← hl.blocks, ← hl.votes, ← hl.cuts, ← hl.certs]
                          rintro (h | h | h | h | h | h | h | h | h | h | h | h | h | h)
                          all_goals first | exact h ‹_› | omega | (simp_all; done))).symm
                  ·
                    refine Sat.skip ?_
                    refine at_n ?_
                    refine Sat.seq ?_
                    refine Sat.seq ?_
                    -- region 6
                    refine Sat.region ?_
                    refine Tr.fld rfl rfl rfl Try.underlying49 rfl Sz3 (by decide) _ rfl ?_
                    refine Tr.load1 rfl rfl rfl Try.underlying3 rfl (by first | exact mem0 | exact mem1 | exact mem2 | exact mem3 | exact mem4 | exact mem5 | exact mem6 | exact mem7 | (repeat (first | exact List.mem_cons_self | refine List.mem_cons_of_mem _ ?_ | refine mem_seg ?_))) (by first | exact Msg.get_fKind (by first | assumption | (simp; done) | exact Block.zero_ok | exact Vote.zero_ok | exact Reader.zero_ok | exact Cut.zero_ok | exact Cert.zero_ok | exact Msg.zero_ok | exact Inbox.zero_ok | exact Record.zero_ok | exact Kept.zero_ok  | exact hok) | exact (by first | rfl | exact get_words (by first | omega | (simp; done) | (simp; omega)) | exact get_bytes (by first | omega | (simp; done) | (simp; omega)) | exact get_ints (by first | omega | (simp; done) | (simp; omega)))) ?_
                    refine two (fun r hr k => Tr.nei rfl rfl rfl rfl hr k) (fun hs6_20 => ?_) (fun hs6_20 => ?_)
                    ·
                      first | have hs6_2 := of_decide_eq_true hs6_20 | have hs6_2 := of_decide_eq_false hs6_20 | have hs6_2 := nd_t hs6_20 | have hs6_2 := nd_f hs6_20 | have hs6_2 := hs6_20
                      refine Tr.move rfl rfl rfl ?_
                      refine Tr.fld rfl rfl rfl Try.underlying49 rfl Sz3 (by decide) _ rfl ?_
                      refine Tr.load1 rfl rfl rfl Try.underlying3 rfl (by first | exact mem0 | exact mem1 | exact mem2 | exact mem3 | exact mem4 | exact mem5 | exact mem6 | exact mem7 | (repeat (first | exact List.mem_cons_self | refine List.mem_cons_of_mem _ ?_ | refine mem_seg ?_))) (by first | exact Msg.get_fKind (by first | assumption | (simp; done) | exact Block.zero_ok | exact Vote.zero_ok | exact Reader.zero_ok | exact Cut.zero_ok | exact Cert.zero_ok | exact Msg.zero_ok | exact Inbox.zero_ok | exact Record.zero_ok | exact Kept.zero_ok  | exact hok) | exact (by first | rfl | exact get_words (by first | omega | (simp; done) | (simp; omega)) | exact get_bytes (by first | omega | (simp; done) | (simp; omega)) | exact get_ints (by first | omega | (simp; done) | (simp; omega)))) ?_
                      refine two (fun r hr k => Tr.nei rfl rfl rfl rfl hr k) (fun hs6_60 => ?_) (fun hs6_60 => ?_)
                      ·
                        first | have hs6_6 := of_decide_eq_true hs6_60 | have hs6_6 := of_decide_eq_false hs6_60 | have hs6_6 := nd_t hs6_60 | have hs6_6 := nd_f hs6_60 | have hs6_6 := hs6_60
                        refine Tr.pick rfl rfl rfl rfl rfl rfl ?_
                        refine Tr.move rfl rfl rfl ?_
                        refine Tr.loadAll rfl rfl rfl Try.underlying49 rfl Sz49 (by first | exact mem0 | exact mem1 | exact mem2 | exact mem3 | exact mem4 | exact mem5 | exact mem6 | exact mem7 | (repeat (first | exact List.mem_cons_self | refine List.mem_cons_of_mem _ ?_ | refine mem_seg ?_))) (Msg.length (by first | assumption | (simp; done) | exact Block.zero_ok | exact Vote.zero_ok | exact Reader.zero_ok | exact Cut.zero_ok | exact Cert.zero_ok | exact Msg.zero_ok | exact Inbox.zero_ok | exact Record.zero_ok | exact Kept.zero_ok  | exact hok)) ?_
                        refine Tr.callV rfl rfl rfl rfl Body51 (sync_used m hok) (fun _ _ => trivial) ?_
                        refine Tr.eqi rfl rfl rfl rfl rfl ?_
                        refine Tr.pick rfl rfl rfl rfl rfl rfl ?_
                        refine Tr.nil ?_
                        refine at_n ?_
                        first
                          | refine Sat.condP rfl (fun hc2 => ?_) (fun hc2 => ?_)
                          | refine Sat.condNP rfl (fun hc2 => ?_) (fun hc2 => ?_)
                          | refine Sat.cond rfl (fun hc2 => ?_) (fun hc2 => ?_)
                        ·
                          refine Sat.seq ?_
                          -- region 7
                          refine Sat.region ?_
                          refine Tr.assign rfl rfl rfl ?_
                          refine Tr.nil ?_
                          refine at_n ?_
                          refine Sat.ret ?_
                          refine at_r ?_
                          refine en_r ?_
                          refine ⟨_, [], res_tmp rfl rfl, (by simp), (by simp), ?_, rfl⟩
                          first
                            | exact congrArg i64 (msg_bad (by
                                simp only [DMsg.bad, ← eK, ← eH, ← hu, ← hl.heads, ← hl.want, ← hl.blocks, ← hl.votes, ← hl.cuts, ← hl.certs]
                                first
                                  | exact .inl (‹_›)
                                  | exact .inr (.inl (‹_›))
                                  | exact .inr (.inr (.inl (‹_›)))
                                  | exact .inr (.inr (.inr (.inl (‹_›))))
                                  | exact .inr (.inr (.inr (.inr (.inl (‹_›)))))
                                  | exact .inr (.inr (.inr (.inr (.inr (.inl (‹_›))))))
                                  | exact .inr (.inr (.inr (.inr (.inr (.inr (.inl (‹_›)))))))
                                  | exact .inr (.inr (.inr (.inr (.inr (.inr (.inr (.inl (‹_›))))))))
                                  | exact .inr (.inr (.inr (.inr (.inr (.inr (.inr (.inr (.inl (‹_›)))))))))
                                  | exact .inr (.inr (.inr (.inr (.inr (.inr (.inr (.inr (.inr (.inl (⟨‹_›, ‹_›, ‹_›⟩))))))))))
                                  | exact .inr (.inr (.inr (.inr (.inr (.inr (.inr (.inr (.inr (.inl (⟨by omega, by omega, by omega⟩))))))))))
                                  | exact .inr (.inr (.inr (.inr (.inr (.inr (.inr (.inr (.inr (.inr (.inl (‹_›)))))))))))
                                  | exact .inr (.inr (.inr (.inr (.inr (.inr (.inr (.inr (.inr (.inr (.inr (.inl (‹_›))))))))))))
                                  | exact .inr (.inr (.inr (.inr (.inr (.inr (.inr (.inr (.inr (.inr (.inr (.inr (.inl (‹_›)))))))))))))
                                  | exact .inr (.inr (.inr (.inr (.inr (.inr (.inr (.inr (.inr (.inr (.inr (.inr (.inr (‹_›)))))))))))))
                                  | exact .inr (.inr (.inr (.inr (.inr (.inr (.inr (.inr (.inr (.inr (.inl (fun e => Bool.noConfusion (hs8_2.symm.trans e))))))))))))
                                  | exact .inr (.inr (.inr (.inr (.inr (.inr (.inr (.inr (.inr (.inr (.inr (.inl (fun e => Bool.noConfusion (hs8_7.symm.trans e)))))))))))))
                                  | exact .inr (.inr (.inr (.inr (.inr (.inr (.inr (.inr (.inr (.inr (.inr (.inr (.inl (fun e => Bool.noConfusion (hs8_13.symm.trans e)))))))))))))))).symm
                            | exact congrArg i64 (msg_good (by
                                simp only [DMsg.bad, ← eK, ← eH, ← hu, ← hl.heads, ← hl.want, ← hl.blocks, ← hl.votes, ← hl.cuts, ← hl.certs]
                                rintro (h | h | h | h | h | h | h | h | h | h | h | h | h | h)
                                all_goals first | exact h ‹_› | omega | (simp_all; done))).symm
                        ·
                          refine Sat.skip ?_
                          refine at_n ?_
                          refine Sat.seq ?_
                          refine Sat.seq ?_
                          -- region 8
                          refine Sat.region ?_
                          refine Tr.fld rfl rfl rfl Try.underlying49 rfl Sz34 (by decide) _ rfl ?_
                          refine Tr.load1 rfl rfl rfl Try.underlying34 rfl (by first | exact mem0 | exact mem1 | exact mem2 | exact mem3 | exact mem4 | exact mem5 | exact mem6 | exact mem7 | (repeat (first | exact List.mem_cons_self | refine List.mem_cons_of_mem _ ?_ | refine mem_seg ?_))) (by first | exact Msg.get_fBlocks (by first | assumption | (simp; done) | exact Block.zero_ok | exact Vote.zero_ok | exact Reader.zero_ok | exact Cut.zero_ok | exact Cert.zero_ok | exact Msg.zero_ok | exact Inbox.zero_ok | exact Record.zero_ok | exact Kept.zero_ok  | exact hok) | exact (by first | rfl | exact get_words (by first | omega | (simp; done) | (simp; omega)) | exact get_bytes (by first | omega | (simp; done) | (simp; omega)) | exact get_ints (by first | omega | (simp; done) | (simp; omega)))) ?_
                          refine Tr.callB rfl rfl rfl rfl Body52 (all_block m.fBlocks D.dBlocks) (fun w h => Blocks_ext h rfl hW.fBlocks) (fun hs8_20 => ?_) (fun hs8_20 => ?_)
                          ·
                            first | have hs8_2 := of_decide_eq_true hs8_20 | have hs8_2 := of_decide_eq_false hs8_20 | have hs8_2 := nd_t hs8_20 | have hs8_2 := nd_f hs8_20 | have hs8_2 := hs8_20
                            refine Tr.not rfl rfl rfl ?_
                            refine Tr.move rfl rfl rfl ?_
                            refine Tr.fld rfl rfl rfl Try.underlying49 rfl Sz45 (by decide) _ rfl ?_
                            refine Tr.load1 rfl rfl rfl Try.underlying45 rfl (by first | exact mem0 | exact mem1 | exact mem2 | exact mem3 | exact mem4 | exact mem5 | exact mem6 | exact mem7 | (repeat (first | exact List.mem_cons_self | refine List.mem_cons_of_mem _ ?_ | refine mem_seg ?_))) (by first | exact Msg.get_fVotes (by first | assumption | (simp; done) | exact Block.zero_ok | exact Vote.zero_ok | exact Reader.zero_ok | exact Cut.zero_ok | exact Cert.zero_ok | exact Msg.zero_ok | exact Inbox.zero_ok | exact Record.zero_ok | exact Kept.zero_ok  | exact hok) | exact (by first | rfl | exact get_words (by first | omega | (simp; done) | (simp; omega)) | exact get_bytes (by first | omega | (simp; done) | (simp; omega)) | exact get_ints (by first | omega | (simp; done) | (simp; omega)))) ?_
                            refine Tr.callB rfl rfl rfl rfl Body53 (all_vote m.fVotes D.dVotes) (fun w h => Votes_ext h rfl hW.fVotes) (fun hs8_70 => ?_) (fun hs8_70 => ?_)
                            ·
                              first | have hs8_7 := of_decide_eq_true hs8_70 | have hs8_7 := of_decide_eq_false hs8_70 | have hs8_7 := nd_t hs8_70 | have hs8_7 := nd_f hs8_70 | have hs8_7 := hs8_70
                              refine Tr.not rfl rfl rfl ?_
                              refine Tr.pick rfl rfl rfl rfl rfl rfl ?_
                              refine Tr.move rfl rfl rfl ?_
                              refine Tr.fld rfl rfl rfl Try.underlying49 rfl Sz46 (by decide) _ rfl ?_
                              refine Tr.load1 rfl rfl rfl Try.underlying46 rfl (by first | exact mem0 | exact mem1 | exact mem2 | exact mem3 | exact mem4 | exact mem5 | exact mem6 | exact mem7 | (repeat (first | exact List.mem_cons_self | refine List.mem_cons_of_mem _ ?_ | refine mem_seg ?_))) (by first | exact Msg.get_fCuts (by first | assumption | (simp; done) | exact Block.zero_ok | exact Vote.zero_ok | exact Reader.zero_ok | exact Cut.zero_ok | exact Cert.zero_ok | exact Msg.zero_ok | exact Inbox.zero_ok | exact Record.zero_ok | exact Kept.zero_ok  | exact hok) | exact (by first | rfl | exact get_words (by first | omega | (simp; done) | (simp; omega)) | exact get_bytes (by first | omega | (simp; done) | (simp; omega)) | exact get_ints (by first | omega | (simp; done) | (simp; omega)))) ?_
                              refine Tr.callB rfl rfl rfl rfl Body55 (all_cut m.fCuts D.dCuts) (fun w h => Cuts_ext h rfl hW.fCuts) (fun hs8_130 => ?_) (fun hs8_130 => ?_)
                              ·
                                first | have hs8_13 := of_decide_eq_true hs8_130 | have hs8_13 := of_decide_eq_false hs8_130 | have hs8_13 := nd_t hs8_130 | have hs8_13 := nd_f hs8_130 | have hs8_13 := hs8_130
                                refine Tr.not rfl rfl rfl ?_
                                refine Tr.pick rfl rfl rfl rfl rfl rfl ?_
                                refine Tr.move rfl rfl rfl ?_
                                refine Tr.fld rfl rfl rfl Try.underlying49 rfl Sz47 (by decide) _ rfl ?_
                                refine Tr.load1 rfl rfl rfl Try.underlying47 rfl (by first | exact mem0 | exact mem1 | exact mem2 | exact mem3 | exact mem4 | exact mem5 | exact mem6 | exact mem7 | (repeat (first | exact List.mem_cons_self | refine List.mem_cons_of_mem _ ?_ | refine mem_seg ?_))) (by first | exact Msg.get_fCerts (by first | assumption | (simp; done) | exact Block.zero_ok | exact Vote.zero_ok | exact Reader.zero_ok | exact Cut.zero_ok | exact Cert.zero_ok | exact Msg.zero_ok | exact Inbox.zero_ok | exact Record.zero_ok | exact Kept.zero_ok  | exact hok) | exact (by first | rfl | exact get_words (by first | omega | (simp; done) | (simp; omega)) | exact get_bytes (by first | omega | (simp; done) | (simp; omega)) | exact get_ints (by first | omega | (simp; done) | (simp; omega)))) ?_
                                refine Tr.callV rfl rfl rfl rfl Body57 (all_cert m.fCerts D.dCerts) (fun w h => Certs_ext h rfl hW.fCerts) ?_
                                refine Tr.not rfl rfl rfl ?_
                                refine Tr.pick rfl rfl rfl rfl rfl rfl ?_
                                refine Tr.nil ?_
                                refine at_n ?_
                                first
                                  | refine Sat.condP rfl (fun hc3 => ?_) (fun hc3 => ?_)
                                  | refine Sat.condNP rfl (fun hc3 => ?_) (fun hc3 => ?_)
                                  | refine Sat.cond rfl (fun hc3 => ?_) (fun hc3 => ?_)
                                ·
                                  have hx3 : ¬ (D.dCerts.all fun d => decide (d.check = 0)) = true := fun e => by rw [e] at hc3; cases hc3
                                  refine Sat.seq ?_
                                  -- region 9
                                  refine Sat.region ?_
                                  refine Tr.assign rfl rfl rfl ?_
                                  refine Tr.nil ?_
                                  refine at_n ?_
                                  refine Sat.ret ?_
                                  refine at_r ?_
                                  refine en_r ?_
                                  refine ⟨_, [], res_tmp rfl rfl, (by simp), (by simp), ?_, rfl⟩
                                  first
                                    | exact congrArg i64 (msg_bad (by
                                        simp only [DMsg.bad, ← eK, ← eH, ← hu, ← hl.heads, ← hl.want, ← hl.blocks, ← hl.votes, ← hl.cuts, ← hl.certs]
                                        first
                                          | exact .inl (‹_›)
                                          | exact .inr (.inl (‹_›))
                                          | exact .inr (.inr (.inl (‹_›)))
                                          | exact .inr (.inr (.inr (.inl (‹_›))))
                                          | exact .inr (.inr (.inr (.inr (.inl (‹_›)))))
                                          | exact .inr (.inr (.inr (.inr (.inr (.inl (‹_›))))))
                                          | exact .inr (.inr (.inr (.inr (.inr (.inr (.inl (‹_›)))))))
                                          | exact .inr (.inr (.inr (.inr (.inr (.inr (.inr (.inl (‹_›))))))))
                                          | exact .inr (.inr (.inr (.inr (.inr (.inr (.inr (.inr (.inl (‹_›)))))))))
                                          | exact .inr (.inr (.inr (.inr (.inr (.inr (.inr (.inr (.inr (.inl (⟨‹_›, ‹_›, ‹_›⟩))))))))))
                                          | exact .inr (.inr (.inr (.inr (.inr (.inr (.inr (.inr (.inr (.inl (⟨by omega, by omega, by omega⟩))))))))))
                                          | exact .inr (.inr (.inr (.inr (.inr (.inr (.inr (.inr (.inr (.inr (.inl (‹_›)))))))))))
                                          | exact .inr (.inr (.inr (.inr (.inr (.inr (.inr (.inr (.inr (.inr (.inr (.inl (‹_›))))))))))))
                                          | exact .inr (.inr (.inr (.inr (.inr (.inr (.inr (.inr (.inr (.inr (.inr (.inr (.inl (‹_›)))))))))))))
                                          | exact .inr (.inr (.inr (.inr (.inr (.inr (.inr (.inr (.inr (.inr (.inr (.inr (.inr (‹_›)))))))))))))
                                          | exact .inr (.inr (.inr (.inr (.inr (.inr (.inr (.inr (.inr (.inr (.inl (fun e => Bool.noConfusion (hs8_2.symm.trans e))))))))))))
                                          | exact .inr (.inr (.inr (.inr (.inr (.inr (.inr (.inr (.inr (.inr (.inr (.inl (fun e => Bool.noConfusion (hs8_7.symm.trans e)))))))))))))
                                          | exact .inr (.inr (.inr (.inr (.inr (.inr (.inr (.inr (.inr (.inr (.inr (.inr (.inl (fun e => Bool.noConfusion (hs8_13.symm.trans e)))))))))))))))).symm
                                    | exact congrArg i64 (msg_good (by
                                        simp only [DMsg.bad, ← eK, ← eH, ← hu, ← hl.heads, ← hl.want, ← hl.blocks, ← hl.votes, ← hl.cuts, ← hl.certs]
                                        rintro (h | h | h | h | h | h | h | h | h | h | h | h | h | h)
                                        all_goals first | exact h ‹_› | omega | (simp_all; done))).symm
                                ·
                                  have hx4 : (D.dCerts.all fun d => decide (d.check = 0)) = true := by
                                    cases e : (D.dCerts.all fun d => decide (d.check = 0))
                                    · rw [e] at hc3; cases hc3
                                    · rfl
                                  refine Sat.skip ?_
                                  refine at_n ?_
                                  refine Sat.seq ?_
                                  -- region 10
                                  refine Sat.region ?_
                                  refine Tr.assign rfl rfl rfl ?_
                                  refine Tr.nil ?_
                                  refine at_n ?_
                                  refine Sat.ret ?_
                                  refine en_r ?_
                                  refine ⟨_, [], res_tmp rfl rfl, (by simp), (by simp), ?_, rfl⟩
                                  first
                                    | exact congrArg i64 (msg_bad (by
                                        simp only [DMsg.bad, ← eK, ← eH, ← hu, ← hl.heads, ← hl.want, ← hl.blocks, ← hl.votes, ← hl.cuts, ← hl.certs]
                                        first
                                          | exact .inl (‹_›)
                                          | exact .inr (.inl (‹_›))
                                          | exact .inr (.inr (.inl (‹_›)))
                                          | exact .inr (.inr (.inr (.inl (‹_›))))
                                          | exact .inr (.inr (.inr (.inr (.inl (‹_›)))))
                                          | exact .inr (.inr (.inr (.inr (.inr (.inl (‹_›))))))
                                          | exact .inr (.inr (.inr (.inr (.inr (.inr (.inl (‹_›)))))))
                                          | exact .inr (.inr (.inr (.inr (.inr (.inr (.inr (.inl (‹_›))))))))
                                          | exact .inr (.inr (.inr (.inr (.inr (.inr (.inr (.inr (.inl (‹_›)))))))))
                                          | exact .inr (.inr (.inr (.inr (.inr (.inr (.inr (.inr (.inr (.inl (⟨‹_›, ‹_›, ‹_›⟩))))))))))
                                          | exact .inr (.inr (.inr (.inr (.inr (.inr (.inr (.inr (.inr (.inl (⟨by omega, by omega, by omega⟩))))))))))
                                          | exact .inr (.inr (.inr (.inr (.inr (.inr (.inr (.inr (.inr (.inr (.inl (‹_›)))))))))))
                                          | exact .inr (.inr (.inr (.inr (.inr (.inr (.inr (.inr (.inr (.inr (.inr (.inl (‹_›))))))))))))
                                          | exact .inr (.inr (.inr (.inr (.inr (.inr (.inr (.inr (.inr (.inr (.inr (.inr (.inl (‹_›)))))))))))))
                                          | exact .inr (.inr (.inr (.inr (.inr (.inr (.inr (.inr (.inr (.inr (.inr (.inr (.inr (‹_›)))))))))))))
                                          | exact .inr (.inr (.inr (.inr (.inr (.inr (.inr (.inr (.inr (.inr (.inl (fun e => Bool.noConfusion (hs8_2.symm.trans e))))))))))))
                                          | exact .inr (.inr (.inr (.inr (.inr (.inr (.inr (.inr (.inr (.inr (.inr (.inl (fun e => Bool.noConfusion (hs8_7.symm.trans e)))))))))))))
                                          | exact .inr (.inr (.inr (.inr (.inr (.inr (.inr (.inr (.inr (.inr (.inr (.inr (.inl (fun e => Bool.noConfusion (hs8_13.symm.trans e)))))))))))))))).symm
                                    | exact congrArg i64 (msg_good (by
                                        simp only [DMsg.bad, ← eK, ← eH, ← hu, ← hl.heads, ← hl.want, ← hl.blocks, ← hl.votes, ← hl.cuts, ← hl.certs]
                                        rintro (h | h | h | h | h | h | h | h | h | h | h | h | h | h)
                                        all_goals first | exact h ‹_› | omega | (simp_all; done))).symm
                              ·
                                first | have hs8_13 := of_decide_eq_true hs8_130 | have hs8_13 := of_decide_eq_false hs8_130 | have hs8_13 := nd_t hs8_130 | have hs8_13 := nd_f hs8_130 | have hs8_13 := hs8_130
                                refine Tr.not rfl rfl rfl ?_
                                refine Tr.pick rfl rfl rfl rfl rfl rfl ?_
                                refine Tr.move rfl rfl rfl ?_
                                refine Tr.skp rfl rfl ?_
                                refine Tr.skp rfl rfl ?_
                                refine Tr.skp rfl rfl ?_
                                refine Tr.skp rfl rfl ?_
                                refine Tr.pick rfl rfl rfl rfl rfl rfl ?_
                                refine Tr.nil ?_
                                refine at_n ?_
                                refine Sat.cond_t rfl rfl ?_
                                refine Sat.seq ?_
                                -- region 9
                                refine Sat.region ?_
                                refine Tr.assign rfl rfl rfl ?_
                                refine Tr.nil ?_
                                refine at_n ?_
                                refine Sat.ret ?_
                                refine at_r ?_
                                refine en_r ?_
                                refine ⟨_, [], res_tmp rfl rfl, (by simp), (by simp), ?_, rfl⟩
                                first
                                  | exact congrArg i64 (msg_bad (by
                                      simp only [DMsg.bad, ← eK, ← eH, ← hu, ← hl.heads, ← hl.want, ← hl.blocks, ← hl.votes, ← hl.cuts, ← hl.certs]
                                      first
                                        | exact .inl (‹_›)
                                        | exact .inr (.inl (‹_›))
                                        | exact .inr (.inr (.inl (‹_›)))
                                        | exact .inr (.inr (.inr (.inl (‹_›))))
                                        | exact .inr (.inr (.inr (.inr (.inl (‹_›)))))
                                        | exact .inr (.inr (.inr (.inr (.inr (.inl (‹_›))))))
                                        | exact .inr (.inr (.inr (.inr (.inr (.inr (.inl (‹_›)))))))
                                        | exact .inr (.inr (.inr (.inr (.inr (.inr (.inr (.inl (‹_›))))))))
                                        | exact .inr (.inr (.inr (.inr (.inr (.inr (.inr (.inr (.inl (‹_›)))))))))
                                        | exact .inr (.inr (.inr (.inr (.inr (.inr (.inr (.inr (.inr (.inl (⟨‹_›, ‹_›, ‹_›⟩))))))))))
                                        | exact .inr (.inr (.inr (.inr (.inr (.inr (.inr (.inr (.inr (.inl (⟨by omega, by omega, by omega⟩))))))))))
                                        | exact .inr (.inr (.inr (.inr (.inr (.inr (.inr (.inr (.inr (.inr (.inl (‹_›)))))))))))
                                        | exact .inr (.inr (.inr (.inr (.inr (.inr (.inr (.inr (.inr (.inr (.inr (.inl (‹_›))))))))))))
                                        | exact .inr (.inr (.inr (.inr (.inr (.inr (.inr (.inr (.inr (.inr (.inr (.inr (.inl (‹_›)))))))))))))
                                        | exact .inr (.inr (.inr (.inr (.inr (.inr (.inr (.inr (.inr (.inr (.inr (.inr (.inr (‹_›)))))))))))))
                                        | exact .inr (.inr (.inr (.inr (.inr (.inr (.inr (.inr (.inr (.inr (.inl (fun e => Bool.noConfusion (hs8_2.symm.trans e))))))))))))
                                        | exact .inr (.inr (.inr (.inr (.inr (.inr (.inr (.inr (.inr (.inr (.inr (.inl (fun e => Bool.noConfusion (hs8_7.symm.trans e)))))))))))))
                                        | exact .inr (.inr (.inr (.inr (.inr (.inr (.inr (.inr (.inr (.inr (.inr (.inr (.inl (fun e => Bool.noConfusion (hs8_13.symm.trans e)))))))))))))))).symm
                                  | exact congrArg i64 (msg_good (by
                                      simp only [DMsg.bad, ← eK, ← eH, ← hu, ← hl.heads, ← hl.want, ← hl.blocks, ← hl.votes, ← hl.cuts, ← hl.certs]
                                      rintro (h | h | h | h | h | h | h | h | h | h | h | h | h | h)
                                      all_goals first | exact h ‹_› | omega | (simp_all; done))).symm
                            ·
                              first | have hs8_7 := of_decide_eq_true hs8_70 | have hs8_7 := of_decide_eq_false hs8_70 | have hs8_7 := nd_t hs8_70 | have hs8_7 := nd_f hs8_70 | have hs8_7 := hs8_70
                              refine Tr.not rfl rfl rfl ?_
                              refine Tr.pick rfl rfl rfl rfl rfl rfl ?_
                              refine Tr.move rfl rfl rfl ?_
                              refine Tr.skp rfl rfl ?_
                              refine Tr.skp rfl rfl ?_
                              refine Tr.skp rfl rfl ?_
                              refine Tr.skp rfl rfl ?_
                              refine Tr.pick rfl rfl rfl rfl rfl rfl ?_
                              refine Tr.move rfl rfl rfl ?_
                              refine Tr.skp rfl rfl ?_
                              refine Tr.skp rfl rfl ?_
                              refine Tr.skp rfl rfl ?_
                              refine Tr.skp rfl rfl ?_
                              refine Tr.pick rfl rfl rfl rfl rfl rfl ?_
                              refine Tr.nil ?_
                              refine at_n ?_
                              refine Sat.cond_t rfl rfl ?_
                              refine Sat.seq ?_
                              -- region 9
                              refine Sat.region ?_
                              refine Tr.assign rfl rfl rfl ?_
                              refine Tr.nil ?_
                              refine at_n ?_
                              refine Sat.ret ?_
                              refine at_r ?_
                              refine en_r ?_
                              refine ⟨_, [], res_tmp rfl rfl, (by simp), (by simp), ?_, rfl⟩
                              first
                                | exact congrArg i64 (msg_bad (by
                                    simp only [DMsg.bad, ← eK, ← eH, ← hu, ← hl.heads, ← hl.want, ← hl.blocks, ← hl.votes, ← hl.cuts, ← hl.certs]
                                    first
                                      | exact .inl (‹_›)
                                      | exact .inr (.inl (‹_›))
                                      | exact .inr (.inr (.inl (‹_›)))
                                      | exact .inr (.inr (.inr (.inl (‹_›))))
                                      | exact .inr (.inr (.inr (.inr (.inl (‹_›)))))
                                      | exact .inr (.inr (.inr (.inr (.inr (.inl (‹_›))))))
                                      | exact .inr (.inr (.inr (.inr (.inr (.inr (.inl (‹_›)))))))
                                      | exact .inr (.inr (.inr (.inr (.inr (.inr (.inr (.inl (‹_›))))))))
                                      | exact .inr (.inr (.inr (.inr (.inr (.inr (.inr (.inr (.inl (‹_›)))))))))
                                      | exact .inr (.inr (.inr (.inr (.inr (.inr (.inr (.inr (.inr (.inl (⟨‹_›, ‹_›, ‹_›⟩))))))))))
                                      | exact .inr (.inr (.inr (.inr (.inr (.inr (.inr (.inr (.inr (.inl (⟨by omega, by omega, by omega⟩))))))))))
                                      | exact .inr (.inr (.inr (.inr (.inr (.inr (.inr (.inr (.inr (.inr (.inl (‹_›)))))))))))
                                      | exact .inr (.inr (.inr (.inr (.inr (.inr (.inr (.inr (.inr (.inr (.inr (.inl (‹_›))))))))))))
                                      | exact .inr (.inr (.inr (.inr (.inr (.inr (.inr (.inr (.inr (.inr (.inr (.inr (.inl (‹_›)))))))))))))
                                      | exact .inr (.inr (.inr (.inr (.inr (.inr (.inr (.inr (.inr (.inr (.inr (.inr (.inr (‹_›)))))))))))))
                                      | exact .inr (.inr (.inr (.inr (.inr (.inr (.inr (.inr (.inr (.inr (.inl (fun e => Bool.noConfusion (hs8_2.symm.trans e))))))))))))
                                      | exact .inr (.inr (.inr (.inr (.inr (.inr (.inr (.inr (.inr (.inr (.inr (.inl (fun e => Bool.noConfusion (hs8_7.symm.trans e)))))))))))))
                                      | exact .inr (.inr (.inr (.inr (.inr (.inr (.inr (.inr (.inr (.inr (.inr (.inr (.inl (fun e => Bool.noConfusion (hs8_13.symm.trans e)))))))))))))))).symm
                                | exact congrArg i64 (msg_good (by
                                    simp only [DMsg.bad, ← eK, ← eH, ← hu, ← hl.heads, ← hl.want, ← hl.blocks, ← hl.votes, ← hl.cuts, ← hl.certs]
                                    rintro (h | h | h | h | h | h | h | h | h | h | h | h | h | h)
                                    all_goals first | exact h ‹_› | omega | (simp_all; done))).symm
                          ·
                            first | have hs8_2 := of_decide_eq_true hs8_20 | have hs8_2 := of_decide_eq_false hs8_20 | have hs8_2 := nd_t hs8_20 | have hs8_2 := nd_f hs8_20 | have hs8_2 := hs8_20
                            refine Tr.not rfl rfl rfl ?_
                            refine Tr.move rfl rfl rfl ?_
                            refine Tr.skp rfl rfl ?_
                            refine Tr.skp rfl rfl ?_
                            refine Tr.skp rfl rfl ?_
                            refine Tr.skp rfl rfl ?_
                            refine Tr.pick rfl rfl rfl rfl rfl rfl ?_
                            refine Tr.move rfl rfl rfl ?_
                            refine Tr.skp rfl rfl ?_
                            refine Tr.skp rfl rfl ?_
                            refine Tr.skp rfl rfl ?_
                            refine Tr.skp rfl rfl ?_
                            refine Tr.pick rfl rfl rfl rfl rfl rfl ?_
                            refine Tr.move rfl rfl rfl ?_
                            refine Tr.skp rfl rfl ?_
                            refine Tr.skp rfl rfl ?_
                            refine Tr.skp rfl rfl ?_
                            refine Tr.skp rfl rfl ?_
                            refine Tr.pick rfl rfl rfl rfl rfl rfl ?_
                            refine Tr.nil ?_
                            refine at_n ?_
                            refine Sat.cond_t rfl rfl ?_
                            refine Sat.seq ?_
                            -- region 9
                            refine Sat.region ?_
                            refine Tr.assign rfl rfl rfl ?_
                            refine Tr.nil ?_
                            refine at_n ?_
                            refine Sat.ret ?_
                            refine at_r ?_
                            refine en_r ?_
                            refine ⟨_, [], res_tmp rfl rfl, (by simp), (by simp), ?_, rfl⟩
                            first
                              | exact congrArg i64 (msg_bad (by
                                  simp only [DMsg.bad, ← eK, ← eH, ← hu, ← hl.heads, ← hl.want, ← hl.blocks, ← hl.votes, ← hl.cuts, ← hl.certs]
                                  first
                                    | exact .inl (‹_›)
                                    | exact .inr (.inl (‹_›))
                                    | exact .inr (.inr (.inl (‹_›)))
                                    | exact .inr (.inr (.inr (.inl (‹_›))))
                                    | exact .inr (.inr (.inr (.inr (.inl (‹_›)))))
                                    | exact .inr (.inr (.inr (.inr (.inr (.inl (‹_›))))))
                                    | exact .inr (.inr (.inr (.inr (.inr (.inr (.inl (‹_›)))))))
                                    | exact .inr (.inr (.inr (.inr (.inr (.inr (.inr (.inl (‹_›))))))))
                                    | exact .inr (.inr (.inr (.inr (.inr (.inr (.inr (.inr (.inl (‹_›)))))))))
                                    | exact .inr (.inr (.inr (.inr (.inr (.inr (.inr (.inr (.inr (.inl (⟨‹_›, ‹_›, ‹_›⟩))))))))))
                                    | exact .inr (.inr (.inr (.inr (.inr (.inr (.inr (.inr (.inr (.inl (⟨by omega, by omega, by omega⟩))))))))))
                                    | exact .inr (.inr (.inr (.inr (.inr (.inr (.inr (.inr (.inr (.inr (.inl (‹_›)))))))))))
                                    | exact .inr (.inr (.inr (.inr (.inr (.inr (.inr (.inr (.inr (.inr (.inr (.inl (‹_›))))))))))))
                                    | exact .inr (.inr (.inr (.inr (.inr (.inr (.inr (.inr (.inr (.inr (.inr (.inr (.inl (‹_›)))))))))))))
                                    | exact .inr (.inr (.inr (.inr (.inr (.inr (.inr (.inr (.inr (.inr (.inr (.inr (.inr (‹_›)))))))))))))
                                    | exact .inr (.inr (.inr (.inr (.inr (.inr (.inr (.inr (.inr (.inr (.inl (fun e => Bool.noConfusion (hs8_2.symm.trans e))))))))))))
                                    | exact .inr (.inr (.inr (.inr (.inr (.inr (.inr (.inr (.inr (.inr (.inr (.inl (fun e => Bool.noConfusion (hs8_7.symm.trans e)))))))))))))
                                    | exact .inr (.inr (.inr (.inr (.inr (.inr (.inr (.inr (.inr (.inr (.inr (.inr (.inl (fun e => Bool.noConfusion (hs8_13.symm.trans e)))))))))))))))).symm
                              | exact congrArg i64 (msg_good (by
                                  simp only [DMsg.bad, ← eK, ← eH, ← hu, ← hl.heads, ← hl.want, ← hl.blocks, ← hl.votes, ← hl.cuts, ← hl.certs]
                                  rintro (h | h | h | h | h | h | h | h | h | h | h | h | h | h)
                                  all_goals first | exact h ‹_› | omega | (simp_all; done))).symm
                      ·
                        first | have hs6_6 := of_decide_eq_true hs6_60 | have hs6_6 := of_decide_eq_false hs6_60 | have hs6_6 := nd_t hs6_60 | have hs6_6 := nd_f hs6_60 | have hs6_6 := hs6_60
                        refine Tr.pick rfl rfl rfl rfl rfl rfl ?_
                        refine Tr.move rfl rfl rfl ?_
                        refine Tr.skp rfl rfl ?_
                        refine Tr.skp rfl rfl ?_
                        refine Tr.skp rfl rfl ?_
                        refine Tr.pick rfl rfl rfl rfl rfl rfl ?_
                        refine Tr.nil ?_
                        refine at_n ?_
                        refine Sat.cond_f rfl rfl ?_
                        refine Sat.skip ?_
                        refine at_n ?_
                        refine Sat.seq ?_
                        refine Sat.seq ?_
                        -- region 8
                        refine Sat.region ?_
                        refine Tr.fld rfl rfl rfl Try.underlying49 rfl Sz34 (by decide) _ rfl ?_
                        refine Tr.load1 rfl rfl rfl Try.underlying34 rfl (by first | exact mem0 | exact mem1 | exact mem2 | exact mem3 | exact mem4 | exact mem5 | exact mem6 | exact mem7 | (repeat (first | exact List.mem_cons_self | refine List.mem_cons_of_mem _ ?_ | refine mem_seg ?_))) (by first | exact Msg.get_fBlocks (by first | assumption | (simp; done) | exact Block.zero_ok | exact Vote.zero_ok | exact Reader.zero_ok | exact Cut.zero_ok | exact Cert.zero_ok | exact Msg.zero_ok | exact Inbox.zero_ok | exact Record.zero_ok | exact Kept.zero_ok  | exact hok) | exact (by first | rfl | exact get_words (by first | omega | (simp; done) | (simp; omega)) | exact get_bytes (by first | omega | (simp; done) | (simp; omega)) | exact get_ints (by first | omega | (simp; done) | (simp; omega)))) ?_
                        refine Tr.callB rfl rfl rfl rfl Body52 (all_block m.fBlocks D.dBlocks) (fun w h => Blocks_ext h rfl hW.fBlocks) (fun hs8_20 => ?_) (fun hs8_20 => ?_)
                        ·
                          first | have hs8_2 := of_decide_eq_true hs8_20 | have hs8_2 := of_decide_eq_false hs8_20 | have hs8_2 := nd_t hs8_20 | have hs8_2 := nd_f hs8_20 | have hs8_2 := hs8_20
                          refine Tr.not rfl rfl rfl ?_
                          refine Tr.move rfl rfl rfl ?_
                          refine Tr.fld rfl rfl rfl Try.underlying49 rfl Sz45 (by decide) _ rfl ?_
                          refine Tr.load1 rfl rfl rfl Try.underlying45 rfl (by first | exact mem0 | exact mem1 | exact mem2 | exact mem3 | exact mem4 | exact mem5 | exact mem6 | exact mem7 | (repeat (first | exact List.mem_cons_self | refine List.mem_cons_of_mem _ ?_ | refine mem_seg ?_))) (by first | exact Msg.get_fVotes (by first | assumption | (simp; done) | exact Block.zero_ok | exact Vote.zero_ok | exact Reader.zero_ok | exact Cut.zero_ok | exact Cert.zero_ok | exact Msg.zero_ok | exact Inbox.zero_ok | exact Record.zero_ok | exact Kept.zero_ok  | exact hok) | exact (by first | rfl | exact get_words (by first | omega | (simp; done) | (simp; omega)) | exact get_bytes (by first | omega | (simp; done) | (simp; omega)) | exact get_ints (by first | omega | (simp; done) | (simp; omega)))) ?_
                          refine Tr.callB rfl rfl rfl rfl Body53 (all_vote m.fVotes D.dVotes) (fun w h => Votes_ext h rfl hW.fVotes) (fun hs8_70 => ?_) (fun hs8_70 => ?_)
                          ·
                            first | have hs8_7 := of_decide_eq_true hs8_70 | have hs8_7 := of_decide_eq_false hs8_70 | have hs8_7 := nd_t hs8_70 | have hs8_7 := nd_f hs8_70 | have hs8_7 := hs8_70
                            refine Tr.not rfl rfl rfl ?_
                            refine Tr.pick rfl rfl rfl rfl rfl rfl ?_
                            refine Tr.move rfl rfl rfl ?_
                            refine Tr.fld rfl rfl rfl Try.underlying49 rfl Sz46 (by decide) _ rfl ?_
                            refine Tr.load1 rfl rfl rfl Try.underlying46 rfl (by first | exact mem0 | exact mem1 | exact mem2 | exact mem3 | exact mem4 | exact mem5 | exact mem6 | exact mem7 | (repeat (first | exact List.mem_cons_self | refine List.mem_cons_of_mem _ ?_ | refine mem_seg ?_))) (by first | exact Msg.get_fCuts (by first | assumption | (simp; done) | exact Block.zero_ok | exact Vote.zero_ok | exact Reader.zero_ok | exact Cut.zero_ok | exact Cert.zero_ok | exact Msg.zero_ok | exact Inbox.zero_ok | exact Record.zero_ok | exact Kept.zero_ok  | exact hok) | exact (by first | rfl | exact get_words (by first | omega | (simp; done) | (simp; omega)) | exact get_bytes (by first | omega | (simp; done) | (simp; omega)) | exact get_ints (by first | omega | (simp; done) | (simp; omega)))) ?_
                            refine Tr.callB rfl rfl rfl rfl Body55 (all_cut m.fCuts D.dCuts) (fun w h => Cuts_ext h rfl hW.fCuts) (fun hs8_130 => ?_) (fun hs8_130 => ?_)
                            ·
                              first | have hs8_13 := of_decide_eq_true hs8_130 | have hs8_13 := of_decide_eq_false hs8_130 | have hs8_13 := nd_t hs8_130 | have hs8_13 := nd_f hs8_130 | have hs8_13 := hs8_130
                              refine Tr.not rfl rfl rfl ?_
                              refine Tr.pick rfl rfl rfl rfl rfl rfl ?_
                              refine Tr.move rfl rfl rfl ?_
                              refine Tr.fld rfl rfl rfl Try.underlying49 rfl Sz47 (by decide) _ rfl ?_
                              refine Tr.load1 rfl rfl rfl Try.underlying47 rfl (by first | exact mem0 | exact mem1 | exact mem2 | exact mem3 | exact mem4 | exact mem5 | exact mem6 | exact mem7 | (repeat (first | exact List.mem_cons_self | refine List.mem_cons_of_mem _ ?_ | refine mem_seg ?_))) (by first | exact Msg.get_fCerts (by first | assumption | (simp; done) | exact Block.zero_ok | exact Vote.zero_ok | exact Reader.zero_ok | exact Cut.zero_ok | exact Cert.zero_ok | exact Msg.zero_ok | exact Inbox.zero_ok | exact Record.zero_ok | exact Kept.zero_ok  | exact hok) | exact (by first | rfl | exact get_words (by first | omega | (simp; done) | (simp; omega)) | exact get_bytes (by first | omega | (simp; done) | (simp; omega)) | exact get_ints (by first | omega | (simp; done) | (simp; omega)))) ?_
                              refine Tr.callV rfl rfl rfl rfl Body57 (all_cert m.fCerts D.dCerts) (fun w h => Certs_ext h rfl hW.fCerts) ?_
                              refine Tr.not rfl rfl rfl ?_
                              refine Tr.pick rfl rfl rfl rfl rfl rfl ?_
                              refine Tr.nil ?_
                              refine at_n ?_
                              first
                                | refine Sat.condP rfl (fun hc3 => ?_) (fun hc3 => ?_)
                                | refine Sat.condNP rfl (fun hc3 => ?_) (fun hc3 => ?_)
                                | refine Sat.cond rfl (fun hc3 => ?_) (fun hc3 => ?_)
                              ·
                                have hx3 : ¬ (D.dCerts.all fun d => decide (d.check = 0)) = true := fun e => by rw [e] at hc3; cases hc3
                                refine Sat.seq ?_
                                -- region 9
                                refine Sat.region ?_
                                refine Tr.assign rfl rfl rfl ?_
                                refine Tr.nil ?_
                                refine at_n ?_
                                refine Sat.ret ?_
                                refine at_r ?_
                                refine en_r ?_
                                refine ⟨_, [], res_tmp rfl rfl, (by simp), (by simp), ?_, rfl⟩
                                first
                                  | exact congrArg i64 (msg_bad (by
                                      simp only [DMsg.bad, ← eK, ← eH, ← hu, ← hl.heads, ← hl.want, ← hl.blocks, ← hl.votes, ← hl.cuts, ← hl.certs]
                                      first
                                        | exact .inl (‹_›)
                                        | exact .inr (.inl (‹_›))
                                        | exact .inr (.inr (.inl (‹_›)))
                                        | exact .inr (.inr (.inr (.inl (‹_›))))
                                        | exact .inr (.inr (.inr (.inr (.inl (‹_›)))))
                                        | exact .inr (.inr (.inr (.inr (.inr (.inl (‹_›))))))
                                        | exact .inr (.inr (.inr (.inr (.inr (.inr (.inl (‹_›)))))))
                                        | exact .inr (.inr (.inr (.inr (.inr (.inr (.inr (.inl (‹_›))))))))
                                        | exact .inr (.inr (.inr (.inr (.inr (.inr (.inr (.inr (.inl (‹_›)))))))))
                                        | exact .inr (.inr (.inr (.inr (.inr (.inr (.inr (.inr (.inr (.inl (⟨‹_›, ‹_›, ‹_›⟩))))))))))
                                        | exact .inr (.inr (.inr (.inr (.inr (.inr (.inr (.inr (.inr (.inl (⟨by omega, by omega, by omega⟩))))))))))
                                        | exact .inr (.inr (.inr (.inr (.inr (.inr (.inr (.inr (.inr (.inr (.inl (‹_›)))))))))))
                                        | exact .inr (.inr (.inr (.inr (.inr (.inr (.inr (.inr (.inr (.inr (.inr (.inl (‹_›))))))))))))
                                        | exact .inr (.inr (.inr (.inr (.inr (.inr (.inr (.inr (.inr (.inr (.inr (.inr (.inl (‹_›)))))))))))))
                                        | exact .inr (.inr (.inr (.inr (.inr (.inr (.inr (.inr (.inr (.inr (.inr (.inr (.inr (‹_›)))))))))))))
                                        | exact .inr (.inr (.inr (.inr (.inr (.inr (.inr (.inr (.inr (.inr (.inl (fun e => Bool.noConfusion (hs8_2.symm.trans e))))))))))))
                                        | exact .inr (.inr (.inr (.inr (.inr (.inr (.inr (.inr (.inr (.inr (.inr (.inl (fun e => Bool.noConfusion (hs8_7.symm.trans e)))))))))))))
                                        | exact .inr (.inr (.inr (.inr (.inr (.inr (.inr (.inr (.inr (.inr (.inr (.inr (.inl (fun e => Bool.noConfusion (hs8_13.symm.trans e)))))))))))))))).symm
                                  | exact congrArg i64 (msg_good (by
                                      simp only [DMsg.bad, ← eK, ← eH, ← hu, ← hl.heads, ← hl.want, ← hl.blocks, ← hl.votes, ← hl.cuts, ← hl.certs]
                                      rintro (h | h | h | h | h | h | h | h | h | h | h | h | h | h)
                                      all_goals first | exact h ‹_› | omega | (simp_all; done))).symm
                              ·
                                have hx4 : (D.dCerts.all fun d => decide (d.check = 0)) = true := by
                                  cases e : (D.dCerts.all fun d => decide (d.check = 0))
                                  · rw [e] at hc3; cases hc3
                                  · rfl
                                refine Sat.skip ?_
                                refine at_n ?_
                                refine Sat.seq ?_
                                -- region 10
                                refine Sat.region ?_
                                refine Tr.assign rfl rfl rfl ?_
                                refine Tr.nil ?_
                                refine at_n ?_
                                refine Sat.ret ?_
                                refine en_r ?_
                                refine ⟨_, [], res_tmp rfl rfl, (by simp), (by simp), ?_, rfl⟩
                                first
                                  | exact congrArg i64 (msg_bad (by
                                      simp only [DMsg.bad, ← eK, ← eH, ← hu, ← hl.heads, ← hl.want, ← hl.blocks, ← hl.votes, ← hl.cuts, ← hl.certs]
                                      first
                                        | exact .inl (‹_›)
                                        | exact .inr (.inl (‹_›))
                                        | exact .inr (.inr (.inl (‹_›)))
                                        | exact .inr (.inr (.inr (.inl (‹_›))))
                                        | exact .inr (.inr (.inr (.inr (.inl (‹_›)))))
                                        | exact .inr (.inr (.inr (.inr (.inr (.inl (‹_›))))))
                                        | exact .inr (.inr (.inr (.inr (.inr (.inr (.inl (‹_›)))))))
                                        | exact .inr (.inr (.inr (.inr (.inr (.inr (.inr (.inl (‹_›))))))))
                                        | exact .inr (.inr (.inr (.inr (.inr (.inr (.inr (.inr (.inl (‹_›)))))))))
                                        | exact .inr (.inr (.inr (.inr (.inr (.inr (.inr (.inr (.inr (.inl (⟨‹_›, ‹_›, ‹_›⟩))))))))))
                                        | exact .inr (.inr (.inr (.inr (.inr (.inr (.inr (.inr (.inr (.inl (⟨by omega, by omega, by omega⟩))))))))))
                                        | exact .inr (.inr (.inr (.inr (.inr (.inr (.inr (.inr (.inr (.inr (.inl (‹_›)))))))))))
                                        | exact .inr (.inr (.inr (.inr (.inr (.inr (.inr (.inr (.inr (.inr (.inr (.inl (‹_›))))))))))))
                                        | exact .inr (.inr (.inr (.inr (.inr (.inr (.inr (.inr (.inr (.inr (.inr (.inr (.inl (‹_›)))))))))))))
                                        | exact .inr (.inr (.inr (.inr (.inr (.inr (.inr (.inr (.inr (.inr (.inr (.inr (.inr (‹_›)))))))))))))
                                        | exact .inr (.inr (.inr (.inr (.inr (.inr (.inr (.inr (.inr (.inr (.inl (fun e => Bool.noConfusion (hs8_2.symm.trans e))))))))))))
                                        | exact .inr (.inr (.inr (.inr (.inr (.inr (.inr (.inr (.inr (.inr (.inr (.inl (fun e => Bool.noConfusion (hs8_7.symm.trans e)))))))))))))
                                        | exact .inr (.inr (.inr (.inr (.inr (.inr (.inr (.inr (.inr (.inr (.inr (.inr (.inl (fun e => Bool.noConfusion (hs8_13.symm.trans e)))))))))))))))).symm
                                  | exact congrArg i64 (msg_good (by
                                      simp only [DMsg.bad, ← eK, ← eH, ← hu, ← hl.heads, ← hl.want, ← hl.blocks, ← hl.votes, ← hl.cuts, ← hl.certs]
                                      rintro (h | h | h | h | h | h | h | h | h | h | h | h | h | h)
                                      all_goals first | exact h ‹_› | omega | (simp_all; done))).symm
                            ·
                              first | have hs8_13 := of_decide_eq_true hs8_130 | have hs8_13 := of_decide_eq_false hs8_130 | have hs8_13 := nd_t hs8_130 | have hs8_13 := nd_f hs8_130 | have hs8_13 := hs8_130
                              refine Tr.not rfl rfl rfl ?_
                              refine Tr.pick rfl rfl rfl rfl rfl rfl ?_
                              refine Tr.move rfl rfl rfl ?_
                              refine Tr.skp rfl rfl ?_
                              refine Tr.skp rfl rfl ?_
                              refine Tr.skp rfl rfl ?_
                              refine Tr.skp rfl rfl ?_
                              refine Tr.pick rfl rfl rfl rfl rfl rfl ?_
                              refine Tr.nil ?_
                              refine at_n ?_
                              refine Sat.cond_t rfl rfl ?_
                              refine Sat.seq ?_
                              -- region 9
                              refine Sat.region ?_
                              refine Tr.assign rfl rfl rfl ?_
                              refine Tr.nil ?_
                              refine at_n ?_
                              refine Sat.ret ?_
                              refine at_r ?_
                              refine en_r ?_
                              refine ⟨_, [], res_tmp rfl rfl, (by simp), (by simp), ?_, rfl⟩
                              first
                                | exact congrArg i64 (msg_bad (by
                                    simp only [DMsg.bad, ← eK, ← eH, ← hu, ← hl.heads, ← hl.want, ← hl.blocks, ← hl.votes, ← hl.cuts, ← hl.certs]
                                    first
                                      | exact .inl (‹_›)
                                      | exact .inr (.inl (‹_›))
                                      | exact .inr (.inr (.inl (‹_›)))
                                      | exact .inr (.inr (.inr (.inl (‹_›))))
                                      | exact .inr (.inr (.inr (.inr (.inl (‹_›)))))
                                      | exact .inr (.inr (.inr (.inr (.inr (.inl (‹_›))))))
                                      | exact .inr (.inr (.inr (.inr (.inr (.inr (.inl (‹_›)))))))
                                      | exact .inr (.inr (.inr (.inr (.inr (.inr (.inr (.inl (‹_›))))))))
                                      | exact .inr (.inr (.inr (.inr (.inr (.inr (.inr (.inr (.inl (‹_›)))))))))
                                      | exact .inr (.inr (.inr (.inr (.inr (.inr (.inr (.inr (.inr (.inl (⟨‹_›, ‹_›, ‹_›⟩))))))))))
                                      | exact .inr (.inr (.inr (.inr (.inr (.inr (.inr (.inr (.inr (.inl (⟨by omega, by omega, by omega⟩))))))))))
                                      | exact .inr (.inr (.inr (.inr (.inr (.inr (.inr (.inr (.inr (.inr (.inl (‹_›)))))))))))
                                      | exact .inr (.inr (.inr (.inr (.inr (.inr (.inr (.inr (.inr (.inr (.inr (.inl (‹_›))))))))))))
                                      | exact .inr (.inr (.inr (.inr (.inr (.inr (.inr (.inr (.inr (.inr (.inr (.inr (.inl (‹_›)))))))))))))
                                      | exact .inr (.inr (.inr (.inr (.inr (.inr (.inr (.inr (.inr (.inr (.inr (.inr (.inr (‹_›)))))))))))))
                                      | exact .inr (.inr (.inr (.inr (.inr (.inr (.inr (.inr (.inr (.inr (.inl (fun e => Bool.noConfusion (hs8_2.symm.trans e))))))))))))
                                      | exact .inr (.inr (.inr (.inr (.inr (.inr (.inr (.inr (.inr (.inr (.inr (.inl (fun e => Bool.noConfusion (hs8_7.symm.trans e)))))))))))))
                                      | exact .inr (.inr (.inr (.inr (.inr (.inr (.inr (.inr (.inr (.inr (.inr (.inr (.inl (fun e => Bool.noConfusion (hs8_13.symm.trans e)))))))))))))))).symm
                                | exact congrArg i64 (msg_good (by
                                    simp only [DMsg.bad, ← eK, ← eH, ← hu, ← hl.heads, ← hl.want, ← hl.blocks, ← hl.votes, ← hl.cuts, ← hl.certs]
                                    rintro (h | h | h | h | h | h | h | h | h | h | h | h | h | h)
                                    all_goals first | exact h ‹_› | omega | (simp_all; done))).symm
                          ·
                            first | have hs8_7 := of_decide_eq_true hs8_70 | have hs8_7 := of_decide_eq_false hs8_70 | have hs8_7 := nd_t hs8_70 | have hs8_7 := nd_f hs8_70 | have hs8_7 := hs8_70
                            refine Tr.not rfl rfl rfl ?_
                            refine Tr.pick rfl rfl rfl rfl rfl rfl ?_
                            refine Tr.move rfl rfl rfl ?_
                            refine Tr.skp rfl rfl ?_
                            refine Tr.skp rfl rfl ?_
                            refine Tr.skp rfl rfl ?_
                            refine Tr.skp rfl rfl ?_
                            refine Tr.pick rfl rfl rfl rfl rfl rfl ?_
                            refine Tr.move rfl rfl rfl ?_
                            refine Tr.skp rfl rfl ?_
                            refine Tr.skp rfl rfl ?_
                            refine Tr.skp rfl rfl ?_
                            refine Tr.skp rfl rfl ?_
                            refine Tr.pick rfl rfl rfl rfl rfl rfl ?_
                            refine Tr.nil ?_
                            refine at_n ?_
                            refine Sat.cond_t rfl rfl ?_
                            refine Sat.seq ?_
                            -- region 9
                            refine Sat.region ?_
                            refine Tr.assign rfl rfl rfl ?_
                            refine Tr.nil ?_
                            refine at_n ?_
                            refine Sat.ret ?_
                            refine at_r ?_
                            refine en_r ?_
                            refine ⟨_, [], res_tmp rfl rfl, (by simp), (by simp), ?_, rfl⟩
                            first
                              | exact congrArg i64 (msg_bad (by
                                  simp only [DMsg.bad, ← eK, ← eH, ← hu, ← hl.heads, ← hl.want, ← hl.blocks, ← hl.votes, ← hl.cuts, ← hl.certs]
                                  first
                                    | exact .inl (‹_›)
                                    | exact .inr (.inl (‹_›))
                                    | exact .inr (.inr (.inl (‹_›)))
                                    | exact .inr (.inr (.inr (.inl (‹_›))))
                                    | exact .inr (.inr (.inr (.inr (.inl (‹_›)))))
                                    | exact .inr (.inr (.inr (.inr (.inr (.inl (‹_›))))))
                                    | exact .inr (.inr (.inr (.inr (.inr (.inr (.inl (‹_›)))))))
                                    | exact .inr (.inr (.inr (.inr (.inr (.inr (.inr (.inl (‹_›))))))))
                                    | exact .inr (.inr (.inr (.inr (.inr (.inr (.inr (.inr (.inl (‹_›)))))))))
                                    | exact .inr (.inr (.inr (.inr (.inr (.inr (.inr (.inr (.inr (.inl (⟨‹_›, ‹_›, ‹_›⟩))))))))))
                                    | exact .inr (.inr (.inr (.inr (.inr (.inr (.inr (.inr (.inr (.inl (⟨by omega, by omega, by omega⟩))))))))))
                                    | exact .inr (.inr (.inr (.inr (.inr (.inr (.inr (.inr (.inr (.inr (.inl (‹_›)))))))))))
                                    | exact .inr (.inr (.inr (.inr (.inr (.inr (.inr (.inr (.inr (.inr (.inr (.inl (‹_›))))))))))))
                                    | exact .inr (.inr (.inr (.inr (.inr (.inr (.inr (.inr (.inr (.inr (.inr (.inr (.inl (‹_›)))))))))))))
                                    | exact .inr (.inr (.inr (.inr (.inr (.inr (.inr (.inr (.inr (.inr (.inr (.inr (.inr (‹_›)))))))))))))
                                    | exact .inr (.inr (.inr (.inr (.inr (.inr (.inr (.inr (.inr (.inr (.inl (fun e => Bool.noConfusion (hs8_2.symm.trans e))))))))))))
                                    | exact .inr (.inr (.inr (.inr (.inr (.inr (.inr (.inr (.inr (.inr (.inr (.inl (fun e => Bool.noConfusion (hs8_7.symm.trans e)))))))))))))
                                    | exact .inr (.inr (.inr (.inr (.inr (.inr (.inr (.inr (.inr (.inr (.inr (.inr (.inl (fun e => Bool.noConfusion (hs8_13.symm.trans e)))))))))))))))).symm
                              | exact congrArg i64 (msg_good (by
                                  simp only [DMsg.bad, ← eK, ← eH, ← hu, ← hl.heads, ← hl.want, ← hl.blocks, ← hl.votes, ← hl.cuts, ← hl.certs]
                                  rintro (h | h | h | h | h | h | h | h | h | h | h | h | h | h)
                                  all_goals first | exact h ‹_› | omega | (simp_all; done))).symm
                        ·
                          first | have hs8_2 := of_decide_eq_true hs8_20 | have hs8_2 := of_decide_eq_false hs8_20 | have hs8_2 := nd_t hs8_20 | have hs8_2 := nd_f hs8_20 | have hs8_2 := hs8_20
                          refine Tr.not rfl rfl rfl ?_
                          refine Tr.move rfl rfl rfl ?_
                          refine Tr.skp rfl rfl ?_
                          refine Tr.skp rfl rfl ?_
                          refine Tr.skp rfl rfl ?_
                          refine Tr.skp rfl rfl ?_
                          refine Tr.pick rfl rfl rfl rfl rfl rfl ?_
                          refine Tr.move rfl rfl rfl ?_
                          refine Tr.skp rfl rfl ?_
                          refine Tr.skp rfl rfl ?_
                          refine Tr.skp rfl rfl ?_
                          refine Tr.skp rfl rfl ?_
                          refine Tr.pick rfl rfl rfl rfl rfl rfl ?_
                          refine Tr.move rfl rfl rfl ?_
                          refine Tr.skp rfl rfl ?_
                          refine Tr.skp rfl rfl ?_
                          refine Tr.skp rfl rfl ?_
                          refine Tr.skp rfl rfl ?_
                          refine Tr.pick rfl rfl rfl rfl rfl rfl ?_
                          refine Tr.nil ?_
                          refine at_n ?_
                          refine Sat.cond_t rfl rfl ?_
                          refine Sat.seq ?_
                          -- region 9
                          refine Sat.region ?_
                          refine Tr.assign rfl rfl rfl ?_
                          refine Tr.nil ?_
                          refine at_n ?_
                          refine Sat.ret ?_
                          refine at_r ?_
                          refine en_r ?_
                          refine ⟨_, [], res_tmp rfl rfl, (by simp), (by simp), ?_, rfl⟩
                          first
                            | exact congrArg i64 (msg_bad (by
                                simp only [DMsg.bad, ← eK, ← eH, ← hu, ← hl.heads, ← hl.want, ← hl.blocks, ← hl.votes, ← hl.cuts, ← hl.certs]
                                first
                                  | exact .inl (‹_›)
                                  | exact .inr (.inl (‹_›))
                                  | exact .inr (.inr (.inl (‹_›)))
                                  | exact .inr (.inr (.inr (.inl (‹_›))))
                                  | exact .inr (.inr (.inr (.inr (.inl (‹_›)))))
                                  | exact .inr (.inr (.inr (.inr (.inr (.inl (‹_›))))))
                                  | exact .inr (.inr (.inr (.inr (.inr (.inr (.inl (‹_›)))))))
                                  | exact .inr (.inr (.inr (.inr (.inr (.inr (.inr (.inl (‹_›))))))))
                                  | exact .inr (.inr (.inr (.inr (.inr (.inr (.inr (.inr (.inl (‹_›)))))))))
                                  | exact .inr (.inr (.inr (.inr (.inr (.inr (.inr (.inr (.inr (.inl (⟨‹_›, ‹_›, ‹_›⟩))))))))))
                                  | exact .inr (.inr (.inr (.inr (.inr (.inr (.inr (.inr (.inr (.inl (⟨by omega, by omega, by omega⟩))))))))))
                                  | exact .inr (.inr (.inr (.inr (.inr (.inr (.inr (.inr (.inr (.inr (.inl (‹_›)))))))))))
                                  | exact .inr (.inr (.inr (.inr (.inr (.inr (.inr (.inr (.inr (.inr (.inr (.inl (‹_›))))))))))))
                                  | exact .inr (.inr (.inr (.inr (.inr (.inr (.inr (.inr (.inr (.inr (.inr (.inr (.inl (‹_›)))))))))))))
                                  | exact .inr (.inr (.inr (.inr (.inr (.inr (.inr (.inr (.inr (.inr (.inr (.inr (.inr (‹_›)))))))))))))
                                  | exact .inr (.inr (.inr (.inr (.inr (.inr (.inr (.inr (.inr (.inr (.inl (fun e => Bool.noConfusion (hs8_2.symm.trans e))))))))))))
                                  | exact .inr (.inr (.inr (.inr (.inr (.inr (.inr (.inr (.inr (.inr (.inr (.inl (fun e => Bool.noConfusion (hs8_7.symm.trans e)))))))))))))
                                  | exact .inr (.inr (.inr (.inr (.inr (.inr (.inr (.inr (.inr (.inr (.inr (.inr (.inl (fun e => Bool.noConfusion (hs8_13.symm.trans e)))))))))))))))).symm
                            | exact congrArg i64 (msg_good (by
                                simp only [DMsg.bad, ← eK, ← eH, ← hu, ← hl.heads, ← hl.want, ← hl.blocks, ← hl.votes, ← hl.cuts, ← hl.certs]
                                rintro (h | h | h | h | h | h | h | h | h | h | h | h | h | h)
                                all_goals first | exact h ‹_› | omega | (simp_all; done))).symm
                    ·
                      first | have hs6_2 := of_decide_eq_true hs6_20 | have hs6_2 := of_decide_eq_false hs6_20 | have hs6_2 := nd_t hs6_20 | have hs6_2 := nd_f hs6_20 | have hs6_2 := hs6_20
                      refine Tr.move rfl rfl rfl ?_
                      refine Tr.skp rfl rfl ?_
                      refine Tr.skp rfl rfl ?_
                      refine Tr.skp rfl rfl ?_
                      refine Tr.pick rfl rfl rfl rfl rfl rfl ?_
                      refine Tr.move rfl rfl rfl ?_
                      refine Tr.skp rfl rfl ?_
                      refine Tr.skp rfl rfl ?_
                      refine Tr.skp rfl rfl ?_
                      refine Tr.pick rfl rfl rfl rfl rfl rfl ?_
                      refine Tr.nil ?_
                      refine at_n ?_
                      refine Sat.cond_f rfl rfl ?_
                      refine Sat.skip ?_
                      refine at_n ?_
                      refine Sat.seq ?_
                      refine Sat.seq ?_
                      -- region 8
                      refine Sat.region ?_
                      refine Tr.fld rfl rfl rfl Try.underlying49 rfl Sz34 (by decide) _ rfl ?_
                      refine Tr.load1 rfl rfl rfl Try.underlying34 rfl (by first | exact mem0 | exact mem1 | exact mem2 | exact mem3 | exact mem4 | exact mem5 | exact mem6 | exact mem7 | (repeat (first | exact List.mem_cons_self | refine List.mem_cons_of_mem _ ?_ | refine mem_seg ?_))) (by first | exact Msg.get_fBlocks (by first | assumption | (simp; done) | exact Block.zero_ok | exact Vote.zero_ok | exact Reader.zero_ok | exact Cut.zero_ok | exact Cert.zero_ok | exact Msg.zero_ok | exact Inbox.zero_ok | exact Record.zero_ok | exact Kept.zero_ok  | exact hok) | exact (by first | rfl | exact get_words (by first | omega | (simp; done) | (simp; omega)) | exact get_bytes (by first | omega | (simp; done) | (simp; omega)) | exact get_ints (by first | omega | (simp; done) | (simp; omega)))) ?_
                      refine Tr.callB rfl rfl rfl rfl Body52 (all_block m.fBlocks D.dBlocks) (fun w h => Blocks_ext h rfl hW.fBlocks) (fun hs8_20 => ?_) (fun hs8_20 => ?_)
                      ·
                        first | have hs8_2 := of_decide_eq_true hs8_20 | have hs8_2 := of_decide_eq_false hs8_20 | have hs8_2 := nd_t hs8_20 | have hs8_2 := nd_f hs8_20 | have hs8_2 := hs8_20
                        refine Tr.not rfl rfl rfl ?_
                        refine Tr.move rfl rfl rfl ?_
                        refine Tr.fld rfl rfl rfl Try.underlying49 rfl Sz45 (by decide) _ rfl ?_
                        refine Tr.load1 rfl rfl rfl Try.underlying45 rfl (by first | exact mem0 | exact mem1 | exact mem2 | exact mem3 | exact mem4 | exact mem5 | exact mem6 | exact mem7 | (repeat (first | exact List.mem_cons_self | refine List.mem_cons_of_mem _ ?_ | refine mem_seg ?_))) (by first | exact Msg.get_fVotes (by first | assumption | (simp; done) | exact Block.zero_ok | exact Vote.zero_ok | exact Reader.zero_ok | exact Cut.zero_ok | exact Cert.zero_ok | exact Msg.zero_ok | exact Inbox.zero_ok | exact Record.zero_ok | exact Kept.zero_ok  | exact hok) | exact (by first | rfl | exact get_words (by first | omega | (simp; done) | (simp; omega)) | exact get_bytes (by first | omega | (simp; done) | (simp; omega)) | exact get_ints (by first | omega | (simp; done) | (simp; omega)))) ?_
                        refine Tr.callB rfl rfl rfl rfl Body53 (all_vote m.fVotes D.dVotes) (fun w h => Votes_ext h rfl hW.fVotes) (fun hs8_70 => ?_) (fun hs8_70 => ?_)
                        ·
                          first | have hs8_7 := of_decide_eq_true hs8_70 | have hs8_7 := of_decide_eq_false hs8_70 | have hs8_7 := nd_t hs8_70 | have hs8_7 := nd_f hs8_70 | have hs8_7 := hs8_70
                          refine Tr.not rfl rfl rfl ?_
                          refine Tr.pick rfl rfl rfl rfl rfl rfl ?_
                          refine Tr.move rfl rfl rfl ?_
                          refine Tr.fld rfl rfl rfl Try.underlying49 rfl Sz46 (by decide) _ rfl ?_
                          refine Tr.load1 rfl rfl rfl Try.underlying46 rfl (by first | exact mem0 | exact mem1 | exact mem2 | exact mem3 | exact mem4 | exact mem5 | exact mem6 | exact mem7 | (repeat (first | exact List.mem_cons_self | refine List.mem_cons_of_mem _ ?_ | refine mem_seg ?_))) (by first | exact Msg.get_fCuts (by first | assumption | (simp; done) | exact Block.zero_ok | exact Vote.zero_ok | exact Reader.zero_ok | exact Cut.zero_ok | exact Cert.zero_ok | exact Msg.zero_ok | exact Inbox.zero_ok | exact Record.zero_ok | exact Kept.zero_ok  | exact hok) | exact (by first | rfl | exact get_words (by first | omega | (simp; done) | (simp; omega)) | exact get_bytes (by first | omega | (simp; done) | (simp; omega)) | exact get_ints (by first | omega | (simp; done) | (simp; omega)))) ?_
                          refine Tr.callB rfl rfl rfl rfl Body55 (all_cut m.fCuts D.dCuts) (fun w h => Cuts_ext h rfl hW.fCuts) (fun hs8_130 => ?_) (fun hs8_130 => ?_)
                          ·
                            first | have hs8_13 := of_decide_eq_true hs8_130 | have hs8_13 := of_decide_eq_false hs8_130 | have hs8_13 := nd_t hs8_130 | have hs8_13 := nd_f hs8_130 | have hs8_13 := hs8_130
                            refine Tr.not rfl rfl rfl ?_
                            refine Tr.pick rfl rfl rfl rfl rfl rfl ?_
                            refine Tr.move rfl rfl rfl ?_
                            refine Tr.fld rfl rfl rfl Try.underlying49 rfl Sz47 (by decide) _ rfl ?_
                            refine Tr.load1 rfl rfl rfl Try.underlying47 rfl (by first | exact mem0 | exact mem1 | exact mem2 | exact mem3 | exact mem4 | exact mem5 | exact mem6 | exact mem7 | (repeat (first | exact List.mem_cons_self | refine List.mem_cons_of_mem _ ?_ | refine mem_seg ?_))) (by first | exact Msg.get_fCerts (by first | assumption | (simp; done) | exact Block.zero_ok | exact Vote.zero_ok | exact Reader.zero_ok | exact Cut.zero_ok | exact Cert.zero_ok | exact Msg.zero_ok | exact Inbox.zero_ok | exact Record.zero_ok | exact Kept.zero_ok  | exact hok) | exact (by first | rfl | exact get_words (by first | omega | (simp; done) | (simp; omega)) | exact get_bytes (by first | omega | (simp; done) | (simp; omega)) | exact get_ints (by first | omega | (simp; done) | (simp; omega)))) ?_
                            refine Tr.callV rfl rfl rfl rfl Body57 (all_cert m.fCerts D.dCerts) (fun w h => Certs_ext h rfl hW.fCerts) ?_
                            refine Tr.not rfl rfl rfl ?_
                            refine Tr.pick rfl rfl rfl rfl rfl rfl ?_
                            refine Tr.nil ?_
                            refine at_n ?_
                            first
                              | refine Sat.condP rfl (fun hc3 => ?_) (fun hc3 => ?_)
                              | refine Sat.condNP rfl (fun hc3 => ?_) (fun hc3 => ?_)
                              | refine Sat.cond rfl (fun hc3 => ?_) (fun hc3 => ?_)
                            ·
                              have hx3 : ¬ (D.dCerts.all fun d => decide (d.check = 0)) = true := fun e => by rw [e] at hc3; cases hc3
                              refine Sat.seq ?_
                              -- region 9
                              refine Sat.region ?_
                              refine Tr.assign rfl rfl rfl ?_
                              refine Tr.nil ?_
                              refine at_n ?_
                              refine Sat.ret ?_
                              refine at_r ?_
                              refine en_r ?_
                              refine ⟨_, [], res_tmp rfl rfl, (by simp), (by simp), ?_, rfl⟩
                              first
                                | exact congrArg i64 (msg_bad (by
                                    simp only [DMsg.bad, ← eK, ← eH, ← hu, ← hl.heads, ← hl.want, ← hl.blocks, ← hl.votes, ← hl.cuts, ← hl.certs]
                                    first
                                      | exact .inl (‹_›)
                                      | exact .inr (.inl (‹_›))
                                      | exact .inr (.inr (.inl (‹_›)))
                                      | exact .inr (.inr (.inr (.inl (‹_›))))
                                      | exact .inr (.inr (.inr (.inr (.inl (‹_›)))))
                                      | exact .inr (.inr (.inr (.inr (.inr (.inl (‹_›))))))
                                      | exact .inr (.inr (.inr (.inr (.inr (.inr (.inl (‹_›)))))))
                                      | exact .inr (.inr (.inr (.inr (.inr (.inr (.inr (.inl (‹_›))))))))
                                      | exact .inr (.inr (.inr (.inr (.inr (.inr (.inr (.inr (.inl (‹_›)))))))))
                                      | exact .inr (.inr (.inr (.inr (.inr (.inr (.inr (.inr (.inr (.inl (⟨‹_›, ‹_›, ‹_›⟩))))))))))
                                      | exact .inr (.inr (.inr (.inr (.inr (.inr (.inr (.inr (.inr (.inl (⟨by omega, by omega, by omega⟩))))))))))
                                      | exact .inr (.inr (.inr (.inr (.inr (.inr (.inr (.inr (.inr (.inr (.inl (‹_›)))))))))))
                                      | exact .inr (.inr (.inr (.inr (.inr (.inr (.inr (.inr (.inr (.inr (.inr (.inl (‹_›))))))))))))
                                      | exact .inr (.inr (.inr (.inr (.inr (.inr (.inr (.inr (.inr (.inr (.inr (.inr (.inl (‹_›)))))))))))))
                                      | exact .inr (.inr (.inr (.inr (.inr (.inr (.inr (.inr (.inr (.inr (.inr (.inr (.inr (‹_›)))))))))))))
                                      | exact .inr (.inr (.inr (.inr (.inr (.inr (.inr (.inr (.inr (.inr (.inl (fun e => Bool.noConfusion (hs8_2.symm.trans e))))))))))))
                                      | exact .inr (.inr (.inr (.inr (.inr (.inr (.inr (.inr (.inr (.inr (.inr (.inl (fun e => Bool.noConfusion (hs8_7.symm.trans e)))))))))))))
                                      | exact .inr (.inr (.inr (.inr (.inr (.inr (.inr (.inr (.inr (.inr (.inr (.inr (.inl (fun e => Bool.noConfusion (hs8_13.symm.trans e)))))))))))))))).symm
                                | exact congrArg i64 (msg_good (by
                                    simp only [DMsg.bad, ← eK, ← eH, ← hu, ← hl.heads, ← hl.want, ← hl.blocks, ← hl.votes, ← hl.cuts, ← hl.certs]
                                    rintro (h | h | h | h | h | h | h | h | h | h | h | h | h | h)
                                    all_goals first | exact h ‹_› | omega | (simp_all; done))).symm
                            ·
                              have hx4 : (D.dCerts.all fun d => decide (d.check = 0)) = true := by
                                cases e : (D.dCerts.all fun d => decide (d.check = 0))
                                · rw [e] at hc3; cases hc3
                                · rfl
                              refine Sat.skip ?_
                              refine at_n ?_
                              refine Sat.seq ?_
                              -- region 10
                              refine Sat.region ?_
                              refine Tr.assign rfl rfl rfl ?_
                              refine Tr.nil ?_
                              refine at_n ?_
                              refine Sat.ret ?_
                              refine en_r ?_
                              refine ⟨_, [], res_tmp rfl rfl, (by simp), (by simp), ?_, rfl⟩
                              first
                                | exact congrArg i64 (msg_bad (by
                                    simp only [DMsg.bad, ← eK, ← eH, ← hu, ← hl.heads, ← hl.want, ← hl.blocks, ← hl.votes, ← hl.cuts, ← hl.certs]
                                    first
                                      | exact .inl (‹_›)
                                      | exact .inr (.inl (‹_›))
                                      | exact .inr (.inr (.inl (‹_›)))
                                      | exact .inr (.inr (.inr (.inl (‹_›))))
                                      | exact .inr (.inr (.inr (.inr (.inl (‹_›)))))
                                      | exact .inr (.inr (.inr (.inr (.inr (.inl (‹_›))))))
                                      | exact .inr (.inr (.inr (.inr (.inr (.inr (.inl (‹_›)))))))
                                      | exact .inr (.inr (.inr (.inr (.inr (.inr (.inr (.inl (‹_›))))))))
                                      | exact .inr (.inr (.inr (.inr (.inr (.inr (.inr (.inr (.inl (‹_›)))))))))
                                      | exact .inr (.inr (.inr (.inr (.inr (.inr (.inr (.inr (.inr (.inl (⟨‹_›, ‹_›, ‹_›⟩))))))))))
                                      | exact .inr (.inr (.inr (.inr (.inr (.inr (.inr (.inr (.inr (.inl (⟨by omega, by omega, by omega⟩))))))))))
                                      | exact .inr (.inr (.inr (.inr (.inr (.inr (.inr (.inr (.inr (.inr (.inl (‹_›)))))))))))
                                      | exact .inr (.inr (.inr (.inr (.inr (.inr (.inr (.inr (.inr (.inr (.inr (.inl (‹_›))))))))))))
                                      | exact .inr (.inr (.inr (.inr (.inr (.inr (.inr (.inr (.inr (.inr (.inr (.inr (.inl (‹_›)))))))))))))
                                      | exact .inr (.inr (.inr (.inr (.inr (.inr (.inr (.inr (.inr (.inr (.inr (.inr (.inr (‹_›)))))))))))))
                                      | exact .inr (.inr (.inr (.inr (.inr (.inr (.inr (.inr (.inr (.inr (.inl (fun e => Bool.noConfusion (hs8_2.symm.trans e))))))))))))
                                      | exact .inr (.inr (.inr (.inr (.inr (.inr (.inr (.inr (.inr (.inr (.inr (.inl (fun e => Bool.noConfusion (hs8_7.symm.trans e)))))))))))))
                                      | exact .inr (.inr (.inr (.inr (.inr (.inr (.inr (.inr (.inr (.inr (.inr (.inr (.inl (fun e => Bool.noConfusion (hs8_13.symm.trans e)))))))))))))))).symm
                                | exact congrArg i64 (msg_good (by
                                    simp only [DMsg.bad, ← eK, ← eH, ← hu, ← hl.heads, ← hl.want, ← hl.blocks, ← hl.votes, ← hl.cuts, ← hl.certs]
                                    rintro (h | h | h | h | h | h | h | h | h | h | h | h | h | h)
                                    all_goals first | exact h ‹_› | omega | (simp_all; done))).symm
                          ·
                            first | have hs8_13 := of_decide_eq_true hs8_130 | have hs8_13 := of_decide_eq_false hs8_130 | have hs8_13 := nd_t hs8_130 | have hs8_13 := nd_f hs8_130 | have hs8_13 := hs8_130
                            refine Tr.not rfl rfl rfl ?_
                            refine Tr.pick rfl rfl rfl rfl rfl rfl ?_
                            refine Tr.move rfl rfl rfl ?_
                            refine Tr.skp rfl rfl ?_
                            refine Tr.skp rfl rfl ?_
                            refine Tr.skp rfl rfl ?_
                            refine Tr.skp rfl rfl ?_
                            refine Tr.pick rfl rfl rfl rfl rfl rfl ?_
                            refine Tr.nil ?_
                            refine at_n ?_
                            refine Sat.cond_t rfl rfl ?_
                            refine Sat.seq ?_
                            -- region 9
                            refine Sat.region ?_
                            refine Tr.assign rfl rfl rfl ?_
                            refine Tr.nil ?_
                            refine at_n ?_
                            refine Sat.ret ?_
                            refine at_r ?_
                            refine en_r ?_
                            refine ⟨_, [], res_tmp rfl rfl, (by simp), (by simp), ?_, rfl⟩
                            first
                              | exact congrArg i64 (msg_bad (by
                                  simp only [DMsg.bad, ← eK, ← eH, ← hu, ← hl.heads, ← hl.want, ← hl.blocks, ← hl.votes, ← hl.cuts, ← hl.certs]
                                  first
                                    | exact .inl (‹_›)
                                    | exact .inr (.inl (‹_›))
                                    | exact .inr (.inr (.inl (‹_›)))
                                    | exact .inr (.inr (.inr (.inl (‹_›))))
                                    | exact .inr (.inr (.inr (.inr (.inl (‹_›)))))
                                    | exact .inr (.inr (.inr (.inr (.inr (.inl (‹_›))))))
                                    | exact .inr (.inr (.inr (.inr (.inr (.inr (.inl (‹_›)))))))
                                    | exact .inr (.inr (.inr (.inr (.inr (.inr (.inr (.inl (‹_›))))))))
                                    | exact .inr (.inr (.inr (.inr (.inr (.inr (.inr (.inr (.inl (‹_›)))))))))
                                    | exact .inr (.inr (.inr (.inr (.inr (.inr (.inr (.inr (.inr (.inl (⟨‹_›, ‹_›, ‹_›⟩))))))))))
                                    | exact .inr (.inr (.inr (.inr (.inr (.inr (.inr (.inr (.inr (.inl (⟨by omega, by omega, by omega⟩))))))))))
                                    | exact .inr (.inr (.inr (.inr (.inr (.inr (.inr (.inr (.inr (.inr (.inl (‹_›)))))))))))
                                    | exact .inr (.inr (.inr (.inr (.inr (.inr (.inr (.inr (.inr (.inr (.inr (.inl (‹_›))))))))))))
                                    | exact .inr (.inr (.inr (.inr (.inr (.inr (.inr (.inr (.inr (.inr (.inr (.inr (.inl (‹_›)))))))))))))
                                    | exact .inr (.inr (.inr (.inr (.inr (.inr (.inr (.inr (.inr (.inr (.inr (.inr (.inr (‹_›)))))))))))))
                                    | exact .inr (.inr (.inr (.inr (.inr (.inr (.inr (.inr (.inr (.inr (.inl (fun e => Bool.noConfusion (hs8_2.symm.trans e))))))))))))
                                    | exact .inr (.inr (.inr (.inr (.inr (.inr (.inr (.inr (.inr (.inr (.inr (.inl (fun e => Bool.noConfusion (hs8_7.symm.trans e)))))))))))))
                                    | exact .inr (.inr (.inr (.inr (.inr (.inr (.inr (.inr (.inr (.inr (.inr (.inr (.inl (fun e => Bool.noConfusion (hs8_13.symm.trans e)))))))))))))))).symm
                              | exact congrArg i64 (msg_good (by
                                  simp only [DMsg.bad, ← eK, ← eH, ← hu, ← hl.heads, ← hl.want, ← hl.blocks, ← hl.votes, ← hl.cuts, ← hl.certs]
                                  rintro (h | h | h | h | h | h | h | h | h | h | h | h | h | h)
                                  all_goals first | exact h ‹_› | omega | (simp_all; done))).symm
                        ·
                          first | have hs8_7 := of_decide_eq_true hs8_70 | have hs8_7 := of_decide_eq_false hs8_70 | have hs8_7 := nd_t hs8_70 | have hs8_7 := nd_f hs8_70 | have hs8_7 := hs8_70
                          refine Tr.not rfl rfl rfl ?_
                          refine Tr.pick rfl rfl rfl rfl rfl rfl ?_
                          refine Tr.move rfl rfl rfl ?_
                          refine Tr.skp rfl rfl ?_
                          refine Tr.skp rfl rfl ?_
                          refine Tr.skp rfl rfl ?_
                          refine Tr.skp rfl rfl ?_
                          refine Tr.pick rfl rfl rfl rfl rfl rfl ?_
                          refine Tr.move rfl rfl rfl ?_
                          refine Tr.skp rfl rfl ?_
                          refine Tr.skp rfl rfl ?_
                          refine Tr.skp rfl rfl ?_
                          refine Tr.skp rfl rfl ?_
                          refine Tr.pick rfl rfl rfl rfl rfl rfl ?_
                          refine Tr.nil ?_
                          refine at_n ?_
                          refine Sat.cond_t rfl rfl ?_
                          refine Sat.seq ?_
                          -- region 9
                          refine Sat.region ?_
                          refine Tr.assign rfl rfl rfl ?_
                          refine Tr.nil ?_
                          refine at_n ?_
                          refine Sat.ret ?_
                          refine at_r ?_
                          refine en_r ?_
                          refine ⟨_, [], res_tmp rfl rfl, (by simp), (by simp), ?_, rfl⟩
                          first
                            | exact congrArg i64 (msg_bad (by
                                simp only [DMsg.bad, ← eK, ← eH, ← hu, ← hl.heads, ← hl.want, ← hl.blocks, ← hl.votes, ← hl.cuts, ← hl.certs]
                                first
                                  | exact .inl (‹_›)
                                  | exact .inr (.inl (‹_›))
                                  | exact .inr (.inr (.inl (‹_›)))
                                  | exact .inr (.inr (.inr (.inl (‹_›))))
                                  | exact .inr (.inr (.inr (.inr (.inl (‹_›)))))
                                  | exact .inr (.inr (.inr (.inr (.inr (.inl (‹_›))))))
                                  | exact .inr (.inr (.inr (.inr (.inr (.inr (.inl (‹_›)))))))
                                  | exact .inr (.inr (.inr (.inr (.inr (.inr (.inr (.inl (‹_›))))))))
                                  | exact .inr (.inr (.inr (.inr (.inr (.inr (.inr (.inr (.inl (‹_›)))))))))
                                  | exact .inr (.inr (.inr (.inr (.inr (.inr (.inr (.inr (.inr (.inl (⟨‹_›, ‹_›, ‹_›⟩))))))))))
                                  | exact .inr (.inr (.inr (.inr (.inr (.inr (.inr (.inr (.inr (.inl (⟨by omega, by omega, by omega⟩))))))))))
                                  | exact .inr (.inr (.inr (.inr (.inr (.inr (.inr (.inr (.inr (.inr (.inl (‹_›)))))))))))
                                  | exact .inr (.inr (.inr (.inr (.inr (.inr (.inr (.inr (.inr (.inr (.inr (.inl (‹_›))))))))))))
                                  | exact .inr (.inr (.inr (.inr (.inr (.inr (.inr (.inr (.inr (.inr (.inr (.inr (.inl (‹_›)))))))))))))
                                  | exact .inr (.inr (.inr (.inr (.inr (.inr (.inr (.inr (.inr (.inr (.inr (.inr (.inr (‹_›)))))))))))))
                                  | exact .inr (.inr (.inr (.inr (.inr (.inr (.inr (.inr (.inr (.inr (.inl (fun e => Bool.noConfusion (hs8_2.symm.trans e))))))))))))
                                  | exact .inr (.inr (.inr (.inr (.inr (.inr (.inr (.inr (.inr (.inr (.inr (.inl (fun e => Bool.noConfusion (hs8_7.symm.trans e)))))))))))))
                                  | exact .inr (.inr (.inr (.inr (.inr (.inr (.inr (.inr (.inr (.inr (.inr (.inr (.inl (fun e => Bool.noConfusion (hs8_13.symm.trans e)))))))))))))))).symm
                            | exact congrArg i64 (msg_good (by
                                simp only [DMsg.bad, ← eK, ← eH, ← hu, ← hl.heads, ← hl.want, ← hl.blocks, ← hl.votes, ← hl.cuts, ← hl.certs]
                                rintro (h | h | h | h | h | h | h | h | h | h | h | h | h | h)
                                all_goals first | exact h ‹_› | omega | (simp_all; done))).symm
                      ·
                        first | have hs8_2 := of_decide_eq_true hs8_20 | have hs8_2 := of_decide_eq_false hs8_20 | have hs8_2 := nd_t hs8_20 | have hs8_2 := nd_f hs8_20 | have hs8_2 := hs8_20
                        refine Tr.not rfl rfl rfl ?_
                        refine Tr.move rfl rfl rfl ?_
                        refine Tr.skp rfl rfl ?_
                        refine Tr.skp rfl rfl ?_
                        refine Tr.skp rfl rfl ?_
                        refine Tr.skp rfl rfl ?_
                        refine Tr.pick rfl rfl rfl rfl rfl rfl ?_
                        refine Tr.move rfl rfl rfl ?_
                        refine Tr.skp rfl rfl ?_
                        refine Tr.skp rfl rfl ?_
                        refine Tr.skp rfl rfl ?_
                        refine Tr.skp rfl rfl ?_
                        refine Tr.pick rfl rfl rfl rfl rfl rfl ?_
                        refine Tr.move rfl rfl rfl ?_
                        refine Tr.skp rfl rfl ?_
                        refine Tr.skp rfl rfl ?_
                        refine Tr.skp rfl rfl ?_
                        refine Tr.skp rfl rfl ?_
                        refine Tr.pick rfl rfl rfl rfl rfl rfl ?_
                        refine Tr.nil ?_
                        refine at_n ?_
                        refine Sat.cond_t rfl rfl ?_
                        refine Sat.seq ?_
                        -- region 9
                        refine Sat.region ?_
                        refine Tr.assign rfl rfl rfl ?_
                        refine Tr.nil ?_
                        refine at_n ?_
                        refine Sat.ret ?_
                        refine at_r ?_
                        refine en_r ?_
                        refine ⟨_, [], res_tmp rfl rfl, (by simp), (by simp), ?_, rfl⟩
                        first
                          | exact congrArg i64 (msg_bad (by
                              simp only [DMsg.bad, ← eK, ← eH, ← hu, ← hl.heads, ← hl.want, ← hl.blocks, ← hl.votes, ← hl.cuts, ← hl.certs]
                              first
                                | exact .inl (‹_›)
                                | exact .inr (.inl (‹_›))
                                | exact .inr (.inr (.inl (‹_›)))
                                | exact .inr (.inr (.inr (.inl (‹_›))))
                                | exact .inr (.inr (.inr (.inr (.inl (‹_›)))))
                                | exact .inr (.inr (.inr (.inr (.inr (.inl (‹_›))))))
                                | exact .inr (.inr (.inr (.inr (.inr (.inr (.inl (‹_›)))))))
                                | exact .inr (.inr (.inr (.inr (.inr (.inr (.inr (.inl (‹_›))))))))
                                | exact .inr (.inr (.inr (.inr (.inr (.inr (.inr (.inr (.inl (‹_›)))))))))
                                | exact .inr (.inr (.inr (.inr (.inr (.inr (.inr (.inr (.inr (.inl (⟨‹_›, ‹_›, ‹_›⟩))))))))))
                                | exact .inr (.inr (.inr (.inr (.inr (.inr (.inr (.inr (.inr (.inl (⟨by omega, by omega, by omega⟩))))))))))
                                | exact .inr (.inr (.inr (.inr (.inr (.inr (.inr (.inr (.inr (.inr (.inl (‹_›)))))))))))
                                | exact .inr (.inr (.inr (.inr (.inr (.inr (.inr (.inr (.inr (.inr (.inr (.inl (‹_›))))))))))))
                                | exact .inr (.inr (.inr (.inr (.inr (.inr (.inr (.inr (.inr (.inr (.inr (.inr (.inl (‹_›)))))))))))))
                                | exact .inr (.inr (.inr (.inr (.inr (.inr (.inr (.inr (.inr (.inr (.inr (.inr (.inr (‹_›)))))))))))))
                                | exact .inr (.inr (.inr (.inr (.inr (.inr (.inr (.inr (.inr (.inr (.inl (fun e => Bool.noConfusion (hs8_2.symm.trans e))))))))))))
                                | exact .inr (.inr (.inr (.inr (.inr (.inr (.inr (.inr (.inr (.inr (.inr (.inl (fun e => Bool.noConfusion (hs8_7.symm.trans e)))))))))))))
                                | exact .inr (.inr (.inr (.inr (.inr (.inr (.inr (.inr (.inr (.inr (.inr (.inr (.inl (fun e => Bool.noConfusion (hs8_13.symm.trans e)))))))))))))))).symm
                          | exact congrArg i64 (msg_good (by
                              simp only [DMsg.bad, ← eK, ← eH, ← hu, ← hl.heads, ← hl.want, ← hl.blocks, ← hl.votes, ← hl.cuts, ← hl.certs]
                              rintro (h | h | h | h | h | h | h | h | h | h | h | h | h | h)
                              all_goals first | exact h ‹_› | omega | (simp_all; done))).symm

end Go.Proofs.Ytejjamifnombhaa
end

section
namespace Go.Proofs.Ytejjamifnombhaa
open Go Hw
set_option linter.unusedVariables false
set_option linter.unusedSimpArgs false


theorem take_snoc {D : Type} {ds : List D} {k : Nat} {d : D} (h : ds[k]? = some d) : ds.take (k + 1) = ds.take k ++ [d] := by
  obtain ⟨hk, rfl⟩ := List.getElem?_eq_some_iff.1 h
  rw [List.take_succ_eq_append_getElem hk]
end Go.Proofs.Ytejjamifnombhaa
end

section
namespace Go.Proofs.Ytejjamifnombhaa
open Go Hw
set_option linter.unusedVariables false
set_option linter.unusedSimpArgs false


/-- a message of one's own, with what it holds -/
def OwnedMsg (D : DMsg) (v : Value) (out : List Blk) : Prop := ∃ m : Msg, m.ok ∧ v = agg m.cells ∧ ∀ W2, Lies out W2 → MsgIs W2 m D
theorem no_lie {n : Nat} {v : Value} {T : TypeId} {W : World} (h : Lies [⟨n, [v], T, 0⟩] W) : False := by
  obtain ⟨full, fr, hb⟩ := h _ (List.mem_singleton.2 rfl)
  have h1 := hb.pre.length_le
  have h2 := hb.size
  simp at h1
  simp only at h2
  omega
theorem OwnedMsg.loose (D : DMsg) : Loose (OwnedMsg D) := fun l hl => by
  obtain ⟨n, _, hn⟩ := fresh_is 0 l
  exact ⟨agg Msg.zero.cells, [⟨n, [undef], 0, 0⟩], ⟨Msg.zero, by exact Msg.zero_ok, rfl, fun W2 h => (no_lie h).elim⟩, by
    rw [List.map_append, List.nodup_append]
    refine ⟨by simp, hl, fun i hi j hj => ?_⟩
    obtain ⟨b, hb, rfl⟩ := List.mem_map.1 hj
    simp at hi
    subst hi
    exact fun e => hn b hb e.symm⟩
structure LightIs (D : DMsg) : Prop where
  heads : D.dHeads.length ≤ 40
  want : D.dWant.length ≤ 40
  votes : D.dVotes.length ≤ 20
  nB : D.dBlocks.length ≤ 10
  nC : D.dCuts.length ≤ 6
  nE : D.dCerts.length ≤ 4
  blocks : ∀ d ∈ D.dBlocks, d.ls.length ≤ 500000 ∧ d.ds.length ≤ 500000
  cuts : ∀ d ∈ D.dCuts, d.dHeads.length ≤ 500000
  certs : ∀ d ∈ D.dCerts, d.dCut.dHeads.length ≤ 500000 ∧ d.dVotes.length ≤ 500000
end Go.Proofs.Ytejjamifnombhaa
end

section
namespace Go.Proofs.Ytejjamifnombhaa
open Go Hw
set_option linter.unusedVariables false
set_option linter.unusedSimpArgs false

set_option maxRecDepth 100000 in
set_option maxHeartbeats 1000000 in
theorem put_digest (q n c : Nat) (l d : List UInt8) (hl : l.length = n) (hd : d.length = 32) (hnc : n ≤ c) (hn : n ≤ 100000) : Meets Try.prog 97 [.slice (some ⟨q, 0, none⟩) n c, agg (bytesV d)] [q] (fun W => BlkOk W ⟨q, bytesV (l), 5, c * 1⟩) (fun v out => FreshRow v out (bytesV (l ++ d)) 5 (n + 32) 1) := by
  intro W hW
  refine calls_of (hp0 := [⟨q, bytesV (l), 5, c * 1⟩]) Try.func97 rfl 8 Try.ntmps97 rfl (HRep.one hW) ?_
  refine Sat.seq ?_
  -- region 0
  refine Sat.region ?_
  refine Tr.boxA rfl rfl ?_
  intro n3 hn3 hf3
  refine Tr.assign rfl rfl rfl ?_
  refine Tr.nil ?_
  refine at_n ?_
  refine Sat.seq ?_
  -- region 1
  refine Sat.region ?_
  refine Tr.move rfl rfl rfl ?_
  refine Tr.sliceArr rfl rfl rfl Try.underlying25 Sz5 ?_
  refine Tr.appendSl (z := u8 0) (by' := 1) (bytesV d) rfl rfl rfl rfl rfl Try.underlying27 Try.underlying27 Sz5 Zr5 (by unfold By; kernel_rfl) rfl (fun w h => SeesP.of (sees_own h (by first | exact mem0 | exact mem1 | exact mem2 | exact mem3 | exact mem4 | exact mem5 | exact mem6 | exact mem7 | (repeat (first | exact List.mem_cons_self | refine List.mem_cons_of_mem _ ?_ | refine mem_seg ?_))))) (fun e => by cases e) (bytesV_cell _) (by repeat (first | exact rem_here | apply rem_there | apply rem_seg)) rfl (by rw [bytesV, List.length_map, hl, Nat.mul_one]) hnc (by omega) (by omega) (by rw [bytesV, List.length_map, hd]) ?_
  intro q1 c1 hq1
  refine Tr.assign rfl rfl rfl ?_
  refine Tr.nil ?_
  refine at_n ?_
  refine Sat.ret ?_
  refine en_r ?_
  refine ⟨_, [⟨q1, bytesV (l ++ d), 5, c1 * 1⟩], res_tmp rfl rfl, (by intro b hb; rw [List.mem_singleton.1 hb]; simp only [bytesV, List.map_append]; exact mem0), nodup1, ⟨q1, c1, rfl, hq1, rfl⟩⟩

set_option maxRecDepth 100000 in
set_option maxHeartbeats 4000000 in
theorem put_digests (a : Option Addr) (n c : Nat) (l : List UInt8) (s : Sl) (ls : List (List UInt8)) (hl : l.length = n) (hp : a = none → n = 0) (hn : n ≤ 50000) (hs : s.n ≤ 1000) : Meets Try.prog 96 [.slice a n c, s.v, .func (.func 97) #[] #[]] [] (fun W => SeesP W a (bytesV l) ∧ RowsAt W s 32 ls) (fun v out => FreshRow v out (bytesV (l ++ numB (UInt64.ofNat s.n) ++ ls.flatten)) 5 (n + szN s.n + s.n * 32) 1) := by
  intro W hW
  have hz := szN_pos s.n
  have hon := ofNat_nat (n := s.n) (by omega)
  have hll := hW.2.len
  refine calls_of (hp0 := []) Try.func96 rfl 26 Try.ntmps96 rfl (HRep.nil _) ?_
  refine Sat.seq ?_
  -- region 0
  refine Sat.region ?_
  refine Tr.assign rfl rfl rfl ?_
  refine Tr.nil ?_
  refine at_n ?_
  refine Sat.seq ?_
  -- region 1
  refine Sat.region ?_
  refine Tr.move rfl rfl rfl ?_
  refine Tr.move rfl rfl rfl ?_
  refine Tr.lenSl rfl rfl rfl Try.underlying26 ?_
  refine Tr.conv rfl rfl rfl Try.underlying3 Try.underlying24 (cv_i64_u64 _) ?_
  rw [word_nat (n := s.n) (by omega)]
  refine Tr.call4 rfl rfl rfl rfl rfl Body90 (oct_Number a n c l (UInt64.ofNat s.n) hl hp (by omega)) (fun w h => seesP_ext h rfl hW.1) ?_
  rintro v13 out13 ⟨q1, c1, rfl, hc1, rfl⟩
  rw [hon] at hc1 ⊢
  refine Tr.assign rfl rfl rfl ?_
  refine Tr.nil ?_
  refine at_n ?_
  refine Sat.seq ?_
  refine Sat.seq ?_
  -- region 2
  refine Sat.region ?_
  refine Tr.move rfl rfl rfl ?_
  refine Tr.lenSl rfl rfl rfl Try.underlying26 ?_
  refine Tr.move rfl rfl rfl ?_
  refine Tr.nil ?_
  refine at_n ?_
  refine Sat.block ?_
  refine Sat.loop (ι := Nat × Nat × Nat) (fun p => ⟨[(0, .slice (some ⟨p.2.1, 0, none⟩) (n + szN s.n + p.1 * 32) p.2.2), (2, .func (.func 97) #[] #[]), (14, s.v), (15, i64 (s.n : Int)), (16, i64 (p.1 : Int))], [⟨p.2.1, bytesV (l ++ numB (UInt64.ofNat s.n) ++ (ls.take p.1).flatten), 5, p.2.2 * 1⟩]⟩) (fun p => p.1 ≤ s.n ∧ n + szN s.n + p.1 * 32 ≤ p.2.2) (fun p => s.n - p.1) ((0, q1, c1)) ?_ ?_ ?_
  · exact ⟨Nat.zero_le _, by simp only []; omega⟩
  · exact weak_of (wk1 (by simp only [Nat.zero_mul, Nat.add_zero]; rfl) (wk1 rfl (wk1 rfl (wk1 rfl (wk1 rfl wk0))))) (wh1 (by simp only [List.take_zero, List.flatten_nil, List.append_nil]; exact mem0) wh0) (by repeat (first | exact ns_nil | refine ns_keep rfl ?_ | refine ns_skip ?_))
  ·
    rintro p ⟨hp1, hp2⟩
    refine Sat.seq ?_
    -- region 3
    refine Sat.region ?_
    refine Tr.lss rfl rfl rfl rfl rfl ?_
    refine Tr.nil ?_
    refine at_n ?_
    refine Sat.seq ?_
    first
      | refine Sat.condP rfl (fun hc0 => ?_) (fun hc0 => ?_)
      | refine Sat.condNP rfl (fun hc0 => ?_) (fun hc0 => ?_)
      | refine Sat.cond rfl (fun hc0 => ?_) (fun hc0 => ?_)
    ·
      have hk2 : p.1 < s.n := by omega
      obtain ⟨b, o, hbp, hbs⟩ := hW.2.see.at (by rw [flatB_length hW.2.row]; omega)
      have hr0 : (ls.getD p.1 []).length = 32 := getD_len hW.2.row (by omega)
      refine Sat.skip ?_
      refine at_n ?_
      refine Sat.seq ?_
      refine Sat.block ?_
      refine Sat.seq ?_
      -- region 4
      refine Sat.region ?_
      refine Tr.idxSlP 32 rfl rfl rfl hbp rfl Try.underlying26 Sz25 p.1 rfl (by omega) ?_
      refine Tr.loadEN (bytesV (ls.getD (p.1) [])) rfl rfl rfl Try.underlying25 rfl Sz25 (by simp) (by rw [bytesV, List.length_map]; exact getD_len hW.2.row (by omega)) (sees_row hW.2.row hbs (by omega)) ?_
      refine Tr.alloc (cs := (bytesV (List.replicate 32 0))) rfl Zr25 rfl ?_
      intro n8 hn8 hf8
      first
        | refine Tr.storeAll rfl rfl rfl rfl (by first | exact bytesV_cell _ | simp [isCell]) Sz25 (by first | assumption | (simp [hr0]; done) | (rw [bytesV, List.length_map]; assumption)) (by first | exact mem0 | exact mem1 | exact mem2 | exact mem3 | exact mem4 | exact mem5 | exact mem6 | exact mem7 | (repeat (first | exact List.mem_cons_self | refine List.mem_cons_of_mem _ ?_ | refine mem_seg ?_))) (by first | assumption | (simp [hr0]; done) | (rw [bytesV, List.length_map]; assumption)) (by first | exact upd0 | exact upd1 | exact upd2 | exact upd3 | exact upd4 | exact upd5 | exact upd6 | exact upd7 | (repeat (first | exact upd0 | apply Upd.tail | apply Upd.seg))) ?_
        | refine Tr.storeN _ rfl rfl rfl rfl rfl (by first | exact bytesV_cell _ | simp [isCell]) Sz25 (by first | assumption | (simp [hr0]; done) | (rw [bytesV, List.length_map]; assumption)) (by first | exact mem0 | exact mem1 | exact mem2 | exact mem3 | exact mem4 | exact mem5 | exact mem6 | exact mem7 | (repeat (first | exact List.mem_cons_self | refine List.mem_cons_of_mem _ ?_ | refine mem_seg ?_))) (by first | assumption | (simp [hr0]; done) | (rw [bytesV, List.length_map]; assumption)) (by exact rfl) (by first | exact upd0 | exact upd1 | exact upd2 | exact upd3 | exact upd4 | exact upd5 | exact upd6 | exact upd7 | (repeat (first | exact upd0 | apply Upd.tail | apply Upd.seg))) ?_
      refine Tr.nil ?_
      refine at_n ?_
      -- region 5
      refine Sat.region ?_
      refine Tr.move rfl rfl rfl ?_
      refine Tr.move rfl rfl rfl ?_
      first
        | refine Tr.loadAll rfl rfl rfl Try.underlying25 rfl Sz25 (by first | exact mem0 | exact mem1 | exact mem2 | exact mem3 | exact mem4 | exact mem5 | exact mem6 | exact mem7 | (repeat (first | exact List.mem_cons_self | refine List.mem_cons_of_mem _ ?_ | refine mem_seg ?_))) (by first | assumption | (simp [hr0]; done) | (rw [bytesV, List.length_map]; assumption)) ?_
        | refine Tr.loadN _ rfl rfl rfl Try.underlying25 rfl Sz25 (by first | exact mem0 | exact mem1 | exact mem2 | exact mem3 | exact mem4 | exact mem5 | exact mem6 | exact mem7 | (repeat (first | exact List.mem_cons_self | refine List.mem_cons_of_mem _ ?_ | refine mem_seg ?_))) (by exact rfl) (by first | assumption | (simp [hr0]; done) | (rw [bytesV, List.length_map]; assumption)) ?_
      refine Tr.callL (L := [⟨p.2.1, bytesV (l ++ numB (UInt64.ofNat s.n) ++ (ls.take p.1).flatten), 5, p.2.2 * 1⟩]) rfl rfl rfl rfl rfl Body97 (put_digest p.2.1 (n + szN s.n + p.1 * 32) p.2.2 (l ++ numB (UInt64.ofNat s.n) ++ (ls.take p.1).flatten) (ls.getD p.1 []) (by simp only [List.length_append, numB_length, hon, hl, flatten_take_len hW.2.row (show p.1 ≤ ls.length by omega)]) hr0 hp2 (by omega)) (by repeat (first | exact rem_here | apply rem_there | apply rem_seg)) (by intro m hm; exact ⟨_, List.mem_singleton.2 rfl, (List.mem_singleton.1 hm).symm⟩) (fun w h => own_blk h (by first | exact mem0 | exact mem1 | exact mem2 | exact mem3 | exact mem4 | exact mem5 | exact mem6 | exact mem7 | (repeat (first | exact List.mem_cons_self | refine List.mem_cons_of_mem _ ?_ | refine mem_seg ?_)))) ?_
      rintro v23 out23 ⟨q2, c2, rfl, hq2, rfl⟩
      refine Tr.assign rfl rfl rfl ?_
      refine Tr.nil ?_
      refine bl_n ?_
      refine at_n ?_
      -- region 6
      refine Sat.region ?_
      refine Tr.add_i64 rfl rfl rfl rfl (by omega) ?_
      refine Tr.move rfl rfl rfl ?_
      refine Tr.nil ?_
      refine at_n ?_
      exact ⟨(p.1 + 1, q2, c2), ⟨by simp only []; omega, by simp only []; omega⟩, by simp only []; omega, weak_of (wk1 (by rw [show n + szN s.n + (p.1 + 1) * 32 = n + szN s.n + p.1 * 32 + 32 by omega]; rfl) (wk1 rfl (wk1 rfl (wk1 rfl (wk1 rfl wk0))))) (wh1 (by rw [flatten_take_step (show p.1 < ls.length by omega), ← List.append_assoc]; exact mem0) wh0) (by repeat (first | exact ns_nil | refine ns_keep rfl ?_ | refine ns_skip ?_))⟩
    ·
      have hpe : p.1 = s.n := by omega
      refine Sat.exit ?_
      refine at_x ?_
      refine at_x ?_
      refine bl_h ?_
      refine at_n ?_
      refine Sat.seq ?_
      -- region 7
      refine Sat.region ?_
      refine Tr.move rfl rfl rfl ?_
      refine Tr.assign rfl rfl rfl ?_
      refine Tr.nil ?_
      refine at_n ?_
      refine Sat.ret ?_
      refine en_r ?_
      refine ⟨_, [⟨p.2.1, bytesV (l ++ numB (UInt64.ofNat s.n) ++ ls.flatten), 5, p.2.2 * 1⟩], res_tmp rfl rfl, (by intro b hb; rw [List.mem_singleton.1 hb, show ls.flatten = (ls.take p.1).flatten by rw [List.take_of_length_le (by omega)]]; exact mem0), nodup1, ⟨p.2.1, p.2.2, by rw [hpe], by omega, rfl⟩⟩


def mz (k : Int) (h : UInt64) : Msg := ⟨k, h, Sl.nil, Sl.nil, Sl.nil, Sl.nil, Sl.nil, Sl.nil⟩
def dz (k : Int) (h : UInt64) : DMsg := ⟨k, h, [], [], [], [], [], []⟩
theorem rows_none {W : World} {m : Nat} : RowsAt W Sl.nil m [] := ⟨rfl, fun l h => (by cases h), Nat.le_refl _, SeesP.nil, by decide, fun _ => rfl⟩
theorem mz_is {W : World} (k : Int) (h : UInt64) (hk : (Lit.int .i64 k).wf = true) : MsgIs W (mz k h) (dz k h) :=
  ⟨⟨trivial⟩, rfl, hk, rfl, rows_none, rows_none, ⟨[], SeqIs.none⟩, ⟨[], SeqIs.none⟩, ⟨[], SeqIs.none⟩, ⟨[], SeqIs.none⟩⟩
theorem mz_hello : (dz 1 3).check = 0 := msg_good (by unfold DMsg.bad; decide)
theorem mz_blocks : (dz 3 0).check = 2 := msg_bad (by unfold DMsg.bad; decide)
/-- the bytes of a message of kind 1 -/
def helloB (D : DMsg) : List UInt8 := [1] ++ numB D.dHeight ++ numB (UInt64.ofNat D.dHeads.length) ++ D.dHeads.flatten
theorem hello_ex : helloB (dz 1 3) = [1, 3, 0] := by kernel_rfl


set_option maxRecDepth 100000 in
set_option maxHeartbeats 4000000 in
theorem bytes_hello (m : Msg) (D : DMsg) (hk : D.dKind = 1) (hc : D.check = 0) (hh : D.dHeads.length ≤ 40) : Meets Try.prog 49 [agg m.cells] [] (fun W => MsgIs W m D) (fun v out => ∃ q c, v = .tuple #[.slice (some ⟨q, 0, none⟩) (helloB D).length c, i64 0] ∧ (helloB D).length ≤ c ∧ out = [⟨q, bytesV (helloB D), 5, c * 1⟩]) := by
  intro W hW
  have hok := hW.ok
  have hkm : m.fKind = 1 := hW.fKind.trans hk
  have hpk : partsI m.fKind = 3 := by rw [hkm]; rfl
  have hhl := hW.fHeads.len
  have hz1 := szN_pos m.fHeight.toNat
  have hz2 := szN_pos m.fHeads.n
  have hbk : Hw.byteOf m.fKind = 1 := by rw [hkm]; rfl
  refine calls_of (hp0 := []) Try.func49 rfl 73 Try.ntmps49 rfl (HRep.nil _) ?_
  refine Sat.seq ?_
  -- region 0
  refine Sat.region ?_
  refine Tr.boxA rfl rfl ?_
  intro n1 hn1 hf1
  refine Tr.assign rfl rfl rfl ?_
  refine Tr.assign rfl rfl rfl ?_
  refine Tr.nil ?_
  refine at_n ?_
  refine Sat.seq ?_
  refine Sat.seq ?_
  -- region 1
  refine Sat.region ?_
  refine Tr.loadAll rfl rfl rfl Try.underlying49 rfl Sz49 (by first | exact mem0 | exact mem1 | exact mem2 | exact mem3 | exact mem4 | exact mem5 | exact mem6 | exact mem7 | (repeat (first | exact List.mem_cons_self | refine List.mem_cons_of_mem _ ?_ | refine mem_seg ?_))) (Msg.length (by first | assumption | (simp; done) | exact Block.zero_ok | exact Vote.zero_ok | exact Reader.zero_ok | exact Cut.zero_ok | exact Cert.zero_ok | exact Msg.zero_ok | exact Inbox.zero_ok | exact Record.zero_ok | exact Kept.zero_ok  | exact hok)) ?_
  refine Tr.callV rfl rfl rfl rfl Body18 (msg_check m D) (fun w h => hW.ext h rfl) ?_
  refine Tr.assign rfl rfl rfl ?_
  refine Tr.nil ?_
  refine at_n ?_
  refine Sat.seq ?_
  -- region 2
  refine Sat.region ?_
  refine Tr.move rfl rfl rfl ?_
  refine Tr.nei rfl rfl rfl rfl (show (!decide _) = false from congrArg not (decide_eq_true (hc))) ?_
  refine Tr.nil ?_
  refine at_n ?_
  refine Sat.cond_f rfl (rfl) ?_
  refine Sat.skip ?_
  refine at_n ?_
  refine Sat.seq ?_
  -- region 4
  refine Sat.region ?_
  refine Tr.fld rfl rfl rfl Try.underlying49 rfl Sz3 (by decide) _ rfl ?_
  refine Tr.load1 rfl rfl rfl Try.underlying3 rfl (by first | exact mem0 | exact mem1 | exact mem2 | exact mem3 | exact mem4 | exact mem5 | exact mem6 | exact mem7 | (repeat (first | exact List.mem_cons_self | refine List.mem_cons_of_mem _ ?_ | refine mem_seg ?_))) (by first | exact Msg.get_fKind (by first | assumption | (simp; done) | exact Block.zero_ok | exact Vote.zero_ok | exact Reader.zero_ok | exact Cut.zero_ok | exact Cert.zero_ok | exact Msg.zero_ok | exact Inbox.zero_ok | exact Record.zero_ok | exact Kept.zero_ok  | exact hok) | exact (by first | rfl | exact get_words (by first | omega | (simp; done) | (simp; omega)) | exact get_bytes (by first | omega | (simp; done) | (simp; omega)) | exact get_ints (by first | omega | (simp; done) | (simp; omega)))) ?_
  refine Tr.callV rfl rfl rfl rfl Body50 ((show Meets _ _ _ _ _ (fun v out => v = i64 3 ∧ out = []) from by have h := sync_parts m.fKind; rwa [hpk] at h)) (fun _ _ => trivial) ?_
  refine Tr.assign rfl rfl rfl ?_
  refine Tr.nil ?_
  refine at_n ?_
  refine Sat.seq ?_
  -- region 5
  refine Sat.region ?_
  refine Tr.fld rfl rfl rfl Try.underlying49 rfl Sz3 (by decide) _ rfl ?_
  refine Tr.load1 rfl rfl rfl Try.underlying3 rfl (by first | exact mem0 | exact mem1 | exact mem2 | exact mem3 | exact mem4 | exact mem5 | exact mem6 | exact mem7 | (repeat (first | exact List.mem_cons_self | refine List.mem_cons_of_mem _ ?_ | refine mem_seg ?_))) (by first | exact Msg.get_fKind (by first | assumption | (simp; done) | exact Block.zero_ok | exact Vote.zero_ok | exact Reader.zero_ok | exact Cut.zero_ok | exact Cert.zero_ok | exact Msg.zero_ok | exact Inbox.zero_ok | exact Record.zero_ok | exact Kept.zero_ok  | exact hok) | exact (by first | rfl | exact get_words (by first | omega | (simp; done) | (simp; omega)) | exact get_bytes (by first | omega | (simp; done) | (simp; omega)) | exact get_ints (by first | omega | (simp; done) | (simp; omega)))) ?_
  refine Tr.conv rfl rfl rfl Try.underlying3 Try.underlying5 (cv_i64_u8 _) ?_
  rw [hbk]
  refine Tr.mkRow (z := u8 0) [u8 1] (bytesV [1]) rfl rfl rfl Try.underlying27 Sz5 Zr5 rfl rfl (by intro v hv; rw [List.mem_singleton.1 hv]; rfl) (by decide) rfl ?_
  intro q18
  refine Tr.assign rfl rfl rfl ?_
  refine Tr.nil ?_
  refine at_n ?_
  refine Sat.seq ?_
  refine Sat.seq ?_
  -- region 6
  refine Sat.region ?_
  refine Tr.move rfl rfl rfl ?_
  refine Tr.and_i64 rfl rfl rfl rfl ?_
  refine Tr.nei rfl rfl rfl rfl (show (!decide _) = true from congrArg not (decide_eq_false (by decide))) ?_
  refine Tr.nil ?_
  refine at_n ?_
  refine Sat.cond_t rfl (rfl) ?_
  -- region 7
  refine Sat.region ?_
  refine Tr.move rfl rfl rfl ?_
  refine Tr.fld rfl rfl rfl Try.underlying49 rfl Sz24 (by decide) _ rfl ?_
  refine Tr.load1 rfl rfl rfl Try.underlying24 rfl (by first | exact mem0 | exact mem1 | exact mem2 | exact mem3 | exact mem4 | exact mem5 | exact mem6 | exact mem7 | (repeat (first | exact List.mem_cons_self | refine List.mem_cons_of_mem _ ?_ | refine mem_seg ?_))) (by first | exact Msg.get_fHeight (by first | assumption | (simp; done) | exact Block.zero_ok | exact Vote.zero_ok | exact Reader.zero_ok | exact Cut.zero_ok | exact Cert.zero_ok | exact Msg.zero_ok | exact Inbox.zero_ok | exact Record.zero_ok | exact Kept.zero_ok  | exact hok) | exact (by first | rfl | exact get_words (by first | omega | (simp; done) | (simp; omega)) | exact get_bytes (by first | omega | (simp; done) | (simp; omega)) | exact get_ints (by first | omega | (simp; done) | (simp; omega)))) ?_
  refine Tr.call4 rfl rfl rfl rfl rfl Body90 (oct_Number (some ⟨q18, 0, none⟩) 1 1 [1] m.fHeight rfl (fun e => by cases e) (by decide)) (fun w h => SeesP.of (sees_own h (by first | exact mem0 | exact mem1 | exact mem2 | exact mem3 | exact mem4 | exact mem5 | exact mem6 | exact mem7 | (repeat (first | exact List.mem_cons_self | refine List.mem_cons_of_mem _ ?_ | refine mem_seg ?_))))) ?_
  rintro v25 out25 ⟨q25, c25, rfl, hc25, rfl⟩
  refine Tr.assign rfl rfl rfl ?_
  refine Tr.nil ?_
  refine at_n ?_
  refine Sat.seq ?_
  refine Sat.seq ?_
  -- region 8
  refine Sat.region ?_
  refine Tr.move rfl rfl rfl ?_
  refine Tr.and_i64 rfl rfl rfl rfl ?_
  refine Tr.nei rfl rfl rfl rfl (show (!decide _) = true from congrArg not (decide_eq_false (by decide))) ?_
  refine Tr.nil ?_
  refine at_n ?_
  refine Sat.cond_t rfl (rfl) ?_
  -- region 9
  refine Sat.region ?_
  refine Tr.move rfl rfl rfl ?_
  refine Tr.fld rfl rfl rfl Try.underlying49 rfl Sz26 (by decide) _ rfl ?_
  refine Tr.load1 rfl rfl rfl Try.underlying26 rfl (by first | exact mem0 | exact mem1 | exact mem2 | exact mem3 | exact mem4 | exact mem5 | exact mem6 | exact mem7 | (repeat (first | exact List.mem_cons_self | refine List.mem_cons_of_mem _ ?_ | refine mem_seg ?_))) (by first | exact Msg.get_fHeads (by first | assumption | (simp; done) | exact Block.zero_ok | exact Vote.zero_ok | exact Reader.zero_ok | exact Cut.zero_ok | exact Cert.zero_ok | exact Msg.zero_ok | exact Inbox.zero_ok | exact Record.zero_ok | exact Kept.zero_ok  | exact hok) | exact (by first | rfl | exact get_words (by first | omega | (simp; done) | (simp; omega)) | exact get_bytes (by first | omega | (simp; done) | (simp; omega)) | exact get_ints (by first | omega | (simp; done) | (simp; omega)))) ?_
  refine Tr.call4 rfl rfl rfl rfl rfl Body96 (put_digests (some ⟨q25, 0, none⟩) (1 + szN m.fHeight.toNat) c25 ([1] ++ numB m.fHeight) m.fHeads D.dHeads (by simp [numB_length]; omega) (fun e => by cases e) (by omega) (by omega)) (fun w h => ⟨SeesP.of (sees_own h (by first | exact mem0 | exact mem1 | exact mem2 | exact mem3 | exact mem4 | exact mem5 | exact mem6 | exact mem7 | (repeat (first | exact List.mem_cons_self | refine List.mem_cons_of_mem _ ?_ | refine mem_seg ?_)))), rows_ext h rfl hW.fHeads⟩) ?_
  rintro v32 out32 ⟨q32, c32, rfl, hc32, rfl⟩
  refine Tr.assign rfl rfl rfl ?_
  refine Tr.nil ?_
  refine at_n ?_
  refine Sat.seq ?_
  refine Sat.seq ?_
  -- region 10
  refine Sat.region ?_
  refine Tr.move rfl rfl rfl ?_
  refine Tr.and_i64 rfl rfl rfl rfl ?_
  refine Tr.nei rfl rfl rfl rfl (show (!decide _) = false from congrArg not (decide_eq_true (by decide))) ?_
  refine Tr.nil ?_
  refine at_n ?_
  refine Sat.cond_f rfl (rfl) ?_
  refine Sat.skip ?_
  refine at_n ?_
  refine Sat.seq ?_
  refine Sat.seq ?_
  -- region 12
  refine Sat.region ?_
  refine Tr.move rfl rfl rfl ?_
  refine Tr.and_i64 rfl rfl rfl rfl ?_
  refine Tr.nei rfl rfl rfl rfl (show (!decide _) = false from congrArg not (decide_eq_true (by decide))) ?_
  refine Tr.nil ?_
  refine at_n ?_
  refine Sat.cond_f rfl (rfl) ?_
  refine Sat.skip ?_
  refine at_n ?_
  refine Sat.seq ?_
  refine Sat.seq ?_
  -- region 14
  refine Sat.region ?_
  refine Tr.move rfl rfl rfl ?_
  refine Tr.and_i64 rfl rfl rfl rfl ?_
  refine Tr.nei rfl rfl rfl rfl (show (!decide _) = false from congrArg not (decide_eq_true (by decide))) ?_
  refine Tr.nil ?_
  refine at_n ?_
  refine Sat.cond_f rfl (rfl) ?_
  refine Sat.skip ?_
  refine at_n ?_
  refine Sat.seq ?_
  refine Sat.seq ?_
  -- region 16
  refine Sat.region ?_
  refine Tr.move rfl rfl rfl ?_
  refine Tr.and_i64 rfl rfl rfl rfl ?_
  refine Tr.nei rfl rfl rfl rfl (show (!decide _) = false from congrArg not (decide_eq_true (by decide))) ?_
  refine Tr.nil ?_
  refine at_n ?_
  refine Sat.cond_f rfl (rfl) ?_
  refine Sat.skip ?_
  refine at_n ?_
  refine Sat.seq ?_
  refine Sat.seq ?_
  -- region 18
  refine Sat.region ?_
  refine Tr.move rfl rfl rfl ?_
  refine Tr.and_i64 rfl rfl rfl rfl ?_
  refine Tr.nei rfl rfl rfl rfl (show (!decide _) = false from congrArg not (decide_eq_true (by decide))) ?_
  refine Tr.nil ?_
  refine at_n ?_
  refine Sat.cond_f rfl (rfl) ?_
  refine Sat.skip ?_
  refine at_n ?_
  refine Sat.seq ?_
  -- region 20
  refine Sat.region ?_
  refine Tr.move rfl rfl rfl ?_
  refine Tr.assign rfl rfl rfl ?_
  refine Tr.assign rfl rfl rfl ?_
  refine Tr.nil ?_
  refine at_n ?_
  refine Sat.ret ?_
  refine en_r ?_
  have hN : (helloB D).length = 1 + szN m.fHeight.toNat + szN m.fHeads.n + m.fHeads.n * 32 := by
    have hfl := flatten_take_len hW.fHeads.row (Nat.le_refl D.dHeads.length)
    rw [List.take_length] at hfl
    simp only [helloB, List.length_append, numB_length, hfl, ← hW.fHeight, hhl, ofNat_nat (n := m.fHeads.n) (by omega), List.length_cons, List.length_nil]
  have hE : [1] ++ numB m.fHeight ++ numB (UInt64.ofNat m.fHeads.n) ++ D.dHeads.flatten = helloB D := by rw [helloB, hW.fHeight, hhl]
  refine ⟨_, [⟨q32, bytesV (helloB D), 5, c32 * 1⟩], res_tmp2 rfl rfl rfl, (by intro b hb; rw [List.mem_singleton.1 hb, ← hE]; exact mem0), nodup1, ⟨q32, c32, by rw [hN], by rw [hN]; exact hc32, rfl⟩⟩

set_option maxRecDepth 100000 in
set_option maxHeartbeats 4000000 in
theorem law25_lives  : Meets Try.prog 16 [] [] (fun _ => True) (fun v out => v = .bool true ∧ out = []) := by
  intro W hW
  refine calls_of (hp0 := []) Try.func16 rfl 20 Try.ntmps16 rfl (HRep.nil _) ?_
  refine Sat.seq ?_
  -- region 0
  refine Sat.region ?_
  refine Tr.assign rfl rfl rfl ?_
  refine Tr.nil ?_
  refine at_n ?_
  refine Sat.seq ?_
  -- region 1
  refine Sat.region ?_
  refine Tr.build (cs := (mz 1 3).cells) rfl rfl rfl (fun w => by kernel_rfl) ?_
  refine Tr.call4 rfl rfl rfl rfl rfl Body49 (bytes_hello (mz 1 3) (dz 1 3) rfl mz_hello (by decide)) (fun w h => mz_is 1 3 rfl) ?_
  rintro v5 out5 ⟨q5, c5, rfl, hc5, rfl⟩
  refine Tr.move rfl rfl rfl ?_
  refine Tr.extract rfl rfl rfl rfl ?_
  refine Tr.extract rfl rfl rfl rfl ?_
  refine Tr.assign rfl rfl rfl ?_
  refine Tr.assign rfl rfl rfl ?_
  refine Tr.nil ?_
  refine at_n ?_
  refine Sat.seq ?_
  -- region 2
  refine Sat.region ?_
  refine Tr.move rfl rfl rfl ?_
  refine Tr.eqi rfl rfl rfl rfl (decide_eq_true (rfl)) ?_
  refine Tr.move rfl rfl rfl ?_
  refine Tr.move rfl rfl rfl ?_
  refine Tr.toStr rfl rfl rfl Try.underlying27 Try.underlying5 Try.underlying9 (fun w h => SeesP.of (sees_own h (by first | exact mem0 | exact mem1 | exact mem2 | exact mem3 | exact mem4 | exact mem5 | exact mem6 | exact mem7 | (repeat (first | exact List.mem_cons_self | refine List.mem_cons_of_mem _ ?_ | refine mem_seg ?_))))) rfl ?_
  refine Tr.eql_str rfl rfl rfl rfl (decide_eq_true (hello_ex)) ?_
  refine Tr.pick rfl rfl rfl rfl rfl rfl ?_
  refine Tr.move rfl rfl rfl ?_
  refine Tr.build (cs := (mz 3 0).cells) rfl rfl rfl (fun w => by kernel_rfl) ?_
  refine Tr.callV rfl rfl rfl rfl Body18 (msg_check (mz 3 0) (dz 3 0)) (fun w h => mz_is 3 0 rfl) ?_
  refine Tr.eqi rfl rfl rfl rfl (decide_eq_true (by rw [mz_blocks])) ?_
  refine Tr.pick rfl rfl rfl rfl rfl rfl ?_
  refine Tr.assign rfl rfl rfl ?_
  refine Tr.nil ?_
  refine at_n ?_
  refine Sat.ret ?_
  refine en_r ?_
  refine ⟨_, [], res_tmp rfl rfl, (by simp), (by simp), ?_, rfl⟩
  rfl

end Go.Proofs.Ytejjamifnombhaa
end

section
namespace Hw
open Go Go.RowKit
set_option linter.unusedSimpArgs false
set_option linter.unusedVariables false
section
variable {C : Cx} {fn : Func} {s : St}
theorem res_tmp_cell_tmp {t0 t t2 : Tmp} {T : TypeId} {td : TypeDesc} {n b : Nat} {cs : List Value} {BT : TypeId} {m : Nat} {v0 v2 : Value} (hr : fn.results = #[.tmp t0, .cell t T, .tmp t2]) (hv0 : look s.sl t0 = some v0) (hv : look s.sl t = some (ptr b 0)) (hv2 : look s.sl t2 = some v2) (hu : C.P.underlying T = some td) (hp' : plainDesc td = false) (hs : Sz C.P T n) (hb : (⟨b, cs, BT, m⟩ : Blk) ∈ s.hp) (hn : cs.length = n) :
    Res C fn s (.tuple #[v0, agg cs, v2]) := by
  intro a w r
  have h0 := r.rs.slots t0 _ hv0
  have h1 := r.rs.slots t _ hv
  have h2 := r.rs.slots t2 _ hv2
  simp [results, hr, h0, h1, h2, asAddr, run_cellAll r.rh hu hp' hs hb hn]
end

/-- a row of one's own, from some place of its block on -/
def AccO (s : Sl) (bl : List Blk) (cells : List Value) (E : TypeId) (n : Nat) : Prop :=
  (s = Sl.nil ∧ bl = [] ∧ cells = [] ∧ n = 0) ∨ ∃ q o c m pre post, s = ⟨some ⟨q, o, none⟩, n, c⟩ ∧ n ≤ c ∧ cells.length = n ∧ pre.length = o ∧ (post = [] ∨ n = c) ∧ o + c ≤ m ∧ bl = [⟨q, pre ++ cells ++ post, E, m⟩]
section
variable {s : Sl} {bl : List Blk} {cells : List Value} {E : TypeId} {n : Nat}
theorem AccO.none : AccO Sl.nil [] [] E 0 := .inl ⟨rfl, rfl, rfl, rfl⟩
theorem AccO.num (h : AccO s bl cells E n) : s.n = n := by rcases h with ⟨rfl, _, _, rfl⟩ | ⟨q, o, c, m, pre, post, rfl, _⟩ <;> rfl
theorem AccO.len (h : AccO s bl cells E n) : cells.length = n := by rcases h with ⟨_, _, rfl, rfl⟩ | ⟨q, o, c, m, pre, post, _, _, h, _⟩; rfl; exact h
theorem AccO.cap (h : AccO s bl cells E n) : s.n ≤ s.c := by rcases h with ⟨rfl, _⟩ | ⟨q, o, c, m, pre, post, rfl, h, _⟩; exact Nat.le_refl _; exact h
theorem AccO.nilc (h : AccO s bl cells E n) (hp : s.p = .none) : s.c = 0 := by rcases h with ⟨rfl, _⟩ | ⟨q, o, c, m, pre, post, rfl, _⟩; rfl; cases hp
theorem AccO.see (h : AccO s bl cells E n) {w : World} (hw : Lies bl w) : SeesP w s.p cells := by
  rcases h with ⟨_, _, rfl, _⟩ | ⟨q, o, c, m, pre, post, rfl, _, h3, h4, _, _, rfl⟩
  · exact SeesP.nil
  · refine SeesP.of fun j v hj => ?_
    refine (hw _ (List.mem_singleton.2 rfl)).cell (o := o + j) (v := v) ?_
    show (pre ++ cells ++ post)[o + j]? = some v
    have hlt := (List.getElem?_eq_some_iff.1 hj).1
    rw [List.append_assoc, List.getElem?_append_right (by omega), h4, Nat.add_sub_cancel_left, List.getElem?_append_left hlt]
    exact hj
theorem AccO.pos (h : AccO s bl cells E n) (hn : 0 < n) : ∃ q o c m pre post, s = ⟨some ⟨q, o, .none⟩, n, c⟩ ∧ n ≤ c ∧ cells.length = n ∧ pre.length = o ∧ (post = [] ∨ n = c) ∧ o + c ≤ m ∧ bl = [⟨q, pre ++ cells ++ post, E, m⟩] := by
  rcases h with ⟨_, _, _, rfl⟩ | h
  · exact absurd hn (by decide)
  · exact h
/-- without the first -/
theorem AccO.cut {q o c m : Nat} {pre post : List Value} {x : Value} {l : List Value} (hc : n + 1 ≤ c) (hl : l.length = n) (hp : pre.length = o) (hpo : post = [] ∨ n + 1 = c) (hm : o + c ≤ m) : AccO ⟨some ⟨q, if c = 1 then o else o + 1 * 1, .none⟩, n + 1 - 1, c - 1⟩ [⟨q, pre ++ (x :: l) ++ post, E, m⟩] l E n := by
  by_cases e : c = 1
  · obtain rfl : n = 0 := by omega
    obtain rfl : l = [] := List.eq_nil_of_length_eq_zero hl
    subst e
    rw [if_pos rfl]
    exact .inr ⟨q, o, 0, m, pre, x :: post, rfl, Nat.le_refl _, rfl, hp, .inr rfl, by omega, by simp⟩
  · rw [if_neg e]
    exact .inr ⟨q, o + 1, c - 1, m, pre ++ [x], post, by simp, by omega, hl, by simp [hp], hpo.imp_right (fun h => by omega), by omega, by simp⟩
theorem Acc.off {c : Nat} (h : Acc s bl cells E n 1) : AccO s bl cells E n := by
  rcases h with ⟨rfl, rfl, rfl, rfl⟩ | ⟨q, c, rfl, h1, h2, rfl⟩
  · exact .inl ⟨rfl, rfl, rfl, rfl⟩
  · exact .inr ⟨q, 0, c, c * 1, [], [], rfl, h1, by omega, rfl, .inl rfl, by omega, by simp⟩
end
section
variable {C : Cx} {ops : Array Oper} {rest : List (Nat × Oper)} {sl : List (Nat × Value)} {hp hp' : List Blk} {Q : St → Prop} {c d : Nat} {ty : TypeId} {pos : String} {af : Array Edge} {g : Option (Nat × Bool)}
theorem Tr.appendO {x y : Operand} {s : Sl} {bl : List Blk} {n m by' c2 : Nat} {T tx E E2 : TypeId} {z : Value} {olds : List Value} {p : Option Addr} (news : List Value) (hg : guardOk ops sl g = true) (hc : Nat.beq c 4 = true) (hd : Nat.blt d C.N = true)
    (hx : evIn sl x = some s.v) (hy : evIn sl y = some (.slice p m c2)) (hu : C.P.underlying T = some (.slice E)) (hut : C.P.underlying tx = some (.slice E2)) (hs : Sz C.P E 1) (hz : Zr C.P E z) (hb : By C.P E by') (hzc : z.cells.size = 1)
    (hacc : AccO s bl olds E n) (hp1 : hp.Perm (bl ++ hp')) (hsee : ∀ w, HRep C hp w → SeesP w p news) (hm0 : 0 < m) (hpn : p = none → m = 0) (hcell : ∀ u ∈ news, isCell u = true)
    (hbig : n + m ≤ 1000000) (hfit : (n + m) * by' ≤ 140737488355328) (hnl : news.length = m)
    (k : ∀ s' bl', AccO s' bl' (olds ++ news) E (n + m) → Tr C ops rest ⟨(d, s'.v) :: sl, bl' ++ hp'⟩ Q) :
    Tr C ops ((c, ⟨some d, .call { callee := .builtin .append, args := #[x, y], argTypes := #[T, tx] }, ty, pos, af, g⟩) :: rest) ⟨sl, hp⟩ Q := by
  rcases hacc with ⟨rfl, rfl, rfl, rfl⟩ | ⟨b, o, cap, cm, pre, post, rfl, hnc, hol, hpre, hpo, hcm, rfl⟩
  · exact Tr.appendAcc news hg hc hd hx hy hu hut hs hz hb hzc Acc.none hp1 hsee hpn hcell hbig hfit (by omega) (fun s' bl' h => k s' bl' (Acc.off (c := 0) h))
  · refine Tr.act (ρ := Sl × List Blk) (fun r => AccO r.1 r.2 (olds ++ news) E (n + m)) (fun r => r.1.v) (fun r => r.2 ++ hp') (nbeq' hc) (wantS_of_guardOk hg) (dst_some (nblt hd))
      ⟨by simpa [Known, Op.operands, Call.operands] using known2 hx hy, fun a w hf hh => ?_⟩ (fun r hr => k r.1 r.2 hr)
    have h1 := hf x (by simp [Op.operands, Call.operands]); rw [hx] at h1
    have h2 := hf y (by simp [Op.operands, Call.operands]); rw [hy] at h2
    simp only [Option.some.injEq, Sl.v] at h1 h2
    have hh' := hh.perm hp1
    obtain ⟨full, fr, hbk⟩ := hh'.cells _ List.mem_cons_self
    have hlt := (hh'.cells _ List.mem_cons_self).lt
    have hsz := hs
    unfold Sz at hs; unfold Zr at hz; unfold By at hb
    cases hi : C.P.info? E with
    | none => rw [hi] at hs; simp at hs
    | some i =>
      rw [hi] at hs hz hb
      simp only [Option.map_some, Option.some.injEq, Option.bind_some] at hs hz hb
      have hS : Src C.P i.size tx (.slice p m c2) m news w := Src.ofP hut (hsee w hh) hpn (by rw [hs, hnl, Nat.mul_one]) hcell
      unfold Oper.wp
      rcases Nat.lt_or_ge cap (n + m) with hr | hr
      · have hold : (Builtin.firstCells i.size n (.slice (some ⟨b, o, none⟩) n cap)).run C.P w.drew = .ok olds.toArray w.drew := by
          refine run_firstCells_some w.drew i.size n ⟨b, o, none⟩ n cap olds (by rw [hs]; omega) (fun j u hj => ?_)
          rw [add_addr]
          refine (hh'.cells _ List.mem_cons_self).cell (o := o + j) (v := u) ?_
          show (pre ++ olds ++ post)[o + j]? = some u
          have hlt2 := (List.getElem?_eq_some_iff.1 hj).1
          rw [List.append_assoc, List.getElem?_append_right (by omega), hpre, Nat.add_sub_cancel_left, List.getElem?_append_left hlt2]
          exact hj
        have hrun := run_append_grow_src (P := C.P) w T tx ty E i z hu hi hz (some ⟨b, o, none⟩) n cap olds hold _ m news hS hr (by omega) (growslice_fits hr (by rw [hb]; exact hfit))
        have hge := grownCap_ge w (n + m) cap E
        have hex : (execOp a.eval ⟨some d, .call { callee := .builtin .append, args := #[x, y], argTypes := #[T, tx] }, ty, pos, af, g⟩).run C.P w = .ok (.value (.slice (some ⟨w.heap.size, 0, none⟩) (n + m) (grownCap w (n + m) cap E))) (w.drew.alloc (.cells ((olds ++ news).toArray ++ Builtin.zeroCells z.cells (grownCap w (n + m) cap E - (n + m))) E)) := by
          simp [execOp, resolve, invoke, builtin, ← h1, ← h2, hrun]
        rw [hex]
        have hnd : (hp'.map (·.n)).Nodup := by
          have := hh'.nodup
          simp only [List.cons_append, List.nil_append, List.map_cons, List.nodup_cons] at this
          exact this.2
        refine ⟨(⟨some ⟨w.heap.size, 0, none⟩, n + m, grownCap w (n + m) cap E⟩, [⟨w.heap.size, olds ++ news, E, grownCap w (n + m) cap E⟩]), .inr ⟨w.heap.size, 0, grownCap w (n + m) cap E, grownCap w (n + m) cap E, [], [], rfl, hge, by simp [hol, hnl], rfl, .inl rfl, by omega, by simp⟩, rfl, ?_⟩
        refine HRep.grown (out := [_]) (hh'.sub (fun x hx => List.mem_append_right _ hx) hnd) (Ret.pushD _ _ _ _ ?_ ?_)
        · have e : ∀ k, (Builtin.zeroCells z.cells k).size = k := fun k => by simp [Builtin.zeroCells, hzc]
          rw [Array.size_append, e, List.size_toArray, List.length_append]
          omega
        · simp
      · have hpo : post = [] := by
          rcases hpo with h | h
          · exact h
          · omega
        subst hpo
        have hsz2 := hbk.size
        simp only at hsz2
        have hst := run_storeCells (P := C.P) (b := b) (o := o + n) news 0 w full hbk.heap (by omega) (by rw [hbk.size]; exact hbk.free) hcell
        simp only [Nat.add_zero] at hst
        have hap : (Builtin.append_ #[T, tx] ty #[.slice (some ⟨b, o, none⟩) n cap, .slice p m c2]).run C.P w = .ok (.slice (some ⟨b, o, none⟩) (n + m) cap) (setBlk w b (putAll full (o + n) news) E fr) := by
          have hc1 : n * i.size = n := by rw [hs, Nat.mul_one]
          rcases hS.kind with ⟨e', hk⟩ | hk <;> simp [Builtin.append_, run_underlying hu, run_underlying hk, Go.sizeOf, typeInfo, hi, hS.len, hr, hS.cells, add_addr, hst, hc1]
        have hex : (execOp a.eval ⟨some d, .call { callee := .builtin .append, args := #[x, y], argTypes := #[T, tx] }, ty, pos, af, g⟩).run C.P w = .ok (.value (.slice (some ⟨b, o, none⟩) (n + m) cap)) (setBlk w b (putAll full (o + n) news) E fr) := by
          simp [execOp, resolve, invoke, builtin, ← h1, ← h2, hap]
        rw [hex]
        refine ⟨(⟨some ⟨b, o, none⟩, n + m, cap⟩, [⟨b, pre ++ (olds ++ news) ++ [], E, cm⟩]), .inr ⟨b, o, cap, cm, pre, [], rfl, hr, by simp [hol, hnl], hpre, .inl rfl, hcm, rfl⟩, rfl, ?_⟩
        refine hh'.upd (.head (cs := pre ++ olds ++ [])) hlt (by rw [putAll_size]; exact hsz2) ?_ hbk.free
        refine prefix_iff.2 fun j u hj => ?_
        rw [Array.getElem?_toList, putAll_get _ _ _ _ (by omega)]
        have hpl := hbk.pre
        simp only [List.append_nil] at hj hpl
        rcases Nat.lt_or_ge j (o + n) with hjn | hjn
        · rw [if_neg (by omega)]
          rw [← List.append_assoc, List.getElem?_append_left (by simp [hpre, hol]; omega)] at hj
          simpa using prefix_iff.1 hpl j u hj
        · rw [← List.append_assoc, List.getElem?_append_right (by simp [hpre, hol]; omega)] at hj
          have e : j - (pre ++ olds).length = j - (o + n) := by simp [hpre, hol]
          rw [e] at hj
          have hlt3 : j - (o + n) < news.length := (List.getElem?_eq_some_iff.1 hj).1
          rw [if_pos (by omega)]
          exact hj
end
end Hw
end

section
namespace Go.Proofs.Ytejjamifnombhaa
open Go Hw
set_option linter.unusedVariables false
set_option linter.unusedSimpArgs false


abbrev LC : Sl → List Value := fun x => [Sl.v x]
theorem loose_lies {R : Value → List Blk → Prop} (h : ∃ v, ∀ n, R v [⟨n, [undef], 0, 0⟩]) : Loose R := fun l hl => by
  obtain ⟨v, h⟩ := h
  obtain ⟨n, _, hn⟩ := fresh_is 0 l
  refine ⟨v, _, h n, ?_⟩
  rw [List.map_append, List.nodup_append]
  refine ⟨by simp, hl, fun i hi j hj => ?_⟩
  obtain ⟨b, hb, rfl⟩ := List.mem_map.1 hj
  simp at hi
  subst hi
  exact fun e => hn b hb e.symm
theorem OwnSeq.made {R D : Type} {cells : R → List Value} {k : Nat} {Is : World → R → D → Prop} {E : TypeId} (q c : Nat) : OwnSeq cells k Is E ⟨some ⟨q, 0, none⟩, 0, c⟩ [⟨q, [], E, c * k⟩] [] [] [] 0 :=
  ⟨Acc.some (Nat.zero_le _) (by simp), rfl, rfl, fun r h => (by cases h), fun W2 _ i r d h => (by simp at h)⟩


set_option maxRecDepth 100000 in
set_option maxHeartbeats 1000000 in
theorem bclone_nil  : Meets Try.prog 61 [.slice none 0 0] [] (fun _ => True) (fun v out => v = .slice none 0 0 ∧ out = []) := by
  intro W hW
  refine calls_of (hp0 := []) Try.func61 rfl 8 Try.ntmps61 rfl (HRep.nil _) ?_
  refine Sat.seq ?_
  -- region 0
  refine Sat.region ?_
  refine Tr.assign rfl rfl rfl ?_
  refine Tr.nil ?_
  refine at_n ?_
  refine Sat.seq ?_
  refine Sat.seq ?_
  -- region 1
  refine Sat.region ?_
  refine Tr.move rfl rfl rfl ?_
  refine Tr.eqNilS (r := true) rfl rfl rfl rfl Try.underlying27 rfl ?_
  refine Tr.nil ?_
  refine at_n ?_
  refine Sat.cond_t rfl (rfl) ?_
  refine Sat.seq ?_
  -- region 2
  refine Sat.region ?_
  refine Tr.assign rfl rfl rfl ?_
  refine Tr.nil ?_
  refine at_n ?_
  refine Sat.ret ?_
  refine at_r ?_
  refine en_r ?_
  refine ⟨_, [], res_tmp rfl rfl, (by simp), (by simp), ?_, rfl⟩
  rfl

set_option maxRecDepth 100000 in
set_option maxHeartbeats 1000000 in
theorem bclone_some (a : Addr) (n c : Nat) (l : List UInt8) (hl : l.length = n) (hn : n ≤ 90000) : Meets Try.prog 61 [.slice (some a) n c] [] (fun W => SeesP W (some a) (bytesV l)) (fun v out => FreshRow v out (bytesV l) 5 n 1) := by
  intro W hW
  refine calls_of (hp0 := []) Try.func61 rfl 8 Try.ntmps61 rfl (HRep.nil _) ?_
  refine Sat.seq ?_
  -- region 0
  refine Sat.region ?_
  refine Tr.assign rfl rfl rfl ?_
  refine Tr.nil ?_
  refine at_n ?_
  refine Sat.seq ?_
  refine Sat.seq ?_
  -- region 1
  refine Sat.region ?_
  refine Tr.move rfl rfl rfl ?_
  refine Tr.eqNilS (r := false) rfl rfl rfl rfl Try.underlying27 rfl ?_
  refine Tr.nil ?_
  refine at_n ?_
  refine Sat.cond_f rfl (rfl) ?_
  refine Sat.skip ?_
  refine at_n ?_
  refine Sat.seq ?_
  -- region 3
  refine Sat.region ?_
  refine Tr.mkRow (z := u8 0) [] [] rfl rfl rfl Try.underlying27 Sz5 Zr5 rfl rfl (by intro v hv; cases hv) (by decide) rfl ?_
  intro q0
  refine Tr.move rfl rfl rfl ?_
  refine Tr.appendSl (z := u8 0) (by' := 1) (bytesV l) rfl rfl rfl rfl rfl Try.underlying27 Try.underlying27 Sz5 Zr5 (by unfold By; kernel_rfl) rfl (fun w h => seesP_ext h rfl hW) (fun e => by cases e) (by simp [bytesV, isCell, u8]) rem_here rfl rfl (by omega) (by omega) (by omega) (by simp [bytesV, hl]) ?_
  intro q1 c1 hq1
  refine Tr.assign rfl rfl rfl ?_
  refine Tr.nil ?_
  refine at_n ?_
  refine Sat.ret ?_
  refine en_r ?_
  refine ⟨_, [⟨q1, [] ++ bytesV l, 5, c1 * 1⟩], res_tmp rfl rfl, (by intro b hb; rw [List.mem_singleton.1 hb]; exact mem0), nodup1, ⟨q1, c1, by rw [Nat.zero_add], by omega, rfl⟩⟩


theorem bclone (s : Sl) (l : List UInt8) (hn : s.n ≤ 90000) : Meets Try.prog 61 [s.v] [] (fun W => BytesAt W s l) (fun v out => ∃ s' : Sl, v = s'.v ∧ Acc s' out (bytesV l) 5 s.n 1) := by
  intro W hW
  obtain ⟨p, n, c⟩ := s
  cases p with
  | none =>
    obtain rfl : c = 0 := hW.nil rfl
    have h1 : n ≤ 0 := hW.cap
    obtain rfl : n = 0 := by omega
    have h2 : l = [] := List.eq_nil_of_length_eq_zero hW.len
    subst h2
    exact (bclone_nil W trivial).mono fun e W' ⟨v, out, h1, ⟨h2, h3⟩, h4⟩ => ⟨v, out, h1, ⟨Sl.nil, h2, by subst h3; exact Acc.none⟩, h4⟩
  | some a => exact (bclone_some a n c l hW.len hn W hW.see).mono fun e W' ⟨v, out, h1, ⟨q, c', h2, h3, h5⟩, h4⟩ => ⟨v, out, h1, ⟨⟨some ⟨q, 0, none⟩, n, c'⟩, h2, by subst h5; exact Acc.some h3 (by rw [bytesV, List.length_map, hW.len, Nat.mul_one])⟩, h4⟩



theorem pm_in0 {hp l R : List Blk} {x : Blk} (h : hp.Perm ((x :: l) ++ R)) : hp.Perm (([x] ++ l) ++ R) := h
theorem pm_inS {hp l R X Y : List Blk} (h : hp.Perm ((X ++ (Y ++ l)) ++ R)) : hp.Perm (((X ++ Y) ++ l) ++ R) := by rwa [List.append_assoc X Y l]
def longB (d : List UInt8) : Bool := decide ((16384 : Int) < (d.length : Int))
def goodI (ds : List (List UInt8)) : Bool := decide ((ds.length : Int) ≤ 64) && !(ds.any longB)


set_option maxRecDepth 100000 in
set_option maxHeartbeats 4000000 in
theorem sync_copies (s : Sl) (ds : List (List UInt8)) (hn : s.n ≤ 1000) (hsm : ∀ d ∈ ds, d.length ≤ 90000) : Meets Try.prog 62 [s.v] [] (fun W => ListsAt W s ds) (fun v out => ∃ sl bl bl2 rs, v = sl.v ∧ out = bl ++ bl2 ∧ OwnSeq LC 1 BytesAt 27 sl bl bl2 rs ds s.n) := by
  intro W hW
  obtain ⟨rs, hs⟩ := hW
  have hnd := hs.nd
  refine calls_of (hp0 := []) Try.func62 rfl 23 Try.ntmps62 rfl (HRep.nil _) ?_
  refine Sat.seq ?_
  -- region 0
  refine Sat.region ?_
  refine Tr.assign rfl rfl rfl ?_
  refine Tr.nil ?_
  refine at_n ?_
  refine Sat.seq ?_
  -- region 1
  refine Sat.region ?_
  refine Tr.move rfl rfl rfl ?_
  refine Tr.lenSl rfl rfl rfl Try.underlying57 ?_
  refine Tr.add_i64 rfl rfl rfl rfl (by omega) ?_
  refine Tr.mkRoom (z := .slice none 0 0) (by' := 24) (s.n + 1) rfl rfl rfl rfl (by omega) Try.underlying57 Sz27 Zr27 (by unfold By; kernel_rfl) rfl (by omega) (by omega) ?_
  intro q9
  rw [show (⟨q9, [], 27, s.n + 1⟩ : Blk) = ⟨q9, [], 27, (s.n + 1) * 1⟩ by rw [Nat.mul_one]]
  refine Tr.assign rfl rfl rfl ?_
  refine Tr.nil ?_
  refine at_n ?_
  refine Sat.seq ?_
  refine Sat.seq ?_
  -- region 2
  refine Sat.region ?_
  refine Tr.move rfl rfl rfl ?_
  refine Tr.lenSl rfl rfl rfl Try.underlying57 ?_
  refine Tr.move rfl rfl rfl ?_
  refine Tr.nil ?_
  refine at_n ?_
  refine Sat.block ?_
  refine Sat.loop (ι := Nat × Sl × List Blk × List Blk × List Sl) (fun p => ⟨[(3, p.2.1.v), (10, s.v), (11, i64 (s.n : Int)), (12, i64 (p.1 : Int))], (p.2.2.1 ++ (p.2.2.2.1 ++ []))⟩) (fun p => p.1 ≤ s.n ∧ OwnSeq LC 1 BytesAt 27 p.2.1 p.2.2.1 p.2.2.2.1 p.2.2.2.2 (ds.take p.1) p.1) (fun p => s.n - p.1) ((0, ⟨some ⟨q9, 0, none⟩, 0, s.n + 1⟩, [⟨q9, [], 27, (s.n + 1) * 1⟩], [], [])) ?_ ?_ ?_
  · exact ⟨Nat.zero_le _, OwnSeq.made _ _⟩
  · exact weak_perm (wk1 rfl (wk1 rfl (wk1 rfl (wk1 rfl wk0)))) (pm_in0 (pm_cons (by repeat (first | exact rem_here | apply rem_there | apply rem_seg)) (pm_none pm_nil)))
  ·
    rintro p ⟨hk, hos⟩
    refine Sat.seq ?_
    -- region 3
    refine Sat.region ?_
    refine Tr.lss rfl rfl rfl rfl rfl ?_
    refine Tr.nil ?_
    refine at_n ?_
    refine Sat.seq ?_
    first
      | refine Sat.condP rfl (fun hc0 => ?_) (fun hc0 => ?_)
      | refine Sat.condNP rfl (fun hc0 => ?_) (fun hc0 => ?_)
      | refine Sat.cond rfl (fun hc0 => ?_) (fun hc0 => ?_)
    ·
      have hk2 : p.1 < s.n := by omega
      obtain ⟨b, o, r, d, hsp, hr, hd, his, hlen, hsee⟩ := hs.at (by decide) hk2
      refine Sat.skip ?_
      refine at_n ?_
      refine Sat.seq ?_
      refine Sat.block ?_
      refine Sat.seq ?_
      -- region 4
      refine Sat.region ?_
      refine Tr.idxSlP 1 rfl rfl rfl hsp rfl Try.underlying57 Sz27 p.1 (by omega) (by omega) ?_
      refine Tr.loadE rfl rfl rfl Try.underlying27 rfl (by first | (simp; done) | (simp; exact hW.2.2) | (simp [Cx.with]; omega)) (hsee 0 _ rfl) ?_
      refine Tr.assign rfl rfl rfl ?_
      refine Tr.nil ?_
      refine at_n ?_
      -- region 5
      refine Sat.region ?_
      refine Tr.move rfl rfl rfl ?_
      refine Tr.move rfl rfl rfl ?_
      refine Tr.call4 rfl rfl rfl rfl rfl Body61 (bclone r d (by rw [← his.len]; exact hsm d (List.mem_of_getElem? hd))) (fun w h => bytes_ext h rfl his) ?_
      rintro v18 out18 ⟨s18, rfl, hac18⟩
      have hsd := hsm d (List.mem_of_getElem? hd)
      have hoi : ∀ W2, Lies out18 W2 → BytesAt W2 s18 d := fun W2 hl => acc_bytes hac18 hl his.len (by rw [← his.len]; omega)
      refine Tr.mkRow (z := .slice none 0 0) [s18.v] [s18.v] rfl rfl rfl Try.underlying57 Sz27 Zr27 rfl rfl (by intro v hv; rw [List.mem_singleton.1 hv]; rfl) (by decide) rfl ?_
      intro q19
      refine Tr.appendAcc (z := .slice none 0 0) (by' := 24) ([s18.v]) rfl rfl rfl rfl rfl Try.underlying57 Try.underlying57 Sz27 Zr27 (by unfold By; kernel_rfl) rfl hos.acc (by repeat (first | exact sg_here | exact sg_end | apply sg_there | apply sg_seg)) (fun w h => SeesP.of (sees_own h (by first | exact mem0 | exact mem1 | exact mem2 | exact mem3 | exact mem4 | exact mem5 | exact mem6 | exact mem7 | (repeat (first | exact List.mem_cons_self | refine List.mem_cons_of_mem _ ?_ | refine mem_seg ?_))))) (fun e => by cases e) (by intro u hu; rw [List.mem_singleton.1 hu]; rfl) (by omega) (by omega) (by rfl) ?_
      intro s20 bl20 hac20
      refine Tr.assign rfl rfl rfl ?_
      refine Tr.nil ?_
      refine bl_n ?_
      refine at_n ?_
      -- region 6
      refine Sat.region ?_
      refine Tr.add_i64 rfl rfl rfl rfl (by omega) ?_
      refine Tr.move rfl rfl rfl ?_
      refine Tr.nil ?_
      refine at_n ?_
      exact ⟨(p.1 + 1, s20, bl20, _, p.2.2.2.2 ++ [s18]), ⟨by simp only []; omega, by simp only [take_snoc hd]; exact hos.snoc hac20 rfl hoi⟩, by simp only []; omega, weak_perm (wk1 rfl (wk1 rfl (wk1 rfl (wk1 rfl wk0)))) (pm_seg (by repeat (first | exact sg_here | exact sg_end | apply sg_there | apply sg_seg)) (pm_inS (pm_seg (by repeat (first | exact sg_here | exact sg_end | apply sg_there | apply sg_seg)) (pm_seg (by repeat (first | exact sg_here | exact sg_end | apply sg_there | apply sg_seg)) pm_nil))))⟩
    ·
      have hpe : p.1 = s.n := by omega
      refine Sat.exit ?_
      refine at_x ?_
      refine at_x ?_
      refine bl_h ?_
      refine at_n ?_
      refine Sat.seq ?_
      -- region 7
      refine Sat.region ?_
      refine Tr.move rfl rfl rfl ?_
      refine Tr.assign rfl rfl rfl ?_
      refine Tr.nil ?_
      refine at_n ?_
      refine Sat.ret ?_
      refine en_r ?_
      refine end_perm (out := (p.2.2.1 ++ (p.2.2.2.1 ++ []))) (res_tmp rfl rfl) (pm_seg (by repeat (first | exact sg_here | exact sg_end | apply sg_there | apply sg_seg)) (pm_seg (by repeat (first | exact sg_here | exact sg_end | apply sg_there | apply sg_seg)) pm_nil)) ?_
      refine ⟨p.2.1, p.2.2.1, p.2.2.2.1, p.2.2.2.2, rfl, by simp, ?_⟩
      rw [hpe, List.take_of_length_le (by omega)] at hos
      exact hos

set_option maxRecDepth 100000 in
set_option maxHeartbeats 1000000 in
theorem good_1 (x : Sl) : Meets Try.prog 116 [x.v] [] (fun _ => True) (fun v out => v = .bool (decide ((16384 : Int) < (x.n : Int))) ∧ out = []) := by
  intro W hW
  refine calls_of (hp0 := []) Try.func116 rfl 6 Try.ntmps116 rfl (HRep.nil _) ?_
  refine Sat.seq ?_
  -- region 0
  refine Sat.region ?_
  refine Tr.assign rfl rfl rfl ?_
  refine Tr.nil ?_
  refine at_n ?_
  refine Sat.seq ?_
  -- region 1
  refine Sat.region ?_
  refine Tr.move rfl rfl rfl ?_
  refine Tr.lenSl rfl rfl rfl Try.underlying27 ?_
  refine Tr.gtr rfl rfl rfl rfl rfl ?_
  refine Tr.assign rfl rfl rfl ?_
  refine Tr.nil ?_
  refine at_n ?_
  refine Sat.ret ?_
  refine en_r ?_
  refine ⟨_, [], res_tmp rfl rfl, (by simp), (by simp), ?_, rfl⟩
  rfl

set_option maxRecDepth 100000 in
set_option maxHeartbeats 1000000 in
theorem index_long (s : Sl) (ds : List (List UInt8)) : Meets Try.prog 146 [s.v, .func (.func 116) #[] #[]] [] (fun W => ListsAt W s ds) (fun v out => v = i64 (fstBad longB ds) ∧ out = []) := by
  intro W hW
  obtain ⟨rs, hs⟩ := hW
  have hmax := hs.max
  simp only [maxLen] at hmax
  have hcap := hs.cap
  refine calls_of (hp0 := []) Try.func146 rfl 19 Try.ntmps146 rfl (HRep.nil _) ?_
  refine Sat.seq ?_
  -- region 0
  refine Sat.region ?_
  refine Tr.assign rfl rfl rfl ?_
  refine Tr.nil ?_
  refine at_n ?_
  refine Sat.seq ?_
  refine Sat.seq ?_
  -- region 1
  refine Sat.region ?_
  refine Tr.move rfl rfl rfl ?_
  refine Tr.lenSl rfl rfl rfl Try.underlying57 ?_
  refine Tr.move rfl rfl rfl ?_
  refine Tr.nil ?_
  refine at_n ?_
  refine Sat.block ?_
  refine Sat.loop (ι := Nat) (fun k => ⟨[(0, s.v), (1, .func (.func 116) #[] #[]), (7, i64 (s.n : Int)), (8, i64 (k : Int))], []⟩) (fun k => k ≤ s.n ∧ ∀ j, j < k → (ds.map longB)[j]? = some false) (fun k => s.n - k) (0) ?_ ?_ ?_
  · exact ⟨by omega, fun j hj => by omega⟩
  · exact weak_of (wk1 rfl (wk1 rfl (wk1 rfl (wk1 rfl wk0)))) wh0 (by repeat (first | exact ns_nil | refine ns_keep rfl ?_ | refine ns_skip ?_))
  ·
    rintro k ⟨hk, hg⟩
    refine Sat.seq ?_
    -- region 2
    refine Sat.region ?_
    refine Tr.lss rfl rfl rfl rfl rfl ?_
    refine Tr.nil ?_
    refine at_n ?_
    refine Sat.seq ?_
    first
      | refine Sat.condP rfl (fun hc0 => ?_) (fun hc0 => ?_)
      | refine Sat.condNP rfl (fun hc0 => ?_) (fun hc0 => ?_)
      | refine Sat.cond rfl (fun hc0 => ?_) (fun hc0 => ?_)
    ·
      have hk2 : k < s.n := by omega
      obtain ⟨b, o, r, d, hsp, hr, hd, his, hlen, hsee⟩ := hs.at (by decide) hk2
      have hdl := his.len
      refine Sat.skip ?_
      refine at_n ?_
      refine Sat.seq ?_
      refine Sat.block ?_
      refine Sat.seq ?_
      -- region 3
      refine Sat.region ?_
      refine Tr.move rfl rfl rfl ?_
      refine Tr.assign rfl rfl rfl ?_
      refine Tr.nil ?_
      refine at_n ?_
      refine Sat.seq ?_
      -- region 4
      refine Sat.region ?_
      refine Tr.move rfl rfl rfl ?_
      refine Tr.move rfl rfl rfl ?_
      refine Tr.move rfl rfl rfl ?_
      refine Tr.idxSlP 1 rfl rfl rfl hsp rfl Try.underlying57 Sz27 k (by omega) (by omega) ?_
      refine Tr.loadE rfl rfl rfl Try.underlying27 rfl (by first | (simp; done) | (simp; exact hW.2.2) | (simp [Cx.with]; omega)) (hsee 0 _ rfl) ?_
      refine Tr.callV rfl rfl rfl rfl Body116 (good_1 r) (fun _ _ => trivial) ?_
      refine Tr.nil ?_
      refine at_n ?_
      first
        | refine Sat.condP rfl (fun hc1 => ?_) (fun hc1 => ?_)
        | refine Sat.condNP rfl (fun hc1 => ?_) (fun hc1 => ?_)
        | refine Sat.cond rfl (fun hc1 => ?_) (fun hc1 => ?_)
      ·
        refine Sat.seq ?_
        -- region 5
        refine Sat.region ?_
        refine Tr.move rfl rfl rfl ?_
        refine Tr.assign rfl rfl rfl ?_
        refine Tr.nil ?_
        refine at_n ?_
        refine Sat.ret ?_
        refine bl_r ?_
        refine at_r ?_
        refine at_r ?_
        refine bl_r ?_
        refine at_r ?_
        refine en_r ?_
        refine ⟨_, [], res_tmp rfl rfl, (by simp), (by simp), ?_, rfl⟩
        first
          | exact congrArg i64 (fstBad_none (by intro j hj; exact hg j (by rw [hs.nd] at hj; exact hj))).symm
          | exact congrArg i64 (fstBad_at hg (by rw [List.getElem?_map, hd]; simp [longB, hdl]; omega)).symm
      ·
        refine Sat.skip ?_
        refine bl_n ?_
        refine at_n ?_
        -- region 6
        refine Sat.region ?_
        refine Tr.add_i64 rfl rfl rfl rfl (by omega) ?_
        refine Tr.move rfl rfl rfl ?_
        refine Tr.nil ?_
        refine at_n ?_
        exact ⟨k + 1, ⟨by omega, fun j hj => by rcases Nat.lt_succ_iff_lt_or_eq.1 hj with h | rfl; exact hg j h; rw [List.getElem?_map, hd]; simp [longB, hdl]; omega⟩, by omega, weak_of (wk1 rfl (wk1 rfl (wk1 rfl (wk1 rfl wk0)))) wh0 (by repeat (first | exact ns_nil | refine ns_keep rfl ?_ | refine ns_skip ?_))⟩
    ·
      obtain rfl : k = s.n := by omega
      refine Sat.exit ?_
      refine at_x ?_
      refine at_x ?_
      refine bl_h ?_
      refine at_n ?_
      refine Sat.seq ?_
      -- region 7
      refine Sat.region ?_
      refine Tr.assign rfl rfl rfl ?_
      refine Tr.nil ?_
      refine at_n ?_
      refine Sat.ret ?_
      refine en_r ?_
      refine ⟨_, [], res_tmp rfl rfl, (by simp), (by simp), ?_, rfl⟩
      first
        | exact congrArg i64 (fstBad_none (by intro j hj; exact hg j (by rw [hs.nd] at hj; exact hj))).symm
        | exact congrArg i64 (fstBad_at hg (by rw [List.getElem?_map, hd]; simp [longB, hdl]; omega)).symm

set_option maxRecDepth 100000 in
set_option maxHeartbeats 1000000 in
theorem contains_long (s : Sl) (ds : List (List UInt8)) : Meets Try.prog 115 [s.v, .func (.func 116) #[] #[]] [] (fun W => ListsAt W s ds) (fun v out => v = .bool (ds.any longB) ∧ out = []) := by
  intro W hW
  refine calls_of (hp0 := []) Try.func115 rfl 9 Try.ntmps115 rfl (HRep.nil _) ?_
  refine Sat.seq ?_
  -- region 0
  refine Sat.region ?_
  refine Tr.assign rfl rfl rfl ?_
  refine Tr.nil ?_
  refine at_n ?_
  refine Sat.seq ?_
  -- region 1
  refine Sat.region ?_
  refine Tr.move rfl rfl rfl ?_
  refine Tr.move rfl rfl rfl ?_
  refine Tr.callV rfl rfl rfl rfl Body146 (index_long s ds) (fun w h => lists_ext h rfl hW) ?_
  refine Tr.geq rfl rfl rfl rfl rfl ?_
  refine Tr.assign rfl rfl rfl ?_
  refine Tr.nil ?_
  refine at_n ?_
  refine Sat.ret ?_
  refine en_r ?_
  refine ⟨_, [], res_tmp rfl rfl, (by simp), (by simp), ?_, rfl⟩
  exact congrArg Value.bool (fstBad_ge _ _)


theorem lists_n {W : World} {s : Sl} {ds : List (List UInt8)} (h : ListsAt W s ds) : ds.length = s.n := by obtain ⟨_, h⟩ := h; exact h.nd


set_option maxRecDepth 100000 in
set_option maxHeartbeats 1000000 in
theorem good_inbox (X : Inbox) (ds : List (List UInt8)) : Meets Try.prog 60 [agg X.cells] [] (fun W => ListsAt W X.fList ds) (fun v out => v = .bool (goodI ds) ∧ out = []) := by
  intro W hW
  have hn := lists_n hW
  refine calls_of (hp0 := []) Try.func60 rfl 13 Try.ntmps60 rfl (HRep.nil _) ?_
  refine Sat.seq ?_
  -- region 0
  refine Sat.region ?_
  refine Tr.boxA rfl rfl ?_
  intro n1 hn1 hf1
  refine Tr.assign rfl rfl rfl ?_
  refine Tr.nil ?_
  refine at_n ?_
  refine Sat.seq ?_
  -- region 1
  refine Sat.region ?_
  refine Tr.fld rfl rfl rfl Try.underlying59 rfl Sz57 (by decide) _ rfl ?_
  refine Tr.load1 rfl rfl rfl Try.underlying57 rfl (by first | exact mem0 | exact mem1 | exact mem2 | exact mem3 | exact mem4 | exact mem5 | exact mem6 | exact mem7 | (repeat (first | exact List.mem_cons_self | refine List.mem_cons_of_mem _ ?_ | refine mem_seg ?_))) (by first | exact Inbox.get_fList (by first | assumption | (simp; done) | exact Block.zero_ok | exact Vote.zero_ok | exact Reader.zero_ok | exact Cut.zero_ok | exact Cert.zero_ok | exact Msg.zero_ok | exact Inbox.zero_ok | exact Record.zero_ok | exact Kept.zero_ok  | exact ⟨trivial⟩) | exact (by first | rfl | exact get_words (by first | omega | (simp; done) | (simp; omega)) | exact get_bytes (by first | omega | (simp; done) | (simp; omega)) | exact get_ints (by first | omega | (simp; done) | (simp; omega)))) ?_
  refine Tr.lenSl rfl rfl rfl Try.underlying57 ?_
  refine two (fun r hr k => Tr.leq rfl rfl rfl rfl hr k) (fun hs1_30 => ?_) (fun hs1_30 => ?_)
  ·
    first | have hs1_3 := of_decide_eq_true hs1_30 | have hs1_3 := of_decide_eq_false hs1_30 | have hs1_3 := nd_t hs1_30 | have hs1_3 := nd_f hs1_30 | have hs1_3 := hs1_30
    refine Tr.move rfl rfl rfl ?_
    refine Tr.fld rfl rfl rfl Try.underlying59 rfl Sz57 (by decide) _ rfl ?_
    refine Tr.load1 rfl rfl rfl Try.underlying57 rfl (by first | exact mem0 | exact mem1 | exact mem2 | exact mem3 | exact mem4 | exact mem5 | exact mem6 | exact mem7 | (repeat (first | exact List.mem_cons_self | refine List.mem_cons_of_mem _ ?_ | refine mem_seg ?_))) (by first | exact Inbox.get_fList (by first | assumption | (simp; done) | exact Block.zero_ok | exact Vote.zero_ok | exact Reader.zero_ok | exact Cut.zero_ok | exact Cert.zero_ok | exact Msg.zero_ok | exact Inbox.zero_ok | exact Record.zero_ok | exact Kept.zero_ok  | exact ⟨trivial⟩) | exact (by first | rfl | exact get_words (by first | omega | (simp; done) | (simp; omega)) | exact get_bytes (by first | omega | (simp; done) | (simp; omega)) | exact get_ints (by first | omega | (simp; done) | (simp; omega)))) ?_
    refine Tr.callV rfl rfl rfl rfl Body115 (contains_long X.fList ds) (fun w h => lists_ext h rfl hW) ?_
    refine Tr.not rfl rfl rfl ?_
    refine Tr.pick rfl rfl rfl rfl rfl rfl ?_
    refine Tr.assign rfl rfl rfl ?_
    refine Tr.nil ?_
    refine at_n ?_
    refine Sat.ret ?_
    refine en_r ?_
    refine ⟨_, [], res_tmp rfl rfl, (by simp), (by simp), ?_, rfl⟩
    simp only [goodI, hn]
    first
      | (simp [*]; done)
      | (simp_all; done)
  ·
    first | have hs1_3 := of_decide_eq_true hs1_30 | have hs1_3 := of_decide_eq_false hs1_30 | have hs1_3 := nd_t hs1_30 | have hs1_3 := nd_f hs1_30 | have hs1_3 := hs1_30
    refine Tr.move rfl rfl rfl ?_
    refine Tr.skp rfl rfl ?_
    refine Tr.skp rfl rfl ?_
    refine Tr.skp rfl rfl ?_
    refine Tr.skp rfl rfl ?_
    refine Tr.pick rfl rfl rfl rfl rfl rfl ?_
    refine Tr.assign rfl rfl rfl ?_
    refine Tr.nil ?_
    refine at_n ?_
    refine Sat.ret ?_
    refine en_r ?_
    refine ⟨_, [], res_tmp rfl rfl, (by simp), (by simp), ?_, rfl⟩
    simp only [goodI, hn]
    first
      | (simp [*]; done)
      | (simp_all; done)

end Go.Proofs.Ytejjamifnombhaa
end

section
namespace Go.Proofs.Ytejjamifnombhaa
open Go Hw
set_option linter.unusedVariables false
set_option linter.unusedSimpArgs false


def pushE (ds : List (List UInt8)) (l : List UInt8) : Int := if goodI ds = true then (if (16384 : Int) < (l.length : Int) then 3 else if (64 : Int) ≤ (ds.length : Int) then 7 else 0) else 2
def pushD (ds : List (List UInt8)) (l : List UInt8) : List (List UInt8) := if pushE ds l = 0 then ds ++ [l] else []
def popE (ds : List (List UInt8)) : Int := if goodI ds = true then (if (ds.length : Int) = 0 then 6 else 0) else 2
def popB (ds : List (List UInt8)) : List UInt8 := if popE ds = 0 then ds.headD [] else []
def popD (ds : List (List UInt8)) : List (List UInt8) := if popE ds = 0 then ds.tail else []
def Pushed (ds : List (List UInt8)) (l : List UInt8) (v : Value) (out : List Blk) : Prop := ∃ X : Inbox, v = .tuple #[agg X.cells, i64 (pushE ds l)] ∧ ∀ W2, Lies out W2 → ListsAt W2 X.fList (pushD ds l)
def Popped (ds : List (List UInt8)) (v : Value) (out : List Blk) : Prop := ∃ (s : Sl) (X : Inbox), v = .tuple #[s.v, agg X.cells, i64 (popE ds)] ∧ (popB ds).length = s.n ∧ ∀ W2, Lies out W2 → BytesAt W2 s (popB ds) ∧ ListsAt W2 X.fList (popD ds)
theorem Pushed.loose (ds : List (List UInt8)) (l : List UInt8) : Loose (Pushed ds l) := loose_lies ⟨_, fun n => ⟨Inbox.zero, rfl, fun W2 h => (no_lie h).elim⟩⟩
theorem Popped.loose (ds : List (List UInt8)) : Loose (Popped ds) := loose_lies ⟨_, fun n => ⟨⟨none, (popB ds).length, 0⟩, Inbox.zero, rfl, rfl, fun W2 h => (no_lie h).elim⟩⟩
theorem good_iff {ds : List (List UInt8)} : goodI ds = true ↔ ds.length ≤ 64 ∧ ∀ d ∈ ds, d.length ≤ 16384 := by
  simp only [goodI, longB, Bool.and_eq_true, decide_eq_true_eq, Bool.not_eq_true', List.any_eq_false]
  constructor
  · rintro ⟨h1, h2⟩
    exact ⟨by omega, fun d hd => by have := h2 d hd; omega⟩
  · rintro ⟨h1, h2⟩
    exact ⟨by omega, fun d hd => by have := h2 d hd; omega⟩
theorem lists_nil {W : World} : ListsAt W Sl.nil [] := ⟨[], SeqIs.none⟩
theorem bytes_nil {W : World} : BytesAt W Sl.nil [] := ⟨rfl, Nat.le_refl _, SeesP.nil, by decide, fun _ => rfl⟩
theorem lists_tail {W : World} {s : Sl} {ds : List (List UInt8)} {b o : Nat} (h : ListsAt W s ds) (hp : s.p = some ⟨b, o, none⟩) (hn : 0 < s.n) : ListsAt W ⟨some ⟨b, if s.c = 1 then o else o + 1 * 1, none⟩, s.n - 1, s.c - 1⟩ ds.tail := by
  obtain ⟨rs, h⟩ := h
  obtain ⟨p, n, c⟩ := s
  simp only at hp hn
  subst hp
  obtain ⟨n, rfl⟩ : ∃ k, n = k + 1 := ⟨n - 1, by omega⟩
  cases rs with
  | nil => have := h.nr; simp at this
  | cons r rs =>
    cases ds with
    | nil => have := h.nd; simp at this
    | cons d ds =>
      have hc : n + 1 ≤ c := h.cap
      have h1 : rs.length = n := by have := h.nr; simpa using this
      have h2 : ds.length = n := by have := h.nd; simpa using this
      have hmax : n + 1 ≤ maxLen := h.max
      refine ⟨rs, h1, h2, fun i r d hr hd => h.is (i + 1) r d (by simpa using hr) (by simpa using hd), fun r hr => rfl, by simp only []; omega, ?_, by simp only []; omega, fun e => by cases e⟩
      by_cases e : c = 1
      · obtain rfl : n = 0 := by omega
        obtain rfl : rs = [] := List.eq_nil_of_length_eq_zero h1
        exact SeesP.nil
      · simp only [if_neg e]
        obtain ⟨b2, o2, e2, hs⟩ := h.see.at (by simp)
        simp only [Option.some.injEq, Addr.mk.injEq, and_true] at e2
        obtain ⟨rfl, rfl⟩ := e2
        refine SeesP.of fun j v hj => ?_
        have := hs (j + 1) v (by simpa using hj)
        rwa [show o + (j + 1) = o + 1 * 1 + j by omega] at this
section
variable {C : Cx} {ops : Array Oper} {rest : List (Nat × Oper)} {sl : List (Nat × Value)} {hp : List Blk} {Q : St → Prop} {c d : Nat} {ty : TypeId} {pos : String} {af : Array Edge} {g : Option (Nat × Bool)}
theorem Tr.sliceLoP {x lo : Operand} {p : Option Addr} {b o n cap : Nat} {T E : TypeId} {kl : IntKind} {l : Int} {sz : Nat} (j : Nat) (hg : guardOk ops sl g = true) (hk : okD c d C.N = true) (hx : evIn sl x = some (.slice p n cap)) (hp' : p = some ⟨b, o, none⟩) (hl : evIn sl lo = some (.int kl l)) (hj : l = j) (hjn : j ≤ n) (hnc : n ≤ cap)
    (hu : C.P.underlying T = some (.slice E)) (hs : Sz C.P E sz)
    (k : Tr C ops rest ⟨(d, .slice (some ⟨b, if cap = j then o else o + j * sz, none⟩) (n - j) (cap - j)) :: sl, hp⟩ Q) : Tr C ops ((c, ⟨some d, .slice T x (some lo) none none, ty, pos, af, g⟩) :: rest) ⟨sl, hp⟩ Q := by
  subst hp'
  exact .sliceLoN j hg hk hx hl hj hjn hnc hu hs k
end


set_option maxRecDepth 100000 in
set_option maxHeartbeats 4000000 in
theorem sync_push (X : Inbox) (ds : List (List UInt8)) (s : Sl) (l : List UInt8) : Meets Try.prog 25 [agg X.cells, s.v] [] (fun W => ListsAt W X.fList ds ∧ BytesAt W s l) (Pushed ds l) := by
  intro W hW
  have hn := lists_n hW.1
  have hll := hW.2.len
  refine calls_of (hp0 := []) Try.func25 rfl 27 Try.ntmps25 rfl (HRep.nil _) ?_
  refine Sat.seq ?_
  -- region 0
  refine Sat.region ?_
  refine Tr.boxA rfl rfl ?_
  intro n2 hn2 hf2
  refine Tr.alloc (cs := Inbox.zero.cells) rfl Inbox.zr rfl ?_
  intro n4 hn4 hf4
  refine Tr.assign rfl rfl rfl ?_
  refine Tr.nil ?_
  refine at_n ?_
  refine Sat.seq ?_
  refine Sat.seq ?_
  -- region 1
  refine Sat.region ?_
  refine Tr.loadAll rfl rfl rfl Try.underlying59 rfl Sz59 (by first | exact mem0 | exact mem1 | exact mem2 | exact mem3 | exact mem4 | exact mem5 | exact mem6 | exact mem7 | (repeat (first | exact List.mem_cons_self | refine List.mem_cons_of_mem _ ?_ | refine mem_seg ?_))) (Inbox.length (by first | assumption | (simp; done) | exact Block.zero_ok | exact Vote.zero_ok | exact Reader.zero_ok | exact Cut.zero_ok | exact Cert.zero_ok | exact Msg.zero_ok | exact Inbox.zero_ok | exact Record.zero_ok | exact Kept.zero_ok  | exact ⟨trivial⟩)) ?_
  refine Tr.callV rfl rfl rfl rfl Body60 (good_inbox X ds) (fun w h => lists_ext h rfl hW.1) ?_
  refine Tr.not rfl rfl rfl ?_
  refine Tr.nil ?_
  refine at_n ?_
  refine Sat.cond rfl (fun hc0 => ?_) (fun hc0 => ?_)
  ·
    have hgf : goodI ds = false := by simpa using hc0
    refine Sat.seq ?_
    -- region 2
    refine Sat.region ?_
    refine Tr.build (cs := Inbox.zero.cells) rfl rfl rfl (fun w => by kernel_rfl) ?_
    refine Tr.storeAll rfl rfl rfl rfl (Inbox.isCell (by first | assumption | (simp; done) | exact Block.zero_ok | exact Vote.zero_ok | exact Reader.zero_ok | exact Cut.zero_ok | exact Cert.zero_ok | exact Msg.zero_ok | exact Inbox.zero_ok | exact Record.zero_ok | exact Kept.zero_ok  | exact ⟨trivial⟩)) Sz59 (Inbox.length (by first | assumption | (simp; done) | exact Block.zero_ok | exact Vote.zero_ok | exact Reader.zero_ok | exact Cut.zero_ok | exact Cert.zero_ok | exact Msg.zero_ok | exact Inbox.zero_ok | exact Record.zero_ok | exact Kept.zero_ok  | exact ⟨trivial⟩)) (by first | exact mem0 | exact mem1 | exact mem2 | exact mem3 | exact mem4 | exact mem5 | exact mem6 | exact mem7 | (repeat (first | exact List.mem_cons_self | refine List.mem_cons_of_mem _ ?_ | refine mem_seg ?_))) (Inbox.length (by first | assumption | (simp; done) | exact Block.zero_ok | exact Vote.zero_ok | exact Reader.zero_ok | exact Cut.zero_ok | exact Cert.zero_ok | exact Msg.zero_ok | exact Inbox.zero_ok | exact Record.zero_ok | exact Kept.zero_ok  | exact ⟨trivial⟩)) (by first | exact upd0 | exact upd1 | exact upd2 | exact upd3 | exact upd4 | exact upd5 | exact upd6 | exact upd7 | (repeat (first | exact upd0 | apply Upd.tail | apply Upd.seg))) ?_
    refine Tr.assign rfl rfl rfl ?_
    refine Tr.nil ?_
    refine at_n ?_
    refine Sat.ret ?_
    refine at_r ?_
    refine en_r ?_
    refine end_perm (out := []) (res_cell_tmp rfl rfl rfl Try.underlying59 rfl Sz59 (by first | exact mem0 | exact mem1 | exact mem2 | exact mem3 | exact mem4 | exact mem5 | exact mem6 | exact mem7 | (repeat (first | exact List.mem_cons_self | refine List.mem_cons_of_mem _ ?_ | refine mem_seg ?_))) (by first | (simp; done) | exact Inbox.length (by first | assumption | (simp; done) | exact Block.zero_ok | exact Vote.zero_ok | exact Reader.zero_ok | exact Cut.zero_ok | exact Cert.zero_ok | exact Msg.zero_ok | exact Inbox.zero_ok | exact Record.zero_ok | exact Kept.zero_ok  | exact ⟨trivial⟩))) pm_nil ?_
    have he : pushE ds l = 2 := by rw [pushE, if_neg (by rw [hgf]; decide)]
    exact ⟨Inbox.zero, (by rw [he]; try rfl), fun W2 _ => by rw [show pushD ds l = [] from if_neg (by rw [he]; decide)]; exact lists_nil⟩
  ·
    have hgt : goodI ds = true := by simpa using hc0
    have hgd := good_iff.1 hgt
    refine Sat.skip ?_
    refine at_n ?_
    refine Sat.seq ?_
    refine Sat.seq ?_
    -- region 3
    refine Sat.region ?_
    refine Tr.move rfl rfl rfl ?_
    refine Tr.lenSl rfl rfl rfl Try.underlying27 ?_
    refine Tr.gtr rfl rfl rfl rfl rfl ?_
    refine Tr.nil ?_
    refine at_n ?_
    first
      | refine Sat.condP rfl (fun hc1 => ?_) (fun hc1 => ?_)
      | refine Sat.condNP rfl (fun hc1 => ?_) (fun hc1 => ?_)
      | refine Sat.cond rfl (fun hc1 => ?_) (fun hc1 => ?_)
    ·
      refine Sat.seq ?_
      -- region 4
      refine Sat.region ?_
      refine Tr.build (cs := Inbox.zero.cells) rfl rfl rfl (fun w => by kernel_rfl) ?_
      refine Tr.storeAll rfl rfl rfl rfl (Inbox.isCell (by first | assumption | (simp; done) | exact Block.zero_ok | exact Vote.zero_ok | exact Reader.zero_ok | exact Cut.zero_ok | exact Cert.zero_ok | exact Msg.zero_ok | exact Inbox.zero_ok | exact Record.zero_ok | exact Kept.zero_ok  | exact ⟨trivial⟩)) Sz59 (Inbox.length (by first | assumption | (simp; done) | exact Block.zero_ok | exact Vote.zero_ok | exact Reader.zero_ok | exact Cut.zero_ok | exact Cert.zero_ok | exact Msg.zero_ok | exact Inbox.zero_ok | exact Record.zero_ok | exact Kept.zero_ok  | exact ⟨trivial⟩)) (by first | exact mem0 | exact mem1 | exact mem2 | exact mem3 | exact mem4 | exact mem5 | exact mem6 | exact mem7 | (repeat (first | exact List.mem_cons_self | refine List.mem_cons_of_mem _ ?_ | refine mem_seg ?_))) (Inbox.length (by first | assumption | (simp; done) | exact Block.zero_ok | exact Vote.zero_ok | exact Reader.zero_ok | exact Cut.zero_ok | exact Cert.zero_ok | exact Msg.zero_ok | exact Inbox.zero_ok | exact Record.zero_ok | exact Kept.zero_ok  | exact ⟨trivial⟩)) (by first | exact upd0 | exact upd1 | exact upd2 | exact upd3 | exact upd4 | exact upd5 | exact upd6 | exact upd7 | (repeat (first | exact upd0 | apply Upd.tail | apply Upd.seg))) ?_
      refine Tr.assign rfl rfl rfl ?_
      refine Tr.nil ?_
      refine at_n ?_
      refine Sat.ret ?_
      refine at_r ?_
      refine en_r ?_
      refine end_perm (out := []) (res_cell_tmp rfl rfl rfl Try.underlying59 rfl Sz59 (by first | exact mem0 | exact mem1 | exact mem2 | exact mem3 | exact mem4 | exact mem5 | exact mem6 | exact mem7 | (repeat (first | exact List.mem_cons_self | refine List.mem_cons_of_mem _ ?_ | refine mem_seg ?_))) (by first | (simp; done) | exact Inbox.length (by first | assumption | (simp; done) | exact Block.zero_ok | exact Vote.zero_ok | exact Reader.zero_ok | exact Cut.zero_ok | exact Cert.zero_ok | exact Msg.zero_ok | exact Inbox.zero_ok | exact Record.zero_ok | exact Kept.zero_ok  | exact ⟨trivial⟩))) pm_nil ?_
      have he : pushE ds l = 3 := by rw [pushE, if_pos hgt, if_pos (by omega)]
      exact ⟨Inbox.zero, (by rw [he]; try rfl), fun W2 _ => by rw [show pushD ds l = [] from if_neg (by rw [he]; decide)]; exact lists_nil⟩
    ·
      refine Sat.skip ?_
      refine at_n ?_
      refine Sat.seq ?_
      refine Sat.seq ?_
      -- region 5
      refine Sat.region ?_
      refine Tr.fld rfl rfl rfl Try.underlying59 rfl Sz57 (by decide) _ rfl ?_
      refine Tr.load1 rfl rfl rfl Try.underlying57 rfl (by first | exact mem0 | exact mem1 | exact mem2 | exact mem3 | exact mem4 | exact mem5 | exact mem6 | exact mem7 | (repeat (first | exact List.mem_cons_self | refine List.mem_cons_of_mem _ ?_ | refine mem_seg ?_))) (by first | exact Inbox.get_fList (by first | assumption | (simp; done) | exact Block.zero_ok | exact Vote.zero_ok | exact Reader.zero_ok | exact Cut.zero_ok | exact Cert.zero_ok | exact Msg.zero_ok | exact Inbox.zero_ok | exact Record.zero_ok | exact Kept.zero_ok  | exact ⟨trivial⟩) | exact (by first | rfl | exact get_words (by first | omega | (simp; done) | (simp; omega)) | exact get_bytes (by first | omega | (simp; done) | (simp; omega)) | exact get_ints (by first | omega | (simp; done) | (simp; omega)))) ?_
      refine Tr.lenSl rfl rfl rfl Try.underlying57 ?_
      refine Tr.geq rfl rfl rfl rfl rfl ?_
      refine Tr.nil ?_
      refine at_n ?_
      first
        | refine Sat.condP rfl (fun hc2 => ?_) (fun hc2 => ?_)
        | refine Sat.condNP rfl (fun hc2 => ?_) (fun hc2 => ?_)
        | refine Sat.cond rfl (fun hc2 => ?_) (fun hc2 => ?_)
      ·
        refine Sat.seq ?_
        -- region 6
        refine Sat.region ?_
        refine Tr.build (cs := Inbox.zero.cells) rfl rfl rfl (fun w => by kernel_rfl) ?_
        refine Tr.storeAll rfl rfl rfl rfl (Inbox.isCell (by first | assumption | (simp; done) | exact Block.zero_ok | exact Vote.zero_ok | exact Reader.zero_ok | exact Cut.zero_ok | exact Cert.zero_ok | exact Msg.zero_ok | exact Inbox.zero_ok | exact Record.zero_ok | exact Kept.zero_ok  | exact ⟨trivial⟩)) Sz59 (Inbox.length (by first | assumption | (simp; done) | exact Block.zero_ok | exact Vote.zero_ok | exact Reader.zero_ok | exact Cut.zero_ok | exact Cert.zero_ok | exact Msg.zero_ok | exact Inbox.zero_ok | exact Record.zero_ok | exact Kept.zero_ok  | exact ⟨trivial⟩)) (by first | exact mem0 | exact mem1 | exact mem2 | exact mem3 | exact mem4 | exact mem5 | exact mem6 | exact mem7 | (repeat (first | exact List.mem_cons_self | refine List.mem_cons_of_mem _ ?_ | refine mem_seg ?_))) (Inbox.length (by first | assumption | (simp; done) | exact Block.zero_ok | exact Vote.zero_ok | exact Reader.zero_ok | exact Cut.zero_ok | exact Cert.zero_ok | exact Msg.zero_ok | exact Inbox.zero_ok | exact Record.zero_ok | exact Kept.zero_ok  | exact ⟨trivial⟩)) (by first | exact upd0 | exact upd1 | exact upd2 | exact upd3 | exact upd4 | exact upd5 | exact upd6 | exact upd7 | (repeat (first | exact upd0 | apply Upd.tail | apply Upd.seg))) ?_
        refine Tr.assign rfl rfl rfl ?_
        refine Tr.nil ?_
        refine at_n ?_
        refine Sat.ret ?_
        refine at_r ?_
        refine en_r ?_
        refine end_perm (out := []) (res_cell_tmp rfl rfl rfl Try.underlying59 rfl Sz59 (by first | exact mem0 | exact mem1 | exact mem2 | exact mem3 | exact mem4 | exact mem5 | exact mem6 | exact mem7 | (repeat (first | exact List.mem_cons_self | refine List.mem_cons_of_mem _ ?_ | refine mem_seg ?_))) (by first | (simp; done) | exact Inbox.length (by first | assumption | (simp; done) | exact Block.zero_ok | exact Vote.zero_ok | exact Reader.zero_ok | exact Cut.zero_ok | exact Cert.zero_ok | exact Msg.zero_ok | exact Inbox.zero_ok | exact Record.zero_ok | exact Kept.zero_ok  | exact ⟨trivial⟩))) pm_nil ?_
        have he : pushE ds l = 7 := by rw [pushE, if_pos hgt, if_neg (by omega), if_pos (by omega)]
        exact ⟨Inbox.zero, (by rw [he]; try rfl), fun W2 _ => by rw [show pushD ds l = [] from if_neg (by rw [he]; decide)]; exact lists_nil⟩
      ·
        have hsm : ∀ d ∈ ds, d.length ≤ 90000 := fun d hd => by have := hgd.2 d hd; omega
        have he : pushE ds l = 0 := by rw [pushE, if_pos hgt, if_neg (by omega), if_neg (by omega)]
        refine Sat.skip ?_
        refine at_n ?_
        refine Sat.seq ?_
        -- region 7
        refine Sat.region ?_
        refine Tr.fld rfl rfl rfl Try.underlying59 rfl Sz57 (by decide) _ rfl ?_
        refine Tr.load1 rfl rfl rfl Try.underlying57 rfl (by first | exact mem0 | exact mem1 | exact mem2 | exact mem3 | exact mem4 | exact mem5 | exact mem6 | exact mem7 | (repeat (first | exact List.mem_cons_self | refine List.mem_cons_of_mem _ ?_ | refine mem_seg ?_))) (by first | exact Inbox.get_fList (by first | assumption | (simp; done) | exact Block.zero_ok | exact Vote.zero_ok | exact Reader.zero_ok | exact Cut.zero_ok | exact Cert.zero_ok | exact Msg.zero_ok | exact Inbox.zero_ok | exact Record.zero_ok | exact Kept.zero_ok  | exact ⟨trivial⟩) | exact (by first | rfl | exact get_words (by first | omega | (simp; done) | (simp; omega)) | exact get_bytes (by first | omega | (simp; done) | (simp; omega)) | exact get_ints (by first | omega | (simp; done) | (simp; omega)))) ?_
        refine Tr.call4 rfl rfl rfl rfl rfl Body62 (sync_copies X.fList ds (by omega) hsm) (fun w h => lists_ext h rfl hW.1) ?_
        rintro v21 out21 ⟨s21, bl, bl2, rs, rfl, rfl, hos⟩
        simp only [List.append_assoc, List.cons_append, List.nil_append]
        refine Tr.move rfl rfl rfl ?_
        refine Tr.call4 rfl rfl rfl rfl rfl Body61 (bclone s l (by omega)) (fun w h => bytes_ext h rfl hW.2) ?_
        rintro v23 out23 ⟨s23, rfl, hac23⟩
        have hoi : ∀ W2, Lies out23 W2 → BytesAt W2 s23 l := fun W2 hl => acc_bytes hac23 hl hll (by omega)
        refine Tr.mkRow (z := .slice none 0 0) [s23.v] [s23.v] rfl rfl rfl Try.underlying57 Sz27 Zr27 rfl rfl (by intro v hv; rw [List.mem_singleton.1 hv]; rfl) (by decide) rfl ?_
        intro q24
        refine Tr.appendAcc (z := .slice none 0 0) (by' := 24) ([s23.v]) rfl rfl rfl rfl rfl Try.underlying57 Try.underlying57 Sz27 Zr27 (by unfold By; kernel_rfl) rfl hos.acc (by repeat (first | exact sg_here | exact sg_end | apply sg_there | apply sg_seg)) (fun w h => SeesP.of (sees_own h (by first | exact mem0 | exact mem1 | exact mem2 | exact mem3 | exact mem4 | exact mem5 | exact mem6 | exact mem7 | (repeat (first | exact List.mem_cons_self | refine List.mem_cons_of_mem _ ?_ | refine mem_seg ?_))))) (fun e => by cases e) (by intro u hu; rw [List.mem_singleton.1 hu]; rfl) (by omega) (by omega) (by rfl) ?_
        intro s25 bl25 hac25
        refine Tr.build (cs := (⟨s25⟩ : Inbox).cells) rfl rfl rfl (fun w => by kernel_rfl) ?_
        refine Tr.storeAll rfl rfl rfl rfl (Inbox.isCell (by first | assumption | (simp; done) | exact Block.zero_ok | exact Vote.zero_ok | exact Reader.zero_ok | exact Cut.zero_ok | exact Cert.zero_ok | exact Msg.zero_ok | exact Inbox.zero_ok | exact Record.zero_ok | exact Kept.zero_ok  | exact ⟨trivial⟩)) Sz59 (Inbox.length (by first | assumption | (simp; done) | exact Block.zero_ok | exact Vote.zero_ok | exact Reader.zero_ok | exact Cut.zero_ok | exact Cert.zero_ok | exact Msg.zero_ok | exact Inbox.zero_ok | exact Record.zero_ok | exact Kept.zero_ok  | exact ⟨trivial⟩)) (by first | exact mem0 | exact mem1 | exact mem2 | exact mem3 | exact mem4 | exact mem5 | exact mem6 | exact mem7 | (repeat (first | exact List.mem_cons_self | refine List.mem_cons_of_mem _ ?_ | refine mem_seg ?_))) (Inbox.length (by first | assumption | (simp; done) | exact Block.zero_ok | exact Vote.zero_ok | exact Reader.zero_ok | exact Cut.zero_ok | exact Cert.zero_ok | exact Msg.zero_ok | exact Inbox.zero_ok | exact Record.zero_ok | exact Kept.zero_ok  | exact ⟨trivial⟩)) (by first | exact upd0 | exact upd1 | exact upd2 | exact upd3 | exact upd4 | exact upd5 | exact upd6 | exact upd7 | (repeat (first | exact upd0 | apply Upd.tail | apply Upd.seg))) ?_
        refine Tr.assign rfl rfl rfl ?_
        refine Tr.nil ?_
        refine at_n ?_
        refine Sat.ret ?_
        refine en_r ?_
        refine end_perm (out := (bl25 ++ (out23 ++ (bl2 ++ [])))) (res_cell_tmp rfl rfl rfl Try.underlying59 rfl Sz59 (by first | exact mem0 | exact mem1 | exact mem2 | exact mem3 | exact mem4 | exact mem5 | exact mem6 | exact mem7 | (repeat (first | exact List.mem_cons_self | refine List.mem_cons_of_mem _ ?_ | refine mem_seg ?_))) (by first | (simp; done) | exact Inbox.length (by first | assumption | (simp; done) | exact Block.zero_ok | exact Vote.zero_ok | exact Reader.zero_ok | exact Cut.zero_ok | exact Cert.zero_ok | exact Msg.zero_ok | exact Inbox.zero_ok | exact Record.zero_ok | exact Kept.zero_ok  | exact ⟨trivial⟩))) (pm_seg (by repeat (first | exact sg_here | exact sg_end | apply sg_there | apply sg_seg)) (pm_seg (by repeat (first | exact sg_here | exact sg_end | apply sg_there | apply sg_seg)) (pm_seg (by repeat (first | exact sg_here | exact sg_end | apply sg_there | apply sg_seg)) pm_nil))) ?_
        refine ⟨⟨s25⟩, (by rw [he]; try rfl), fun W2 hl => ?_⟩
        rw [show pushD ds l = ds ++ [l] from if_pos he]
        exact ⟨_, (hos.snoc hac25 rfl hoi).seq (hl.sub (by intro b hb; simp only [List.mem_append] at hb ⊢; first | (rcases hb with hb | hb <;> simp [hb]; done) | (simp [hb]; done))) (hl.sub (by intro b hb; simp only [List.mem_append] at hb ⊢; first | (rcases hb with hb | hb <;> simp [hb]; done) | (simp [hb]; done))) (by omega)⟩

set_option maxRecDepth 100000 in
set_option maxHeartbeats 4000000 in
theorem sync_pop (X : Inbox) (ds : List (List UInt8)) : Meets Try.prog 23 [agg X.cells] [] (fun W => ListsAt W X.fList ds) (Popped ds) := by
  intro W hW
  have hn := lists_n hW
  refine calls_of (hp0 := []) Try.func23 rfl 24 Try.ntmps23 rfl (HRep.nil _) ?_
  refine Sat.seq ?_
  -- region 0
  refine Sat.region ?_
  refine Tr.boxA rfl rfl ?_
  intro n1 hn1 hf1
  refine Tr.assign rfl rfl rfl ?_
  refine Tr.alloc (cs := Inbox.zero.cells) rfl Inbox.zr rfl ?_
  intro n3 hn3 hf3
  refine Tr.assign rfl rfl rfl ?_
  refine Tr.nil ?_
  refine at_n ?_
  refine Sat.seq ?_
  refine Sat.seq ?_
  -- region 1
  refine Sat.region ?_
  refine Tr.loadAll rfl rfl rfl Try.underlying59 rfl Sz59 (by first | exact mem0 | exact mem1 | exact mem2 | exact mem3 | exact mem4 | exact mem5 | exact mem6 | exact mem7 | (repeat (first | exact List.mem_cons_self | refine List.mem_cons_of_mem _ ?_ | refine mem_seg ?_))) (Inbox.length (by first | assumption | (simp; done) | exact Block.zero_ok | exact Vote.zero_ok | exact Reader.zero_ok | exact Cut.zero_ok | exact Cert.zero_ok | exact Msg.zero_ok | exact Inbox.zero_ok | exact Record.zero_ok | exact Kept.zero_ok  | exact ⟨trivial⟩)) ?_
  refine Tr.callV rfl rfl rfl rfl Body60 (good_inbox X ds) (fun w h => lists_ext h rfl hW) ?_
  refine Tr.not rfl rfl rfl ?_
  refine Tr.nil ?_
  refine at_n ?_
  refine Sat.cond rfl (fun hc0 => ?_) (fun hc0 => ?_)
  ·
    have hgf : goodI ds = false := by simpa using hc0
    refine Sat.seq ?_
    -- region 2
    refine Sat.region ?_
    refine Tr.build (cs := Inbox.zero.cells) rfl rfl rfl (fun w => by kernel_rfl) ?_
    refine Tr.assign rfl rfl rfl ?_
    refine Tr.storeAll rfl rfl rfl rfl (Inbox.isCell (by first | assumption | (simp; done) | exact Block.zero_ok | exact Vote.zero_ok | exact Reader.zero_ok | exact Cut.zero_ok | exact Cert.zero_ok | exact Msg.zero_ok | exact Inbox.zero_ok | exact Record.zero_ok | exact Kept.zero_ok  | exact ⟨trivial⟩)) Sz59 (Inbox.length (by first | assumption | (simp; done) | exact Block.zero_ok | exact Vote.zero_ok | exact Reader.zero_ok | exact Cut.zero_ok | exact Cert.zero_ok | exact Msg.zero_ok | exact Inbox.zero_ok | exact Record.zero_ok | exact Kept.zero_ok  | exact ⟨trivial⟩)) (by first | exact mem0 | exact mem1 | exact mem2 | exact mem3 | exact mem4 | exact mem5 | exact mem6 | exact mem7 | (repeat (first | exact List.mem_cons_self | refine List.mem_cons_of_mem _ ?_ | refine mem_seg ?_))) (Inbox.length (by first | assumption | (simp; done) | exact Block.zero_ok | exact Vote.zero_ok | exact Reader.zero_ok | exact Cut.zero_ok | exact Cert.zero_ok | exact Msg.zero_ok | exact Inbox.zero_ok | exact Record.zero_ok | exact Kept.zero_ok  | exact ⟨trivial⟩)) (by first | exact upd0 | exact upd1 | exact upd2 | exact upd3 | exact upd4 | exact upd5 | exact upd6 | exact upd7 | (repeat (first | exact upd0 | apply Upd.tail | apply Upd.seg))) ?_
    refine Tr.assign rfl rfl rfl ?_
    refine Tr.nil ?_
    refine at_n ?_
    refine Sat.ret ?_
    refine at_r ?_
    refine en_r ?_
    refine end_perm (out := []) (res_tmp_cell_tmp rfl rfl rfl rfl Try.underlying59 rfl Sz59 (by first | exact mem0 | exact mem1 | exact mem2 | exact mem3 | exact mem4 | exact mem5 | exact mem6 | exact mem7 | (repeat (first | exact List.mem_cons_self | refine List.mem_cons_of_mem _ ?_ | refine mem_seg ?_))) (by first | (simp; done) | exact Inbox.length (by first | assumption | (simp; done) | exact Block.zero_ok | exact Vote.zero_ok | exact Reader.zero_ok | exact Cut.zero_ok | exact Cert.zero_ok | exact Msg.zero_ok | exact Inbox.zero_ok | exact Record.zero_ok | exact Kept.zero_ok  | exact ⟨trivial⟩))) pm_nil ?_
    have he : popE ds = 2 := by rw [popE, if_neg (by rw [hgf]; decide)]
    exact ⟨Sl.nil, Inbox.zero, (by rw [he]; try rfl), by rw [show popB ds = [] from if_neg (by rw [he]; decide)]; rfl, fun W2 _ => by rw [show popD ds = [] from if_neg (by rw [he]; decide), show popB ds = [] from if_neg (by rw [he]; decide)]; exact ⟨bytes_nil, lists_nil⟩⟩
  ·
    have hgt : goodI ds = true := by simpa using hc0
    have hgd := good_iff.1 hgt
    refine Sat.skip ?_
    refine at_n ?_
    refine Sat.seq ?_
    refine Sat.seq ?_
    -- region 3
    refine Sat.region ?_
    refine Tr.fld rfl rfl rfl Try.underlying59 rfl Sz57 (by decide) _ rfl ?_
    refine Tr.load1 rfl rfl rfl Try.underlying57 rfl (by first | exact mem0 | exact mem1 | exact mem2 | exact mem3 | exact mem4 | exact mem5 | exact mem6 | exact mem7 | (repeat (first | exact List.mem_cons_self | refine List.mem_cons_of_mem _ ?_ | refine mem_seg ?_))) (by first | exact Inbox.get_fList (by first | assumption | (simp; done) | exact Block.zero_ok | exact Vote.zero_ok | exact Reader.zero_ok | exact Cut.zero_ok | exact Cert.zero_ok | exact Msg.zero_ok | exact Inbox.zero_ok | exact Record.zero_ok | exact Kept.zero_ok  | exact ⟨trivial⟩) | exact (by first | rfl | exact get_words (by first | omega | (simp; done) | (simp; omega)) | exact get_bytes (by first | omega | (simp; done) | (simp; omega)) | exact get_ints (by first | omega | (simp; done) | (simp; omega)))) ?_
    refine Tr.lenSl rfl rfl rfl Try.underlying57 ?_
    refine Tr.eqi rfl rfl rfl rfl rfl ?_
    refine Tr.nil ?_
    refine at_n ?_
    first
      | refine Sat.condP rfl (fun hc1 => ?_) (fun hc1 => ?_)
      | refine Sat.condNP rfl (fun hc1 => ?_) (fun hc1 => ?_)
      | refine Sat.cond rfl (fun hc1 => ?_) (fun hc1 => ?_)
    ·
      refine Sat.seq ?_
      -- region 4
      refine Sat.region ?_
      refine Tr.build (cs := Inbox.zero.cells) rfl rfl rfl (fun w => by kernel_rfl) ?_
      refine Tr.assign rfl rfl rfl ?_
      refine Tr.storeAll rfl rfl rfl rfl (Inbox.isCell (by first | assumption | (simp; done) | exact Block.zero_ok | exact Vote.zero_ok | exact Reader.zero_ok | exact Cut.zero_ok | exact Cert.zero_ok | exact Msg.zero_ok | exact Inbox.zero_ok | exact Record.zero_ok | exact Kept.zero_ok  | exact ⟨trivial⟩)) Sz59 (Inbox.length (by first | assumption | (simp; done) | exact Block.zero_ok | exact Vote.zero_ok | exact Reader.zero_ok | exact Cut.zero_ok | exact Cert.zero_ok | exact Msg.zero_ok | exact Inbox.zero_ok | exact Record.zero_ok | exact Kept.zero_ok  | exact ⟨trivial⟩)) (by first | exact mem0 | exact mem1 | exact mem2 | exact mem3 | exact mem4 | exact mem5 | exact mem6 | exact mem7 | (repeat (first | exact List.mem_cons_self | refine List.mem_cons_of_mem _ ?_ | refine mem_seg ?_))) (Inbox.length (by first | assumption | (simp; done) | exact Block.zero_ok | exact Vote.zero_ok | exact Reader.zero_ok | exact Cut.zero_ok | exact Cert.zero_ok | exact Msg.zero_ok | exact Inbox.zero_ok | exact Record.zero_ok | exact Kept.zero_ok  | exact ⟨trivial⟩)) (by first | exact upd0 | exact upd1 | exact upd2 | exact upd3 | exact upd4 | exact upd5 | exact upd6 | exact upd7 | (repeat (first | exact upd0 | apply Upd.tail | apply Upd.seg))) ?_
      refine Tr.assign rfl rfl rfl ?_
      refine Tr.nil ?_
      refine at_n ?_
      refine Sat.ret ?_
      refine at_r ?_
      refine en_r ?_
      refine end_perm (out := []) (res_tmp_cell_tmp rfl rfl rfl rfl Try.underlying59 rfl Sz59 (by first | exact mem0 | exact mem1 | exact mem2 | exact mem3 | exact mem4 | exact mem5 | exact mem6 | exact mem7 | (repeat (first | exact List.mem_cons_self | refine List.mem_cons_of_mem _ ?_ | refine mem_seg ?_))) (by first | (simp; done) | exact Inbox.length (by first | assumption | (simp; done) | exact Block.zero_ok | exact Vote.zero_ok | exact Reader.zero_ok | exact Cut.zero_ok | exact Cert.zero_ok | exact Msg.zero_ok | exact Inbox.zero_ok | exact Record.zero_ok | exact Kept.zero_ok  | exact ⟨trivial⟩))) pm_nil ?_
      have he : popE ds = 6 := by rw [popE, if_pos hgt, if_pos (by omega)]
      exact ⟨Sl.nil, Inbox.zero, (by rw [he]; try rfl), by rw [show popB ds = [] from if_neg (by rw [he]; decide)]; rfl, fun W2 _ => by rw [show popD ds = [] from if_neg (by rw [he]; decide), show popB ds = [] from if_neg (by rw [he]; decide)]; exact ⟨bytes_nil, lists_nil⟩⟩
    ·
      have hsm : ∀ d ∈ ds, d.length ≤ 90000 := fun d hd => by have := hgd.2 d hd; omega
      have he : popE ds = 0 := by rw [popE, if_pos hgt, if_neg (by omega)]
      obtain ⟨rs, hs⟩ := hW
      obtain ⟨b, o, r, d, hsp, hr, hd, his, hlen, hsee⟩ := hs.at (by decide) (show 0 < X.fList.n by omega)
      have hW : ListsAt W X.fList ds := ⟨rs, hs⟩
      refine Sat.skip ?_
      refine at_n ?_
      refine Sat.seq ?_
      -- region 5
      refine Sat.withK (sp_v (sp_k sp_n)) rfl ?_
      refine Sat.draw [(0, 0), (0, 1), (0, 2), (1, 3), (0, 5), (0, 6), (0, 7), (4, 4), (4, 8), (0, 9), (0, 10), (4, 11), (0, 12)] Mixed (by kernel_rfl) ?_
      refine Tr.fld rfl rfl rfl Try.underlying59 rfl Sz57 (by decide) _ rfl ?_
      refine Tr.kload1 rfl rfl rfl Try.underlying57 rfl (by first | exact mem0 | exact mem1 | exact mem2 | exact mem3 | exact mem4 | exact mem5 | exact mem6 | exact mem7 | (repeat (first | exact List.mem_cons_self | refine List.mem_cons_of_mem _ ?_ | refine mem_seg ?_))) (by first | exact Inbox.get_fList (by first | assumption | (simp; done) | exact Block.zero_ok | exact Vote.zero_ok | exact Reader.zero_ok | exact Cut.zero_ok | exact Cert.zero_ok | exact Msg.zero_ok | exact Inbox.zero_ok | exact Record.zero_ok | exact Kept.zero_ok  | exact ⟨trivial⟩) | exact (by first | rfl | exact get_words (by first | omega | (simp; done) | (simp; omega)) | exact get_bytes (by first | omega | (simp; done) | (simp; omega)) | exact get_ints (by first | omega | (simp; done) | (simp; omega)))) ?_
      refine Tr.idxSlP 1 rfl rfl rfl hsp rfl Try.underlying57 Sz27 0 rfl (by omega) ?_
      refine Tr.loadE rfl rfl rfl Try.underlying27 rfl (by first | (simp; done) | (simp; exact hW.2.2) | (simp [Cx.with]; done) | (simp [Cx.with]; omega)) (hsee 0 _ rfl) ?_
      refine Tr.fld rfl rfl rfl Try.underlying59 rfl Sz57 (by decide) _ rfl ?_
      refine Tr.kload1 rfl rfl rfl Try.underlying57 rfl (by first | exact mem0 | exact mem1 | exact mem2 | exact mem3 | exact mem4 | exact mem5 | exact mem6 | exact mem7 | (repeat (first | exact List.mem_cons_self | refine List.mem_cons_of_mem _ ?_ | refine mem_seg ?_))) (by first | exact Inbox.get_fList (by first | assumption | (simp; done) | exact Block.zero_ok | exact Vote.zero_ok | exact Reader.zero_ok | exact Cut.zero_ok | exact Cert.zero_ok | exact Msg.zero_ok | exact Inbox.zero_ok | exact Record.zero_ok | exact Kept.zero_ok  | exact ⟨trivial⟩) | exact (by first | rfl | exact get_words (by first | omega | (simp; done) | (simp; omega)) | exact get_bytes (by first | omega | (simp; done) | (simp; omega)) | exact get_ints (by first | omega | (simp; done) | (simp; omega)))) ?_
      refine Tr.sliceLoP 1 rfl rfl rfl hsp rfl rfl (by omega) hs.cap Try.underlying57 Sz27 ?_
      refine Tr.call4 rfl rfl rfl rfl rfl Body61 (bclone r d (by have := his.len; have := hgd.2 d (List.mem_of_getElem? hd); omega)) (fun w h => bytes_ext h rfl his) ?_
      rintro v18 out18 ⟨s18, rfl, hac18⟩
      have hsd := hgd.2 d (List.mem_of_getElem? hd)
      have hrl := his.len
      have hoi : ∀ W2, Lies out18 W2 → BytesAt W2 s18 d := fun W2 hl => acc_bytes hac18 hl hrl (by omega)
      refine Tr.call4 rfl rfl rfl rfl rfl Body62 (sync_copies ⟨some ⟨b, if X.fList.c = 1 then o else o + 1 * 1, none⟩, X.fList.n - 1, X.fList.c - 1⟩ ds.tail (by simp only []; omega) (fun d hd => hsm d (List.mem_of_mem_tail hd))) (fun w h => lists_ext h rfl (lists_tail hW hsp (by omega))) ?_
      rintro v22 out22 ⟨s22, bl, bl2, rs2, rfl, rfl, hos⟩
      simp only [List.append_assoc, List.cons_append, List.nil_append]
      refine Tr.build (cs := (⟨s22⟩ : Inbox).cells) rfl rfl rfl (fun w => by kernel_rfl) ?_
      refine Tr.assign rfl rfl rfl ?_
      refine Tr.storeAll rfl rfl rfl rfl (Inbox.isCell (by first | assumption | (simp; done) | exact Block.zero_ok | exact Vote.zero_ok | exact Reader.zero_ok | exact Cut.zero_ok | exact Cert.zero_ok | exact Msg.zero_ok | exact Inbox.zero_ok | exact Record.zero_ok | exact Kept.zero_ok  | exact ⟨trivial⟩)) Sz59 (Inbox.length (by first | assumption | (simp; done) | exact Block.zero_ok | exact Vote.zero_ok | exact Reader.zero_ok | exact Cut.zero_ok | exact Cert.zero_ok | exact Msg.zero_ok | exact Inbox.zero_ok | exact Record.zero_ok | exact Kept.zero_ok  | exact ⟨trivial⟩)) (by first | exact mem0 | exact mem1 | exact mem2 | exact mem3 | exact mem4 | exact mem5 | exact mem6 | exact mem7 | (repeat (first | exact List.mem_cons_self | refine List.mem_cons_of_mem _ ?_ | refine mem_seg ?_))) (Inbox.length (by first | assumption | (simp; done) | exact Block.zero_ok | exact Vote.zero_ok | exact Reader.zero_ok | exact Cut.zero_ok | exact Cert.zero_ok | exact Msg.zero_ok | exact Inbox.zero_ok | exact Record.zero_ok | exact Kept.zero_ok  | exact ⟨trivial⟩)) (by first | exact upd0 | exact upd1 | exact upd2 | exact upd3 | exact upd4 | exact upd5 | exact upd6 | exact upd7 | (repeat (first | exact upd0 | apply Upd.tail | apply Upd.seg))) ?_
      refine Tr.assign rfl rfl rfl ?_
      refine Tr.nil ?_
      refine at_n ?_
      refine Sat.ret ?_
      refine en_r ?_
      simp only [List.cons_append, List.nil_append, List.append_assoc]
      refine end_perm (out := (bl ++ (bl2 ++ (out18 ++ [])))) (res_tmp_cell_tmp rfl rfl rfl rfl Try.underlying59 rfl Sz59 (by first | exact mem0 | exact mem1 | exact mem2 | exact mem3 | exact mem4 | exact mem5 | exact mem6 | exact mem7 | (repeat (first | exact List.mem_cons_self | refine List.mem_cons_of_mem _ ?_ | refine mem_seg ?_))) (by first | (simp; done) | exact Inbox.length (by first | assumption | (simp; done) | exact Block.zero_ok | exact Vote.zero_ok | exact Reader.zero_ok | exact Cut.zero_ok | exact Cert.zero_ok | exact Msg.zero_ok | exact Inbox.zero_ok | exact Record.zero_ok | exact Kept.zero_ok  | exact ⟨trivial⟩))) (pm_seg (by repeat (first | exact sg_here | exact sg_end | apply sg_there | apply sg_seg)) (pm_seg (by repeat (first | exact sg_here | exact sg_end | apply sg_there | apply sg_seg)) (pm_seg (by repeat (first | exact sg_here | exact sg_end | apply sg_there | apply sg_seg)) pm_nil))) ?_
      have hpb : popB ds = d := (if_pos he).trans (by cases ds; simp at hd; simpa using hd)
      refine ⟨s18, ⟨s22⟩, (by rw [he]; try rfl), by rw [hpb, hac18.num]; exact hrl, fun W2 hl => ?_⟩
      rw [show popD ds = ds.tail from if_pos he, hpb]
      refine ⟨?_, ⟨_, hos.seq (hl.sub (by intro b hb; simp only [List.mem_append] at hb ⊢; first | (rcases hb with hb | hb <;> simp [hb]; done) | (simp [hb]; done))) (hl.sub (by intro b hb; simp only [List.mem_append] at hb ⊢; first | (rcases hb with hb | hb <;> simp [hb]; done) | (simp [hb]; done))) (by simp only []; omega)⟩⟩
      exact hoi W2 (hl.sub (by intro b hb; simp only [List.mem_append] at hb ⊢; first | (rcases hb with hb | hb <;> simp [hb]; done) | (simp [hb]; done)))

set_option maxRecDepth 100000 in
set_option maxHeartbeats 4000000 in
theorem kit_lists (s t : Sl) (ds es : List (List UInt8)) : Meets Try.prog 26 [s.v, t.v] [] (fun W => ListsAt W s ds ∧ ListsAt W t es) (fun v out => v = .bool (decide (ds = es)) ∧ out = []) := by
  intro W hW
  obtain ⟨⟨rs, hs⟩, ⟨rt, ht⟩⟩ := hW
  have h1 := hs.nd
  have h2 := ht.nd
  have hmax := hs.max
  simp only [maxLen] at hmax
  refine calls_of (hp0 := []) Try.func26 rfl 28 Try.ntmps26 rfl (HRep.nil _) ?_
  refine Sat.seq ?_
  -- region 0
  refine Sat.region ?_
  refine Tr.assign rfl rfl rfl ?_
  refine Tr.nil ?_
  refine at_n ?_
  refine Sat.seq ?_
  refine Sat.seq ?_
  -- region 1
  refine Sat.region ?_
  refine Tr.move rfl rfl rfl ?_
  refine Tr.lenSl rfl rfl rfl Try.underlying57 ?_
  refine Tr.move rfl rfl rfl ?_
  refine Tr.lenSl rfl rfl rfl Try.underlying57 ?_
  refine Tr.nei rfl rfl rfl rfl rfl ?_
  refine Tr.nil ?_
  refine at_n ?_
  first
    | refine Sat.condP rfl (fun hc0 => ?_) (fun hc0 => ?_)
    | refine Sat.condNP rfl (fun hc0 => ?_) (fun hc0 => ?_)
    | refine Sat.cond rfl (fun hc0 => ?_) (fun hc0 => ?_)
  ·
    refine Sat.seq ?_
    -- region 2
    refine Sat.region ?_
    refine Tr.assign rfl rfl rfl ?_
    refine Tr.nil ?_
    refine at_n ?_
    refine Sat.ret ?_
    refine at_r ?_
    refine en_r ?_
    refine ⟨_, [], res_tmp rfl rfl, (by simp), (by simp), ?_, rfl⟩
    first
      | exact congrArg Value.bool (decide_eq_false (fun e => by rw [e] at h1; omega)).symm
      | exact congrArg Value.bool (decide_eq_false (fun e => by subst e; rw [hd] at hd2; exact hc2 (Option.some.inj hd2))).symm
      | exact congrArg Value.bool (decide_eq_true (List.ext_getElem? fun j => by
          by_cases hj : j < s.n
          · exact hg j hj
          · rw [List.getElem?_eq_none (by omega), List.getElem?_eq_none (by omega)])).symm
  ·
    refine Sat.skip ?_
    refine at_n ?_
    refine Sat.seq ?_
    refine Sat.seq ?_
    -- region 3
    refine Sat.region ?_
    refine Tr.assign rfl rfl rfl ?_
    refine Tr.nil ?_
    refine at_n ?_
    refine Sat.block ?_
    refine Sat.loop (ι := Nat) (fun k => ⟨[(0, s.v), (1, t.v), (5, i64 (k : Int))], []⟩) (fun k => k ≤ s.n ∧ ∀ j : Nat, j < k → ds[j]? = es[j]?) (fun k => s.n - k) (0) ?_ ?_ ?_
    · exact ⟨by omega, fun j hj => by omega⟩
    · exact weak_of (wk1 rfl (wk1 rfl (wk1 rfl wk0))) wh0 (by repeat (first | exact ns_nil | refine ns_keep rfl ?_ | refine ns_skip ?_))
    ·
      rintro k ⟨hk, hg⟩
      refine Sat.seq ?_
      refine Sat.seq ?_
      -- region 4
      refine Sat.region ?_
      refine Tr.move rfl rfl rfl ?_
      refine Tr.move rfl rfl rfl ?_
      refine Tr.lenSl rfl rfl rfl Try.underlying57 ?_
      refine Tr.lss rfl rfl rfl rfl rfl ?_
      refine Tr.nil ?_
      refine at_n ?_
      first
        | refine Sat.condP rfl (fun hc1 => ?_) (fun hc1 => ?_)
        | refine Sat.condNP rfl (fun hc1 => ?_) (fun hc1 => ?_)
        | refine Sat.cond rfl (fun hc1 => ?_) (fun hc1 => ?_)
      ·
        have hk2 : k < s.n := by omega
        obtain ⟨b, o, r, d, hsp, hr, hd, his, hlen, hsee⟩ := hs.at (by decide) hk2
        obtain ⟨b2, o2, r2, d2, hsp2, hr2, hd2, his2, hlen2, hsee2⟩ := ht.at (by decide) (show k < t.n by omega)
        refine Sat.skip ?_
        refine at_n ?_
        refine Sat.seq ?_
        refine Sat.block ?_
        refine Sat.seq ?_
        -- region 6
        refine Sat.draw [(0, 0), (0, 1), (0, 2), (1, 3), (1, 4), (0, 5), (0, 6), (0, 7), (1, 8), (1, 9), (0, 10)] Mixed (by kernel_rfl) ?_
        refine Tr.move rfl rfl rfl ?_
        refine Tr.move rfl rfl rfl ?_
        refine Tr.idxSlP 1 rfl rfl rfl hsp rfl Try.underlying57 Sz27 k rfl (by omega) ?_
        refine Tr.loadE rfl rfl rfl Try.underlying27 rfl (by first | (simp; done) | (simp; exact hW.2.2) | (simp [Cx.with]; done) | (simp [Cx.with]; omega)) (hsee 0 _ rfl) ?_
        refine Tr.toStr rfl rfl rfl Try.underlying27 Try.underlying5 Try.underlying9 (fun w h => seesP_ext h rfl his.see) his.len ?_
        refine Tr.move rfl rfl rfl ?_
        refine Tr.move rfl rfl rfl ?_
        refine Tr.idxSlP 1 rfl rfl rfl hsp2 rfl Try.underlying57 Sz27 k rfl (by omega) ?_
        refine Tr.loadE rfl rfl rfl Try.underlying27 rfl (by first | (simp; done) | (simp; exact hW.2.2) | (simp [Cx.with]; done) | (simp [Cx.with]; omega)) (hsee2 0 _ rfl) ?_
        refine Tr.toStr rfl rfl rfl Try.underlying27 Try.underlying5 Try.underlying9 (fun w h => seesP_ext h rfl his2.see) his2.len ?_
        refine Tr.neq_str rfl rfl rfl rfl rfl ?_
        refine Tr.nil ?_
        refine at_n ?_
        first
          | refine Sat.condP rfl (fun hc2 => ?_) (fun hc2 => ?_)
          | refine Sat.condNP rfl (fun hc2 => ?_) (fun hc2 => ?_)
          | refine Sat.cond rfl (fun hc2 => ?_) (fun hc2 => ?_)
        ·
          refine Sat.seq ?_
          -- region 7
          refine Sat.region ?_
          refine Tr.assign rfl rfl rfl ?_
          refine Tr.nil ?_
          refine at_n ?_
          refine Sat.ret ?_
          refine bl_r ?_
          refine at_r ?_
          refine at_r ?_
          refine bl_r ?_
          refine at_r ?_
          refine en_r ?_
          refine ⟨_, [], res_tmp rfl rfl, (by simp), (by simp), ?_, rfl⟩
          first
            | exact congrArg Value.bool (decide_eq_false (fun e => by rw [e] at h1; omega)).symm
            | exact congrArg Value.bool (decide_eq_false (fun e => by subst e; rw [hd] at hd2; exact hc2 (Option.some.inj hd2))).symm
            | exact congrArg Value.bool (decide_eq_true (List.ext_getElem? fun j => by
                by_cases hj : j < s.n
                · exact hg j hj
                · rw [List.getElem?_eq_none (by omega), List.getElem?_eq_none (by omega)])).symm
        ·
          refine Sat.skip ?_
          refine bl_n ?_
          refine at_n ?_
          -- region 5
          refine Sat.region ?_
          refine Tr.move rfl rfl rfl ?_
          refine Tr.add_i64 rfl rfl rfl rfl (by omega) ?_
          refine Tr.assign rfl rfl rfl ?_
          refine Tr.nil ?_
          refine at_n ?_
          exact ⟨k + 1, ⟨by omega, fun j hj => by rcases Nat.lt_succ_iff_lt_or_eq.1 hj with h | rfl; exact hg j h; rw [hd, hd2, hc2]⟩, by omega, weak_of (wk1 rfl (wk1 rfl (wk1 rfl wk0))) wh0 (by repeat (first | exact ns_nil | refine ns_keep rfl ?_ | refine ns_skip ?_))⟩
      ·
        obtain rfl : k = s.n := by omega
        refine Sat.exit ?_
        refine at_x ?_
        refine at_x ?_
        refine bl_h ?_
        refine at_n ?_
        refine Sat.seq ?_
        -- region 8
        refine Sat.region ?_
        refine Tr.assign rfl rfl rfl ?_
        refine Tr.nil ?_
        refine at_n ?_
        refine Sat.ret ?_
        refine en_r ?_
        refine ⟨_, [], res_tmp rfl rfl, (by simp), (by simp), ?_, rfl⟩
        first
          | exact congrArg Value.bool (decide_eq_false (fun e => by rw [e] at h1; omega)).symm
          | exact congrArg Value.bool (decide_eq_false (fun e => by subst e; rw [hd] at hd2; exact hc2 (Option.some.inj hd2))).symm
          | exact congrArg Value.bool (decide_eq_true (List.ext_getElem? fun j => by
              by_cases hj : j < s.n
              · exact hg j hj
              · rw [List.getElem?_eq_none (by omega), List.getElem?_eq_none (by omega)])).symm

end Go.Proofs.Ytejjamifnombhaa
end
