/- SyncNames returns true at every start, and leaves all old memory as it was. Conditions: none beyond the given statement's own. -/
import Derived.WalkKit
import Derived.Orders
import Derived.Deep.LoopGhost
import Derived.IntWalk
import Derived.Laws.StructEq
import Derived.ArgAppend
import Derived.Deep.AppendSrc
import Derived.Lib.Bytealg
import Derived.Lib.BytesEntry
import Derived.Laws.IdiomStrings
import Derived.WideKeyArr2
import Derived.ProofKit
import Derived.OpenShut
import Derived.Deep.Slices
import Derived.Laws.Pointers
import Derived.Laws.Cover3
import Derived.LaidEqlPtr
import Derived.LoopN
import Derived.RangeFuncLeaves
import Derived.RangeFuncSeq
import Derived.OrdersIn
import Derived.Test.YtejjamifnombhaaGreatRows
import Derived.KernelRfl
import Derived.Laws.Externs
import Derived.ChangeOld
import Derived.Below
import Derived.Test.YtejjamifnombhaaGreatSNamesC3
section
namespace Go.Proofs.YtejjamifnombhaaGreat
open Go Hw
set_option linter.unusedVariables false
set_option linter.unusedSimpArgs false

set_option maxRecDepth 100000 in
set_option maxHeartbeats 1000000 in
theorem all_cert_1 (x : Cert) (d : DCert) (q : Nat) : Meets Tryz.prog 220 [agg x.cells, ptr q 0] [] (fun W => CertIs W x d ∧ W.cell? ⟨q, 0, none⟩ = some (.func (.func 34) #[] #[])) (fun v out => v = .bool (!decide (d.check = 0)) ∧ out = []) := by
  intro W hW
  refine calls_of (hp0 := []) Tryz.func220 rfl 8 Tryz.ntmps220 rfl (HRep.nil _) ?_
  refine Sat.seq ?_
  -- region 0
  refine Sat.region ?_
  refine Tr.boxA rfl rfl ?_
  intro n2 hn2 hf2
  refine Tr.assign rfl rfl rfl ?_
  refine Tr.nil ?_
  refine at_n ?_
  refine Sat.seq ?_
  -- region 1
  refine Sat.region ?_
  refine Tr.loadE rfl rfl rfl Tryz.underlying69 rfl (by first | (simp; done) | (simp; exact hW.2.2) | (simp [Cx.with]; done) | (simp [Cx.with]; omega)) (hW.2) ?_
  refine Tr.loadAll rfl rfl rfl Tryz.underlying55 rfl Sz55 (by first | exact mem0 | exact mem1 | exact mem2 | exact mem3 | exact mem4 | exact mem5 | exact mem6 | exact mem7 | (repeat (first | exact List.mem_cons_self | refine List.mem_cons_of_mem _ ?_ | refine mem_seg ?_))) (Cert.length (by first | assumption | (simp; done) | exact Block.zero_ok | exact Vote.zero_ok | exact Reader.zero_ok | exact Cut.zero_ok | exact Cert.zero_ok | exact Msg.zero_ok | exact Inbox.zero_ok | exact Record.zero_ok | exact Kept.zero_ok  | exact hW.1.ok)) ?_
  refine Tr.callV rfl rfl rfl rfl Body34 (cert_check x d) (fun w h => hW.1.ext h rfl) ?_
  refine Tr.nei rfl rfl rfl rfl rfl ?_
  refine Tr.assign rfl rfl rfl ?_
  refine Tr.nil ?_
  refine at_n ?_
  refine Sat.ret ?_
  refine en_r ?_
  refine ⟨_, [], res_tmp rfl rfl, (by simp), (by simp), ?_, rfl⟩
  first
    | rfl
    | simp

set_option maxRecDepth 100000 in
set_option maxHeartbeats 1000000 in
theorem index_cert (s : Sl) (ds : List DCert) (q : Nat) : Meets Tryz.prog 239 [s.v, .func (.func 220) #[] #[ptr q 0]] [] (fun W => CertsAt W s ds ∧ W.cell? ⟨q, 0, none⟩ = some (.func (.func 34) #[] #[])) (fun v out => v = i64 (fstBad (fun d : DCert => !decide (d.check = 0)) ds) ∧ out = []) := by
  intro W hW
  obtain ⟨⟨rs, hs⟩, hq⟩ := hW
  have hmax := hs.max
  simp only [maxLen] at hmax
  have hcap := hs.cap
  refine calls_of (hp0 := []) Tryz.func239 rfl 19 Tryz.ntmps239 rfl (HRep.nil _) ?_
  refine Sat.seq ?_
  -- region 0
  refine Sat.region ?_
  refine Tr.assign rfl rfl rfl ?_
  refine Tr.nil ?_
  refine at_n ?_
  refine Sat.seq ?_
  refine Sat.seq ?_
  -- region 1
  refine Sat.region ?_
  refine Tr.move rfl rfl rfl ?_
  refine Tr.lenSl rfl rfl rfl Tryz.underlying23 ?_
  refine Tr.move rfl rfl rfl ?_
  refine Tr.nil ?_
  refine at_n ?_
  refine Sat.block ?_
  refine Sat.loop (ι := Nat) (fun k => ⟨[(0, s.v), (1, .func (.func 220) #[] #[ptr q 0]), (7, i64 (s.n : Int)), (8, i64 (k : Int))], []⟩) (fun k => k ≤ s.n ∧ ∀ j, j < k → (ds.map (fun d : DCert => !decide (d.check = 0)))[j]? = some false) (fun k => s.n - k) (0) ?_ ?_ ?_
  · exact ⟨by omega, fun j hj => by omega⟩
  · exact weak_of (wk1 rfl (wk1 rfl (wk1 rfl (wk1 rfl wk0)))) wh0 (by repeat (first | exact ns_nil | refine ns_keep rfl ?_ | refine ns_skip ?_))
  ·
    rintro k ⟨hk, hg⟩
    refine Sat.seq ?_
    -- region 2
    refine Sat.region ?_
    refine Tr.lss rfl rfl rfl rfl rfl ?_
    refine Tr.nil ?_
    refine at_n ?_
    refine Sat.seq ?_
    first
      | refine Sat.condP rfl (fun hc0 => ?_) (fun hc0 => ?_)
      | refine Sat.condNP rfl (fun hc0 => ?_) (fun hc0 => ?_)
      | refine Sat.cond rfl (fun hc0 => ?_) (fun hc0 => ?_)
    ·
      have hk2 : k < s.n := by omega
      obtain ⟨b, o, r, d, hsp, hr, hd, his, hlen, hsee⟩ := hs.at (by decide) hk2
      refine Sat.skip ?_
      refine at_n ?_
      refine Sat.seq ?_
      refine Sat.block ?_
      refine Sat.seq ?_
      -- region 3
      refine Sat.region ?_
      refine Tr.move rfl rfl rfl ?_
      refine Tr.assign rfl rfl rfl ?_
      refine Tr.nil ?_
      refine at_n ?_
      refine Sat.seq ?_
      -- region 4
      refine Sat.region ?_
      refine Tr.move rfl rfl rfl ?_
      refine Tr.move rfl rfl rfl ?_
      refine Tr.move rfl rfl rfl ?_
      refine Tr.idxSlP 35 rfl rfl rfl hsp rfl Tryz.underlying23 Sz55 k (by omega) (by omega) ?_
      refine Tr.loadEN r.cells rfl rfl rfl Tryz.underlying55 rfl Sz55 (by simp) hlen hsee ?_
      refine Tr.callCV rfl rfl rfl rfl rfl Body220 (all_cert_1 r d q) (fun w h => ⟨his.ext h rfl, h.keeps.cell (by simp) hq⟩) ?_
      refine Tr.nil ?_
      refine at_n ?_
      first
        | refine Sat.condP rfl (fun hc1 => ?_) (fun hc1 => ?_)
        | refine Sat.condNP rfl (fun hc1 => ?_) (fun hc1 => ?_)
        | refine Sat.cond rfl (fun hc1 => ?_) (fun hc1 => ?_)
      ·
        refine Sat.seq ?_
        -- region 5
        refine Sat.region ?_
        refine Tr.move rfl rfl rfl ?_
        refine Tr.assign rfl rfl rfl ?_
        refine Tr.nil ?_
        refine at_n ?_
        refine Sat.ret ?_
        refine bl_r ?_
        refine at_r ?_
        refine at_r ?_
        refine bl_r ?_
        refine at_r ?_
        refine en_r ?_
        refine ⟨_, [], res_tmp rfl rfl, (by simp), (by simp), ?_, rfl⟩
        first
          | exact congrArg i64 (fstBad_none (by intro j hj; exact hg j (by rw [hs.nd] at hj; exact hj))).symm
          | exact congrArg i64 (fstBad_at hg (by rw [List.getElem?_map, hd]; simpa using hc1)).symm
      ·
        refine Sat.skip ?_
        refine bl_n ?_
        refine at_n ?_
        -- region 6
        refine Sat.region ?_
        refine Tr.add_i64 rfl rfl rfl rfl (by omega) ?_
        refine Tr.move rfl rfl rfl ?_
        refine Tr.nil ?_
        refine at_n ?_
        exact ⟨k + 1, ⟨by omega, fun j hj => by rcases Nat.lt_succ_iff_lt_or_eq.1 hj with h | rfl; exact hg j h; rw [List.getElem?_map, hd]; simpa using hc1⟩, by omega, weak_of (wk1 rfl (wk1 rfl (wk1 rfl (wk1 rfl wk0)))) wh0 (by repeat (first | exact ns_nil | refine ns_keep rfl ?_ | refine ns_skip ?_))⟩
    ·
      obtain rfl : k = s.n := by omega
      refine Sat.exit ?_
      refine at_x ?_
      refine at_x ?_
      refine bl_h ?_
      refine at_n ?_
      refine Sat.seq ?_
      -- region 7
      refine Sat.region ?_
      refine Tr.assign rfl rfl rfl ?_
      refine Tr.nil ?_
      refine at_n ?_
      refine Sat.ret ?_
      refine en_r ?_
      refine ⟨_, [], res_tmp rfl rfl, (by simp), (by simp), ?_, rfl⟩
      first
        | exact congrArg i64 (fstBad_none (by intro j hj; exact hg j (by rw [hs.nd] at hj; exact hj))).symm
        | exact congrArg i64 (fstBad_at hg (by rw [List.getElem?_map, hd]; simpa using hc1)).symm

set_option maxRecDepth 100000 in
set_option maxHeartbeats 1000000 in
theorem contains_cert (s : Sl) (ds : List DCert) (q : Nat) : Meets Tryz.prog 187 [s.v, .func (.func 220) #[] #[ptr q 0]] [] (fun W => CertsAt W s ds ∧ W.cell? ⟨q, 0, none⟩ = some (.func (.func 34) #[] #[])) (fun v out => v = .bool (ds.any (fun d : DCert => !decide (d.check = 0))) ∧ out = []) := by
  intro W hW
  refine calls_of (hp0 := []) Tryz.func187 rfl 9 Tryz.ntmps187 rfl (HRep.nil _) ?_
  refine Sat.seq ?_
  -- region 0
  refine Sat.region ?_
  refine Tr.assign rfl rfl rfl ?_
  refine Tr.nil ?_
  refine at_n ?_
  refine Sat.seq ?_
  -- region 1
  refine Sat.region ?_
  refine Tr.move rfl rfl rfl ?_
  refine Tr.move rfl rfl rfl ?_
  refine Tr.callV rfl rfl rfl rfl Body239 (index_cert s ds q) (fun w h => ⟨Certs_ext h rfl hW.1, h.keeps.cell (by simp) hW.2⟩) ?_
  refine Tr.geq rfl rfl rfl rfl rfl ?_
  refine Tr.assign rfl rfl rfl ?_
  refine Tr.nil ?_
  refine at_n ?_
  refine Sat.ret ?_
  refine en_r ?_
  refine ⟨_, [], res_tmp rfl rfl, (by simp), (by simp), ?_, rfl⟩
  exact congrArg Value.bool (fstBad_ge _ _)

set_option maxRecDepth 100000 in
set_option maxHeartbeats 1000000 in
theorem all_cert (s : Sl) (ds : List DCert) : Meets Tryz.prog 134 [s.v, .func (.func 34) #[] #[]] [] (fun W => CertsAt W s ds) (fun v out => v = .bool (ds.all fun d => decide (d.check = 0)) ∧ out = []) := by
  intro W hW
  refine calls_of (hp0 := []) Tryz.func134 rfl 9 Tryz.ntmps134 rfl (HRep.nil _) ?_
  refine Sat.seq ?_
  -- region 0
  refine Sat.region ?_
  refine Tr.box1 rfl rfl rfl ?_
  intro n3 hn3 hf3
  refine Tr.assign rfl rfl rfl ?_
  refine Tr.nil ?_
  refine at_n ?_
  refine Sat.seq ?_
  -- region 1
  refine Sat.region ?_
  refine Tr.move rfl rfl rfl ?_
  refine Tr.makeFunc rfl rfl rfl rfl ?_
  refine Tr.callV rfl rfl rfl rfl Body187 (contains_cert s ds n3) (fun w h => ⟨Certs_ext h rfl hW, (own_blk h (by first | exact mem0 | exact mem1 | exact mem2 | exact mem3 | exact mem4 | exact mem5 | exact mem6 | exact mem7 | (repeat (first | exact List.mem_cons_self | refine List.mem_cons_of_mem _ ?_ | refine mem_seg ?_)))).cell (o := 0) rfl⟩) ?_
  refine Tr.not rfl rfl rfl ?_
  refine Tr.assign rfl rfl rfl ?_
  refine Tr.nil ?_
  refine at_n ?_
  refine Sat.ret ?_
  refine en_r ?_
  refine ⟨_, [], res_tmp rfl rfl, (by simp), (by simp), ?_, rfl⟩
  exact congrArg Value.bool (any_all _ _)


/-- what is wrong with a message -/
def DMsg.bad (D : DMsg) : Prop := partsI D.dKind = 0 ∨ (4294967295 : Int) < (D.dHeight.toNat : Int) ∨ ¬ andNotI D.used (partsI D.dKind) = 0 ∨ (32 : Int) < (D.dHeads.length : Int) ∨ (32 : Int) < (D.dWant.length : Int) ∨ (8 : Int) < (D.dBlocks.length : Int) ∨ (20 : Int) < (D.dVotes.length : Int) ∨ (4 : Int) < (D.dCuts.length : Int) ∨ (2 : Int) < (D.dCerts.length : Int) ∨ (¬ D.dKind = 1 ∧ ¬ D.dKind = 2 ∧ D.used = 0) ∨
  ¬ (D.dBlocks.all fun d => decide (d.check = 0)) = true ∨ ¬ (D.dVotes.all fun d => decide (vcheck d = 0)) = true ∨ ¬ (D.dCuts.all fun d => decide (d.check = 0)) = true ∨ ¬ (D.dCerts.all fun d => decide (d.check = 0)) = true
open Classical in
noncomputable def DMsg.check (D : DMsg) : Int := if D.bad then 2 else 0
theorem msg_bad {D : DMsg} (h : D.bad) : D.check = 2 := if_pos h
theorem msg_good {D : DMsg} (h : ¬ D.bad) : D.check = 0 := if_neg h


set_option maxRecDepth 100000 in
set_option maxHeartbeats 4000000 in
theorem msg_check (m : Msg) (D : DMsg) : Meets Tryz.prog 37 [agg m.cells] [] (fun W => MsgIs W m D) (fun v out => v = i64 D.check ∧ out = []) := by
  intro W hW
  have hok := hW.ok
  have hl := hW.len
  have hbits := mbits_eq hW
  have hu : ((usedN (mbits m) 7 : Nat) : Int) = D.used := by rw [hbits]; rfl
  have eK := hW.fKind
  have eH := hW.fHeight
  refine calls_of (hp0 := []) Tryz.func37 rfl 90 Tryz.ntmps37 rfl (HRep.nil _) ?_
  refine Sat.seq ?_
  -- region 0
  refine Sat.region ?_
  refine Tr.boxA rfl rfl ?_
  intro n1 hn1 hf1
  refine Tr.assign rfl rfl rfl ?_
  refine Tr.nil ?_
  refine at_n ?_
  refine Sat.seq ?_
  -- region 1
  refine Sat.region ?_
  refine Tr.fld rfl rfl rfl Tryz.underlying57 rfl Sz3 (by decide) _ rfl ?_
  refine Tr.load1 rfl rfl rfl Tryz.underlying3 rfl (by first | exact mem0 | exact mem1 | exact mem2 | exact mem3 | exact mem4 | exact mem5 | exact mem6 | exact mem7 | (repeat (first | exact List.mem_cons_self | refine List.mem_cons_of_mem _ ?_ | refine mem_seg ?_))) (by first | exact Msg.get_fKind (by first | assumption | (simp; done) | exact Block.zero_ok | exact Vote.zero_ok | exact Reader.zero_ok | exact Cut.zero_ok | exact Cert.zero_ok | exact Msg.zero_ok | exact Inbox.zero_ok | exact Record.zero_ok | exact Kept.zero_ok  | exact hok) | exact (by first | rfl | exact get_words (by first | omega | (simp; done) | (simp; omega)) | exact get_bytes (by first | omega | (simp; done) | (simp; omega)) | exact get_ints (by first | omega | (simp; done) | (simp; omega)))) ?_
  refine Tr.callV rfl rfl rfl rfl Body98 (sync_parts m.fKind) (fun _ _ => trivial) ?_
  refine Tr.assign rfl rfl rfl ?_
  refine Tr.nil ?_
  refine at_n ?_
  refine Sat.seq ?_
  refine Sat.seq ?_
  -- region 2
  refine Sat.region ?_
  refine Tr.move rfl rfl rfl ?_
  refine two (fun r hr k => Tr.eqi rfl rfl rfl rfl hr k) (fun hs2_10 => ?_) (fun hs2_10 => ?_)
  ·
    first | have hs2_1 := of_decide_eq_true hs2_10 | have hs2_1 := of_decide_eq_false hs2_10 | have hs2_1 := nd_t hs2_10 | have hs2_1 := nd_f hs2_10 | have hs2_1 := hs2_10
    refine Tr.move rfl rfl rfl ?_
    refine Tr.skp rfl rfl ?_
    refine Tr.skp rfl rfl ?_
    refine Tr.skp rfl rfl ?_
    refine Tr.pick rfl rfl rfl rfl rfl rfl ?_
    refine Tr.move rfl rfl rfl ?_
    refine Tr.skp rfl rfl ?_
    refine Tr.skp rfl rfl ?_
    refine Tr.skp rfl rfl ?_
    refine Tr.skp rfl rfl ?_
    refine Tr.skp rfl rfl ?_
    refine Tr.pick rfl rfl rfl rfl rfl rfl ?_
    refine Tr.nil ?_
    refine at_n ?_
    refine Sat.cond_t rfl rfl ?_
    refine Sat.seq ?_
    -- region 3
    refine Sat.region ?_
    refine Tr.assign rfl rfl rfl ?_
    refine Tr.nil ?_
    refine at_n ?_
    refine Sat.ret ?_
    refine at_r ?_
    refine en_r ?_
    refine ⟨_, [], res_tmp rfl rfl, (by simp), (by simp), ?_, rfl⟩
    first
      | exact congrArg i64 (msg_bad (by
          simp only [DMsg.bad, ← eK, ← eH, ← hu, ← hl.heads, ← hl.want, ← hl.blocks, ← hl.votes, ← hl.cuts, ← hl.certs]
          first
            | exact .inl (‹_›)
            | exact .inr (.inl (‹_›))
            | exact .inr (.inr (.inl (‹_›)))
            | exact .inr (.inr (.inr (.inl (‹_›))))
            | exact .inr (.inr (.inr (.inr (.inl (‹_›)))))
            | exact .inr (.inr (.inr (.inr (.inr (.inl (‹_›))))))
            | exact .inr (.inr (.inr (.inr (.inr (.inr (.inl (‹_›)))))))
            | exact .inr (.inr (.inr (.inr (.inr (.inr (.inr (.inl (‹_›))))))))
            | exact .inr (.inr (.inr (.inr (.inr (.inr (.inr (.inr (.inl (‹_›)))))))))
            | exact .inr (.inr (.inr (.inr (.inr (.inr (.inr (.inr (.inr (.inl (⟨‹_›, ‹_›, ‹_›⟩))))))))))
            | exact .inr (.inr (.inr (.inr (.inr (.inr (.inr (.inr (.inr (.inl (⟨by omega, by omega, by omega⟩))))))))))
            | exact .inr (.inr (.inr (.inr (.inr (.inr (.inr (.inr (.inr (.inr (.inl (‹_›)))))))))))
            | exact .inr (.inr (.inr (.inr (.inr (.inr (.inr (.inr (.inr (.inr (.inr (.inl (‹_›))))))))))))
            | exact .inr (.inr (.inr (.inr (.inr (.inr (.inr (.inr (.inr (.inr (.inr (.inr (.inl (‹_›)))))))))))))
            | exact .inr (.inr (.inr (.inr (.inr (.inr (.inr (.inr (.inr (.inr (.inr (.inr (.inr (‹_›)))))))))))))
            | exact .inr (.inr (.inr (.inr (.inr (.inr (.inr (.inr (.inr (.inr (.inl (fun e => Bool.noConfusion (hs8_2.symm.trans e))))))))))))
            | exact .inr (.inr (.inr (.inr (.inr (.inr (.inr (.inr (.inr (.inr (.inr (.inl (fun e => Bool.noConfusion (hs8_7.symm.trans e)))))))))))))
            | exact .inr (.inr (.inr (.inr (.inr (.inr (.inr (.inr (.inr (.inr (.inr (.inr (.inl (fun e => Bool.noConfusion (hs8_13.symm.trans e)))))))))))))))).symm
      | exact congrArg i64 (msg_good (by
          simp only [DMsg.bad, ← eK, ← eH, ← hu, ← hl.heads, ← hl.want, ← hl.blocks, ← hl.votes, ← hl.cuts, ← hl.certs]
          rintro (h | h | h | h | h | h | h | h | h | h | h | h | h | h)
          all_goals first | exact h ‹_› | omega | (simp_all; done))).symm
  ·
    first | have hs2_1 := of_decide_eq_true hs2_10 | have hs2_1 := of_decide_eq_false hs2_10 | have hs2_1 := nd_t hs2_10 | have hs2_1 := nd_f hs2_10 | have hs2_1 := hs2_10
    refine Tr.move rfl rfl rfl ?_
    refine Tr.fld rfl rfl rfl Tryz.underlying57 rfl Sz48 (by decide) _ rfl ?_
    refine Tr.load1 rfl rfl rfl Tryz.underlying48 rfl (by first | exact mem0 | exact mem1 | exact mem2 | exact mem3 | exact mem4 | exact mem5 | exact mem6 | exact mem7 | (repeat (first | exact List.mem_cons_self | refine List.mem_cons_of_mem _ ?_ | refine mem_seg ?_))) (by first | exact Msg.get_fHeight (by first | assumption | (simp; done) | exact Block.zero_ok | exact Vote.zero_ok | exact Reader.zero_ok | exact Cut.zero_ok | exact Cert.zero_ok | exact Msg.zero_ok | exact Inbox.zero_ok | exact Record.zero_ok | exact Kept.zero_ok  | exact hok) | exact (by first | rfl | exact get_words (by first | omega | (simp; done) | (simp; omega)) | exact get_bytes (by first | omega | (simp; done) | (simp; omega)) | exact get_ints (by first | omega | (simp; done) | (simp; omega)))) ?_
    refine two (fun r hr k => Tr.gtr rfl rfl rfl rfl hr k) (fun hs2_50 => ?_) (fun hs2_50 => ?_)
    ·
      first | have hs2_5 := of_decide_eq_true hs2_50 | have hs2_5 := of_decide_eq_false hs2_50 | have hs2_5 := nd_t hs2_50 | have hs2_5 := nd_f hs2_50 | have hs2_5 := hs2_50
      refine Tr.pick rfl rfl rfl rfl rfl rfl ?_
      refine Tr.move rfl rfl rfl ?_
      refine Tr.skp rfl rfl ?_
      refine Tr.skp rfl rfl ?_
      refine Tr.skp rfl rfl ?_
      refine Tr.skp rfl rfl ?_
      refine Tr.skp rfl rfl ?_
      refine Tr.pick rfl rfl rfl rfl rfl rfl ?_
      refine Tr.nil ?_
      refine at_n ?_
      refine Sat.cond_t rfl rfl ?_
      refine Sat.seq ?_
      -- region 3
      refine Sat.region ?_
      refine Tr.assign rfl rfl rfl ?_
      refine Tr.nil ?_
      refine at_n ?_
      refine Sat.ret ?_
      refine at_r ?_
      refine en_r ?_
      refine ⟨_, [], res_tmp rfl rfl, (by simp), (by simp), ?_, rfl⟩
      first
        | exact congrArg i64 (msg_bad (by
            simp only [DMsg.bad, ← eK, ← eH, ← hu, ← hl.heads, ← hl.want, ← hl.blocks, ← hl.votes, ← hl.cuts, ← hl.certs]
            first
              | exact .inl (‹_›)
              | exact .inr (.inl (‹_›))
              | exact .inr (.inr (.inl (‹_›)))
              | exact .inr (.inr (.inr (.inl (‹_›))))
              | exact .inr (.inr (.inr (.inr (.inl (‹_›)))))
              | exact .inr (.inr (.inr (.inr (.inr (.inl (‹_›))))))
              | exact .inr (.inr (.inr (.inr (.inr (.inr (.inl (‹_›)))))))
              | exact .inr (.inr (.inr (.inr (.inr (.inr (.inr (.inl (‹_›))))))))
              | exact .inr (.inr (.inr (.inr (.inr (.inr (.inr (.inr (.inl (‹_›)))))))))
              | exact .inr (.inr (.inr (.inr (.inr (.inr (.inr (.inr (.inr (.inl (⟨‹_›, ‹_›, ‹_›⟩))))))))))
              | exact .inr (.inr (.inr (.inr (.inr (.inr (.inr (.inr (.inr (.inl (⟨by omega, by omega, by omega⟩))))))))))
              | exact .inr (.inr (.inr (.inr (.inr (.inr (.inr (.inr (.inr (.inr (.inl (‹_›)))))))))))
              | exact .inr (.inr (.inr (.inr (.inr (.inr (.inr (.inr (.inr (.inr (.inr (.inl (‹_›))))))))))))
              | exact .inr (.inr (.inr (.inr (.inr (.inr (.inr (.inr (.inr (.inr (.inr (.inr (.inl (‹_›)))))))))))))
              | exact .inr (.inr (.inr (.inr (.inr (.inr (.inr (.inr (.inr (.inr (.inr (.inr (.inr (‹_›)))))))))))))
              | exact .inr (.inr (.inr (.inr (.inr (.inr (.inr (.inr (.inr (.inr (.inl (fun e => Bool.noConfusion (hs8_2.symm.trans e))))))))))))
              | exact .inr (.inr (.inr (.inr (.inr (.inr (.inr (.inr (.inr (.inr (.inr (.inl (fun e => Bool.noConfusion (hs8_7.symm.trans e)))))))))))))
              | exact .inr (.inr (.inr (.inr (.inr (.inr (.inr (.inr (.inr (.inr (.inr (.inr (.inl (fun e => Bool.noConfusion (hs8_13.symm.trans e)))))))))))))))).symm
        | exact congrArg i64 (msg_good (by
            simp only [DMsg.bad, ← eK, ← eH, ← hu, ← hl.heads, ← hl.want, ← hl.blocks, ← hl.votes, ← hl.cuts, ← hl.certs]
            rintro (h | h | h | h | h | h | h | h | h | h | h | h | h | h)
            all_goals first | exact h ‹_› | omega | (simp_all; done))).symm
    ·
      first | have hs2_5 := of_decide_eq_true hs2_50 | have hs2_5 := of_decide_eq_false hs2_50 | have hs2_5 := nd_t hs2_50 | have hs2_5 := nd_f hs2_50 | have hs2_5 := hs2_50
      refine Tr.pick rfl rfl rfl rfl rfl rfl ?_
      refine Tr.move rfl rfl rfl ?_
      refine Tr.loadAll rfl rfl rfl Tryz.underlying57 rfl Sz57 (by first | exact mem0 | exact mem1 | exact mem2 | exact mem3 | exact mem4 | exact mem5 | exact mem6 | exact mem7 | (repeat (first | exact List.mem_cons_self | refine List.mem_cons_of_mem _ ?_ | refine mem_seg ?_))) (Msg.length (by first | assumption | (simp; done) | exact Block.zero_ok | exact Vote.zero_ok | exact Reader.zero_ok | exact Cut.zero_ok | exact Cert.zero_ok | exact Msg.zero_ok | exact Inbox.zero_ok | exact Record.zero_ok | exact Kept.zero_ok  | exact hok)) ?_
      refine Tr.callV rfl rfl rfl rfl Body130 (sync_used m hok) (fun _ _ => trivial) ?_
      refine Tr.move rfl rfl rfl ?_
      refine Tr.andNot_i64 rfl rfl rfl rfl ?_
      refine Tr.nei rfl rfl rfl rfl rfl ?_
      refine Tr.pick rfl rfl rfl rfl rfl rfl ?_
      refine Tr.nil ?_
      refine at_n ?_
      first
        | refine Sat.condP rfl (fun hc0 => ?_) (fun hc0 => ?_)
        | refine Sat.condNP rfl (fun hc0 => ?_) (fun hc0 => ?_)
        | refine Sat.cond rfl (fun hc0 => ?_) (fun hc0 => ?_)
      ·
        refine Sat.seq ?_
        -- region 3
        refine Sat.region ?_
        refine Tr.assign rfl rfl rfl ?_
        refine Tr.nil ?_
        refine at_n ?_
        refine Sat.ret ?_
        refine at_r ?_
        refine en_r ?_
        refine ⟨_, [], res_tmp rfl rfl, (by simp), (by simp), ?_, rfl⟩
        first
          | exact congrArg i64 (msg_bad (by
              simp only [DMsg.bad, ← eK, ← eH, ← hu, ← hl.heads, ← hl.want, ← hl.blocks, ← hl.votes, ← hl.cuts, ← hl.certs]
              first
                | exact .inl (‹_›)
                | exact .inr (.inl (‹_›))
                | exact .inr (.inr (.inl (‹_›)))
                | exact .inr (.inr (.inr (.inl (‹_›))))
                | exact .inr (.inr (.inr (.inr (.inl (‹_›)))))
                | exact .inr (.inr (.inr (.inr (.inr (.inl (‹_›))))))
                | exact .inr (.inr (.inr (.inr (.inr (.inr (.inl (‹_›)))))))
                | exact .inr (.inr (.inr (.inr (.inr (.inr (.inr (.inl (‹_›))))))))
                | exact .inr (.inr (.inr (.inr (.inr (.inr (.inr (.inr (.inl (‹_›)))))))))
                | exact .inr (.inr (.inr (.inr (.inr (.inr (.inr (.inr (.inr (.inl (⟨‹_›, ‹_›, ‹_›⟩))))))))))
                | exact .inr (.inr (.inr (.inr (.inr (.inr (.inr (.inr (.inr (.inl (⟨by omega, by omega, by omega⟩))))))))))
                | exact .inr (.inr (.inr (.inr (.inr (.inr (.inr (.inr (.inr (.inr (.inl (‹_›)))))))))))
                | exact .inr (.inr (.inr (.inr (.inr (.inr (.inr (.inr (.inr (.inr (.inr (.inl (‹_›))))))))))))
                | exact .inr (.inr (.inr (.inr (.inr (.inr (.inr (.inr (.inr (.inr (.inr (.inr (.inl (‹_›)))))))))))))
                | exact .inr (.inr (.inr (.inr (.inr (.inr (.inr (.inr (.inr (.inr (.inr (.inr (.inr (‹_›)))))))))))))
                | exact .inr (.inr (.inr (.inr (.inr (.inr (.inr (.inr (.inr (.inr (.inl (fun e => Bool.noConfusion (hs8_2.symm.trans e))))))))))))
                | exact .inr (.inr (.inr (.inr (.inr (.inr (.inr (.inr (.inr (.inr (.inr (.inl (fun e => Bool.noConfusion (hs8_7.symm.trans e)))))))))))))
                | exact .inr (.inr (.inr (.inr (.inr (.inr (.inr (.inr (.inr (.inr (.inr (.inr (.inl (fun e => Bool.noConfusion (hs8_13.symm.trans e)))))))))))))))).symm
          | exact congrArg i64 (msg_good (by
              simp only [DMsg.bad, ← eK, ← eH, ← hu, ← hl.heads, ← hl.want, ← hl.blocks, ← hl.votes, ← hl.cuts, ← hl.certs]
              rintro (h | h | h | h | h | h | h | h | h | h | h | h | h | h)
              all_goals first | exact h ‹_› | omega | (simp_all; done))).symm
      ·
        refine Sat.skip ?_
        refine at_n ?_
        refine Sat.seq ?_
        refine Sat.seq ?_
        -- region 4
        refine Sat.region ?_
        refine Tr.fld rfl rfl rfl Tryz.underlying57 rfl Sz51 (by decide) _ rfl ?_
        refine Tr.load1 rfl rfl rfl Tryz.underlying51 rfl (by first | exact mem0 | exact mem1 | exact mem2 | exact mem3 | exact mem4 | exact mem5 | exact mem6 | exact mem7 | (repeat (first | exact List.mem_cons_self | refine List.mem_cons_of_mem _ ?_ | refine mem_seg ?_))) (by first | exact Msg.get_fHeads (by first | assumption | (simp; done) | exact Block.zero_ok | exact Vote.zero_ok | exact Reader.zero_ok | exact Cut.zero_ok | exact Cert.zero_ok | exact Msg.zero_ok | exact Inbox.zero_ok | exact Record.zero_ok | exact Kept.zero_ok  | exact hok) | exact (by first | rfl | exact get_words (by first | omega | (simp; done) | (simp; omega)) | exact get_bytes (by first | omega | (simp; done) | (simp; omega)) | exact get_ints (by first | omega | (simp; done) | (simp; omega)))) ?_
        refine Tr.lenSl rfl rfl rfl Tryz.underlying51 ?_
        refine two (fun r hr k => Tr.gtr rfl rfl rfl rfl hr k) (fun hs4_30 => ?_) (fun hs4_30 => ?_)
        ·
          first | have hs4_3 := of_decide_eq_true hs4_30 | have hs4_3 := of_decide_eq_false hs4_30 | have hs4_3 := nd_t hs4_30 | have hs4_3 := nd_f hs4_30 | have hs4_3 := hs4_30
          refine Tr.move rfl rfl rfl ?_
          refine Tr.skp rfl rfl ?_
          refine Tr.skp rfl rfl ?_
          refine Tr.skp rfl rfl ?_
          refine Tr.skp rfl rfl ?_
          refine Tr.pick rfl rfl rfl rfl rfl rfl ?_
          refine Tr.move rfl rfl rfl ?_
          refine Tr.skp rfl rfl ?_
          refine Tr.skp rfl rfl ?_
          refine Tr.skp rfl rfl ?_
          refine Tr.skp rfl rfl ?_
          refine Tr.pick rfl rfl rfl rfl rfl rfl ?_
          refine Tr.move rfl rfl rfl ?_
          refine Tr.skp rfl rfl ?_
          refine Tr.skp rfl rfl ?_
          refine Tr.skp rfl rfl ?_
          refine Tr.skp rfl rfl ?_
          refine Tr.pick rfl rfl rfl rfl rfl rfl ?_
          refine Tr.move rfl rfl rfl ?_
          refine Tr.skp rfl rfl ?_
          refine Tr.skp rfl rfl ?_
          refine Tr.skp rfl rfl ?_
          refine Tr.skp rfl rfl ?_
          refine Tr.pick rfl rfl rfl rfl rfl rfl ?_
          refine Tr.move rfl rfl rfl ?_
          refine Tr.skp rfl rfl ?_
          refine Tr.skp rfl rfl ?_
          refine Tr.skp rfl rfl ?_
          refine Tr.skp rfl rfl ?_
          refine Tr.pick rfl rfl rfl rfl rfl rfl ?_
          refine Tr.nil ?_
          refine at_n ?_
          refine Sat.cond_t rfl rfl ?_
          refine Sat.seq ?_
          -- region 5
          refine Sat.region ?_
          refine Tr.assign rfl rfl rfl ?_
          refine Tr.nil ?_
          refine at_n ?_
          refine Sat.ret ?_
          refine at_r ?_
          refine en_r ?_
          refine ⟨_, [], res_tmp rfl rfl, (by simp), (by simp), ?_, rfl⟩
          first
            | exact congrArg i64 (msg_bad (by
                simp only [DMsg.bad, ← eK, ← eH, ← hu, ← hl.heads, ← hl.want, ← hl.blocks, ← hl.votes, ← hl.cuts, ← hl.certs]
                first
                  | exact .inl (‹_›)
                  | exact .inr (.inl (‹_›))
                  | exact .inr (.inr (.inl (‹_›)))
                  | exact .inr (.inr (.inr (.inl (‹_›))))
                  | exact .inr (.inr (.inr (.inr (.inl (‹_›)))))
                  | exact .inr (.inr (.inr (.inr (.inr (.inl (‹_›))))))
                  | exact .inr (.inr (.inr (.inr (.inr (.inr (.inl (‹_›)))))))
                  | exact .inr (.inr (.inr (.inr (.inr (.inr (.inr (.inl (‹_›))))))))
                  | exact .inr (.inr (.inr (.inr (.inr (.inr (.inr (.inr (.inl (‹_›)))))))))
                  | exact .inr (.inr (.inr (.inr (.inr (.inr (.inr (.inr (.inr (.inl (⟨‹_›, ‹_›, ‹_›⟩))))))))))
                  | exact .inr (.inr (.inr (.inr (.inr (.inr (.inr (.inr (.inr (.inl (⟨by omega, by omega, by omega⟩))))))))))
                  | exact .inr (.inr (.inr (.inr (.inr (.inr (.inr (.inr (.inr (.inr (.inl (‹_›)))))))))))
                  | exact .inr (.inr (.inr (.inr (.inr (.inr (.inr (.inr (.inr (.inr (.inr (.inl (‹_›))))))))))))
                  | exact .inr (.inr (.inr (.inr (.inr (.inr (.inr (.inr (.inr (.inr (.inr (.inr (.inl (‹_›)))))))))))))
                  | exact .inr (.inr (.inr (.inr (.inr (.inr (.inr (.inr (.inr (.inr (.inr (.inr (.inr (‹_›)))))))))))))
                  | exact .inr (.inr (.inr (.inr (.inr (.inr (.inr (.inr (.inr (.inr (.inl (fun e => Bool.noConfusion (hs8_2.symm.trans e))))))))))))
                  | exact .inr (.inr (.inr (.inr (.inr (.inr (.inr (.inr (.inr (.inr (.inr (.inl (fun e => Bool.noConfusion (hs8_7.symm.trans e)))))))))))))
                  | exact .inr (.inr (.inr (.inr (.inr (.inr (.inr (.inr (.inr (.inr (.inr (.inr (.inl (fun e => Bool.noConfusion (hs8_13.symm.trans e)))))))))))))))).symm
            | exact congrArg i64 (msg_good (by
                simp only [DMsg.bad, ← eK, ← eH, ← hu, ← hl.heads, ← hl.want, ← hl.blocks, ← hl.votes, ← hl.cuts, ← hl.certs]
                rintro (h | h | h | h | h | h | h | h | h | h | h | h | h | h)
                all_goals first | exact h ‹_› | omega | (simp_all; done))).symm
        ·
          first | have hs4_3 := of_decide_eq_true hs4_30 | have hs4_3 := of_decide_eq_false hs4_30 | have hs4_3 := nd_t hs4_30 | have hs4_3 := nd_f hs4_30 | have hs4_3 := hs4_30
          refine Tr.move rfl rfl rfl ?_
          refine Tr.fld rfl rfl rfl Tryz.underlying57 rfl Sz51 (by decide) _ rfl ?_
          refine Tr.load1 rfl rfl rfl Tryz.underlying51 rfl (by first | exact mem0 | exact mem1 | exact mem2 | exact mem3 | exact mem4 | exact mem5 | exact mem6 | exact mem7 | (repeat (first | exact List.mem_cons_self | refine List.mem_cons_of_mem _ ?_ | refine mem_seg ?_))) (by first | exact Msg.get_fWant (by first | assumption | (simp; done) | exact Block.zero_ok | exact Vote.zero_ok | exact Reader.zero_ok | exact Cut.zero_ok | exact Cert.zero_ok | exact Msg.zero_ok | exact Inbox.zero_ok | exact Record.zero_ok | exact Kept.zero_ok  | exact hok) | exact (by first | rfl | exact get_words (by first | omega | (simp; done) | (simp; omega)) | exact get_bytes (by first | omega | (simp; done) | (simp; omega)) | exact get_ints (by first | omega | (simp; done) | (simp; omega)))) ?_
          refine Tr.lenSl rfl rfl rfl Tryz.underlying51 ?_
          refine two (fun r hr k => Tr.gtr rfl rfl rfl rfl hr k) (fun hs4_80 => ?_) (fun hs4_80 => ?_)
          ·
            first | have hs4_8 := of_decide_eq_true hs4_80 | have hs4_8 := of_decide_eq_false hs4_80 | have hs4_8 := nd_t hs4_80 | have hs4_8 := nd_f hs4_80 | have hs4_8 := hs4_80
            refine Tr.pick rfl rfl rfl rfl rfl rfl ?_
            refine Tr.move rfl rfl rfl ?_
            refine Tr.skp rfl rfl ?_
            refine Tr.skp rfl rfl ?_
            refine Tr.skp rfl rfl ?_
            refine Tr.skp rfl rfl ?_
            refine Tr.pick rfl rfl rfl rfl rfl rfl ?_
            refine Tr.move rfl rfl rfl ?_
            refine Tr.skp rfl rfl ?_
            refine Tr.skp rfl rfl ?_
            refine Tr.skp rfl rfl ?_
            refine Tr.skp rfl rfl ?_
            refine Tr.pick rfl rfl rfl rfl rfl rfl ?_
            refine Tr.move rfl rfl rfl ?_
            refine Tr.skp rfl rfl ?_
            refine Tr.skp rfl rfl ?_
            refine Tr.skp rfl rfl ?_
            refine Tr.skp rfl rfl ?_
            refine Tr.pick rfl rfl rfl rfl rfl rfl ?_
            refine Tr.move rfl rfl rfl ?_
            refine Tr.skp rfl rfl ?_
            refine Tr.skp rfl rfl ?_
            refine Tr.skp rfl rfl ?_
            refine Tr.skp rfl rfl ?_
            refine Tr.pick rfl rfl rfl rfl rfl rfl ?_
            refine Tr.nil ?_
            refine at_n ?_
            refine Sat.cond_t rfl rfl ?_
            refine Sat.seq ?_
            -- region 5
            refine Sat.region ?_
            refine Tr.assign rfl rfl rfl ?_
            refine Tr.nil ?_
            refine at_n ?_
            refine Sat.ret ?_
            refine at_r ?_
            refine en_r ?_
            refine ⟨_, [], res_tmp rfl rfl, (by simp), (by simp), ?_, rfl⟩
            first
              | exact congrArg i64 (msg_bad (by
                  simp only [DMsg.bad, ← eK, ← eH, ← hu, ← hl.heads, ← hl.want, ← hl.blocks, ← hl.votes, ← hl.cuts, ← hl.certs]
                  first
                    | exact .inl (‹_›)
                    | exact .inr (.inl (‹_›))
                    | exact .inr (.inr (.inl (‹_›)))
                    | exact .inr (.inr (.inr (.inl (‹_›))))
                    | exact .inr (.inr (.inr (.inr (.inl (‹_›)))))
                    | exact .inr (.inr (.inr (.inr (.inr (.inl (‹_›))))))
                    | exact .inr (.inr (.inr (.inr (.inr (.inr (.inl (‹_›)))))))
                    | exact .inr (.inr (.inr (.inr (.inr (.inr (.inr (.inl (‹_›))))))))
                    | exact .inr (.inr (.inr (.inr (.inr (.inr (.inr (.inr (.inl (‹_›)))))))))
                    | exact .inr (.inr (.inr (.inr (.inr (.inr (.inr (.inr (.inr (.inl (⟨‹_›, ‹_›, ‹_›⟩))))))))))
                    | exact .inr (.inr (.inr (.inr (.inr (.inr (.inr (.inr (.inr (.inl (⟨by omega, by omega, by omega⟩))))))))))
                    | exact .inr (.inr (.inr (.inr (.inr (.inr (.inr (.inr (.inr (.inr (.inl (‹_›)))))))))))
                    | exact .inr (.inr (.inr (.inr (.inr (.inr (.inr (.inr (.inr (.inr (.inr (.inl (‹_›))))))))))))
                    | exact .inr (.inr (.inr (.inr (.inr (.inr (.inr (.inr (.inr (.inr (.inr (.inr (.inl (‹_›)))))))))))))
                    | exact .inr (.inr (.inr (.inr (.inr (.inr (.inr (.inr (.inr (.inr (.inr (.inr (.inr (‹_›)))))))))))))
                    | exact .inr (.inr (.inr (.inr (.inr (.inr (.inr (.inr (.inr (.inr (.inl (fun e => Bool.noConfusion (hs8_2.symm.trans e))))))))))))
                    | exact .inr (.inr (.inr (.inr (.inr (.inr (.inr (.inr (.inr (.inr (.inr (.inl (fun e => Bool.noConfusion (hs8_7.symm.trans e)))))))))))))
                    | exact .inr (.inr (.inr (.inr (.inr (.inr (.inr (.inr (.inr (.inr (.inr (.inr (.inl (fun e => Bool.noConfusion (hs8_13.symm.trans e)))))))))))))))).symm
              | exact congrArg i64 (msg_good (by
                  simp only [DMsg.bad, ← eK, ← eH, ← hu, ← hl.heads, ← hl.want, ← hl.blocks, ← hl.votes, ← hl.cuts, ← hl.certs]
                  rintro (h | h | h | h | h | h | h | h | h | h | h | h | h | h)
                  all_goals first | exact h ‹_› | omega | (simp_all; done))).symm
          ·
            first | have hs4_8 := of_decide_eq_true hs4_80 | have hs4_8 := of_decide_eq_false hs4_80 | have hs4_8 := nd_t hs4_80 | have hs4_8 := nd_f hs4_80 | have hs4_8 := hs4_80
            refine Tr.pick rfl rfl rfl rfl rfl rfl ?_
            refine Tr.move rfl rfl rfl ?_
            refine Tr.fld rfl rfl rfl Tryz.underlying57 rfl Sz22 (by decide) _ rfl ?_
            refine Tr.load1 rfl rfl rfl Tryz.underlying22 rfl (by first | exact mem0 | exact mem1 | exact mem2 | exact mem3 | exact mem4 | exact mem5 | exact mem6 | exact mem7 | (repeat (first | exact List.mem_cons_self | refine List.mem_cons_of_mem _ ?_ | refine mem_seg ?_))) (by first | exact Msg.get_fBlocks (by first | assumption | (simp; done) | exact Block.zero_ok | exact Vote.zero_ok | exact Reader.zero_ok | exact Cut.zero_ok | exact Cert.zero_ok | exact Msg.zero_ok | exact Inbox.zero_ok | exact Record.zero_ok | exact Kept.zero_ok  | exact hok) | exact (by first | rfl | exact get_words (by first | omega | (simp; done) | (simp; omega)) | exact get_bytes (by first | omega | (simp; done) | (simp; omega)) | exact get_ints (by first | omega | (simp; done) | (simp; omega)))) ?_
            refine Tr.lenSl rfl rfl rfl Tryz.underlying22 ?_
            refine two (fun r hr k => Tr.gtr rfl rfl rfl rfl hr k) (fun hs4_140 => ?_) (fun hs4_140 => ?_)
            ·
              first | have hs4_14 := of_decide_eq_true hs4_140 | have hs4_14 := of_decide_eq_false hs4_140 | have hs4_14 := nd_t hs4_140 | have hs4_14 := nd_f hs4_140 | have hs4_14 := hs4_140
              refine Tr.pick rfl rfl rfl rfl rfl rfl ?_
              refine Tr.move rfl rfl rfl ?_
              refine Tr.skp rfl rfl ?_
              refine Tr.skp rfl rfl ?_
              refine Tr.skp rfl rfl ?_
              refine Tr.skp rfl rfl ?_
              refine Tr.pick rfl rfl rfl rfl rfl rfl ?_
              refine Tr.move rfl rfl rfl ?_
              refine Tr.skp rfl rfl ?_
              refine Tr.skp rfl rfl ?_
              refine Tr.skp rfl rfl ?_
              refine Tr.skp rfl rfl ?_
              refine Tr.pick rfl rfl rfl rfl rfl rfl ?_
              refine Tr.move rfl rfl rfl ?_
              refine Tr.skp rfl rfl ?_
              refine Tr.skp rfl rfl ?_
              refine Tr.skp rfl rfl ?_
              refine Tr.skp rfl rfl ?_
              refine Tr.pick rfl rfl rfl rfl rfl rfl ?_
              refine Tr.nil ?_
              refine at_n ?_
              refine Sat.cond_t rfl rfl ?_
              refine Sat.seq ?_
              -- region 5
              refine Sat.region ?_
              refine Tr.assign rfl rfl rfl ?_
              refine Tr.nil ?_
              refine at_n ?_
              refine Sat.ret ?_
              refine at_r ?_
              refine en_r ?_
              refine ⟨_, [], res_tmp rfl rfl, (by simp), (by simp), ?_, rfl⟩
              first
                | exact congrArg i64 (msg_bad (by
                    simp only [DMsg.bad, ← eK, ← eH, ← hu, ← hl.heads, ← hl.want, ← hl.blocks, ← hl.votes, ← hl.cuts, ← hl.certs]
                    first
                      | exact .inl (‹_›)
                      | exact .inr (.inl (‹_›))
                      | exact .inr (.inr (.inl (‹_›)))
                      | exact .inr (.inr (.inr (.inl (‹_›))))
                      | exact .inr (.inr (.inr (.inr (.inl (‹_›)))))
                      | exact .inr (.inr (.inr (.inr (.inr (.inl (‹_›))))))
                      | exact .inr (.inr (.inr (.inr (.inr (.inr (.inl (‹_›)))))))
                      | exact .inr (.inr (.inr (.inr (.inr (.inr (.inr (.inl (‹_›))))))))
                      | exact .inr (.inr (.inr (.inr (.inr (.inr (.inr (.inr (.inl (‹_›)))))))))
                      | exact .inr (.inr (.inr (.inr (.inr (.inr (.inr (.inr (.inr (.inl (⟨‹_›, ‹_›, ‹_›⟩))))))))))
                      | exact .inr (.inr (.inr (.inr (.inr (.inr (.inr (.inr (.inr (.inl (⟨by omega, by omega, by omega⟩))))))))))
                      | exact .inr (.inr (.inr (.inr (.inr (.inr (.inr (.inr (.inr (.inr (.inl (‹_›)))))))))))
                      | exact .inr (.inr (.inr (.inr (.inr (.inr (.inr (.inr (.inr (.inr (.inr (.inl (‹_›))))))))))))
                      | exact .inr (.inr (.inr (.inr (.inr (.inr (.inr (.inr (.inr (.inr (.inr (.inr (.inl (‹_›)))))))))))))
                      | exact .inr (.inr (.inr (.inr (.inr (.inr (.inr (.inr (.inr (.inr (.inr (.inr (.inr (‹_›)))))))))))))
                      | exact .inr (.inr (.inr (.inr (.inr (.inr (.inr (.inr (.inr (.inr (.inl (fun e => Bool.noConfusion (hs8_2.symm.trans e))))))))))))
                      | exact .inr (.inr (.inr (.inr (.inr (.inr (.inr (.inr (.inr (.inr (.inr (.inl (fun e => Bool.noConfusion (hs8_7.symm.trans e)))))))))))))
                      | exact .inr (.inr (.inr (.inr (.inr (.inr (.inr (.inr (.inr (.inr (.inr (.inr (.inl (fun e => Bool.noConfusion (hs8_13.symm.trans e)))))))))))))))).symm
                | exact congrArg i64 (msg_good (by
                    simp only [DMsg.bad, ← eK, ← eH, ← hu, ← hl.heads, ← hl.want, ← hl.blocks, ← hl.votes, ← hl.cuts, ← hl.certs]
                    rintro (h | h | h | h | h | h | h | h | h | h | h | h | h | h)
                    all_goals first | exact h ‹_› | omega | (simp_all; done))).symm
            ·
              first | have hs4_14 := of_decide_eq_true hs4_140 | have hs4_14 := of_decide_eq_false hs4_140 | have hs4_14 := nd_t hs4_140 | have hs4_14 := nd_f hs4_140 | have hs4_14 := hs4_140
              refine Tr.pick rfl rfl rfl rfl rfl rfl ?_
              refine Tr.move rfl rfl rfl ?_
              refine Tr.fld rfl rfl rfl Tryz.underlying57 rfl Sz24 (by decide) _ rfl ?_
              refine Tr.load1 rfl rfl rfl Tryz.underlying24 rfl (by first | exact mem0 | exact mem1 | exact mem2 | exact mem3 | exact mem4 | exact mem5 | exact mem6 | exact mem7 | (repeat (first | exact List.mem_cons_self | refine List.mem_cons_of_mem _ ?_ | refine mem_seg ?_))) (by first | exact Msg.get_fVotes (by first | assumption | (simp; done) | exact Block.zero_ok | exact Vote.zero_ok | exact Reader.zero_ok | exact Cut.zero_ok | exact Cert.zero_ok | exact Msg.zero_ok | exact Inbox.zero_ok | exact Record.zero_ok | exact Kept.zero_ok  | exact hok) | exact (by first | rfl | exact get_words (by first | omega | (simp; done) | (simp; omega)) | exact get_bytes (by first | omega | (simp; done) | (simp; omega)) | exact get_ints (by first | omega | (simp; done) | (simp; omega)))) ?_
              refine Tr.lenSl rfl rfl rfl Tryz.underlying24 ?_
              refine two (fun r hr k => Tr.gtr rfl rfl rfl rfl hr k) (fun hs4_200 => ?_) (fun hs4_200 => ?_)
              ·
                first | have hs4_20 := of_decide_eq_true hs4_200 | have hs4_20 := of_decide_eq_false hs4_200 | have hs4_20 := nd_t hs4_200 | have hs4_20 := nd_f hs4_200 | have hs4_20 := hs4_200
                refine Tr.pick rfl rfl rfl rfl rfl rfl ?_
                refine Tr.move rfl rfl rfl ?_
                refine Tr.skp rfl rfl ?_
                refine Tr.skp rfl rfl ?_
                refine Tr.skp rfl rfl ?_
                refine Tr.skp rfl rfl ?_
                refine Tr.pick rfl rfl rfl rfl rfl rfl ?_
                refine Tr.move rfl rfl rfl ?_
                refine Tr.skp rfl rfl ?_
                refine Tr.skp rfl rfl ?_
                refine Tr.skp rfl rfl ?_
                refine Tr.skp rfl rfl ?_
                refine Tr.pick rfl rfl rfl rfl rfl rfl ?_
                refine Tr.nil ?_
                refine at_n ?_
                refine Sat.cond_t rfl rfl ?_
                refine Sat.seq ?_
                -- region 5
                refine Sat.region ?_
                refine Tr.assign rfl rfl rfl ?_
                refine Tr.nil ?_
                refine at_n ?_
                refine Sat.ret ?_
                refine at_r ?_
                refine en_r ?_
                refine ⟨_, [], res_tmp rfl rfl, (by simp), (by simp), ?_, rfl⟩
                first
                  | exact congrArg i64 (msg_bad (by
                      simp only [DMsg.bad, ← eK, ← eH, ← hu, ← hl.heads, ← hl.want, ← hl.blocks, ← hl.votes, ← hl.cuts, ← hl.certs]
                      first
                        | exact .inl (‹_›)
                        | exact .inr (.inl (‹_›))
                        | exact .inr (.inr (.inl (‹_›)))
                        | exact .inr (.inr (.inr (.inl (‹_›))))
                        | exact .inr (.inr (.inr (.inr (.inl (‹_›)))))
                        | exact .inr (.inr (.inr (.inr (.inr (.inl (‹_›))))))
                        | exact .inr (.inr (.inr (.inr (.inr (.inr (.inl (‹_›)))))))
                        | exact .inr (.inr (.inr (.inr (.inr (.inr (.inr (.inl (‹_›))))))))
                        | exact .inr (.inr (.inr (.inr (.inr (.inr (.inr (.inr (.inl (‹_›)))))))))
                        | exact .inr (.inr (.inr (.inr (.inr (.inr (.inr (.inr (.inr (.inl (⟨‹_›, ‹_›, ‹_›⟩))))))))))
                        | exact .inr (.inr (.inr (.inr (.inr (.inr (.inr (.inr (.inr (.inl (⟨by omega, by omega, by omega⟩))))))))))
                        | exact .inr (.inr (.inr (.inr (.inr (.inr (.inr (.inr (.inr (.inr (.inl (‹_›)))))))))))
                        | exact .inr (.inr (.inr (.inr (.inr (.inr (.inr (.inr (.inr (.inr (.inr (.inl (‹_›))))))))))))
                        | exact .inr (.inr (.inr (.inr (.inr (.inr (.inr (.inr (.inr (.inr (.inr (.inr (.inl (‹_›)))))))))))))
                        | exact .inr (.inr (.inr (.inr (.inr (.inr (.inr (.inr (.inr (.inr (.inr (.inr (.inr (‹_›)))))))))))))
                        | exact .inr (.inr (.inr (.inr (.inr (.inr (.inr (.inr (.inr (.inr (.inl (fun e => Bool.noConfusion (hs8_2.symm.trans e))))))))))))
                        | exact .inr (.inr (.inr (.inr (.inr (.inr (.inr (.inr (.inr (.inr (.inr (.inl (fun e => Bool.noConfusion (hs8_7.symm.trans e)))))))))))))
                        | exact .inr (.inr (.inr (.inr (.inr (.inr (.inr (.inr (.inr (.inr (.inr (.inr (.inl (fun e => Bool.noConfusion (hs8_13.symm.trans e)))))))))))))))).symm
                  | exact congrArg i64 (msg_good (by
                      simp only [DMsg.bad, ← eK, ← eH, ← hu, ← hl.heads, ← hl.want, ← hl.blocks, ← hl.votes, ← hl.cuts, ← hl.certs]
                      rintro (h | h | h | h | h | h | h | h | h | h | h | h | h | h)
                      all_goals first | exact h ‹_› | omega | (simp_all; done))).symm
              ·
                first | have hs4_20 := of_decide_eq_true hs4_200 | have hs4_20 := of_decide_eq_false hs4_200 | have hs4_20 := nd_t hs4_200 | have hs4_20 := nd_f hs4_200 | have hs4_20 := hs4_200
                refine Tr.pick rfl rfl rfl rfl rfl rfl ?_
                refine Tr.move rfl rfl rfl ?_
                refine Tr.fld rfl rfl rfl Tryz.underlying57 rfl Sz25 (by decide) _ rfl ?_
                refine Tr.load1 rfl rfl rfl Tryz.underlying25 rfl (by first | exact mem0 | exact mem1 | exact mem2 | exact mem3 | exact mem4 | exact mem5 | exact mem6 | exact mem7 | (repeat (first | exact List.mem_cons_self | refine List.mem_cons_of_mem _ ?_ | refine mem_seg ?_))) (by first | exact Msg.get_fCuts (by first | assumption | (simp; done) | exact Block.zero_ok | exact Vote.zero_ok | exact Reader.zero_ok | exact Cut.zero_ok | exact Cert.zero_ok | exact Msg.zero_ok | exact Inbox.zero_ok | exact Record.zero_ok | exact Kept.zero_ok  | exact hok) | exact (by first | rfl | exact get_words (by first | omega | (simp; done) | (simp; omega)) | exact get_bytes (by first | omega | (simp; done) | (simp; omega)) | exact get_ints (by first | omega | (simp; done) | (simp; omega)))) ?_
                refine Tr.lenSl rfl rfl rfl Tryz.underlying25 ?_
                refine two (fun r hr k => Tr.gtr rfl rfl rfl rfl hr k) (fun hs4_260 => ?_) (fun hs4_260 => ?_)
                ·
                  first | have hs4_26 := of_decide_eq_true hs4_260 | have hs4_26 := of_decide_eq_false hs4_260 | have hs4_26 := nd_t hs4_260 | have hs4_26 := nd_f hs4_260 | have hs4_26 := hs4_260
                  refine Tr.pick rfl rfl rfl rfl rfl rfl ?_
                  refine Tr.move rfl rfl rfl ?_
                  refine Tr.skp rfl rfl ?_
                  refine Tr.skp rfl rfl ?_
                  refine Tr.skp rfl rfl ?_
                  refine Tr.skp rfl rfl ?_
                  refine Tr.pick rfl rfl rfl rfl rfl rfl ?_
                  refine Tr.nil ?_
                  refine at_n ?_
                  refine Sat.cond_t rfl rfl ?_
                  refine Sat.seq ?_
                  -- region 5
                  refine Sat.region ?_
                  refine Tr.assign rfl rfl rfl ?_
                  refine Tr.nil ?_
                  refine at_n ?_
                  refine Sat.ret ?_
                  refine at_r ?_
                  refine en_r ?_
                  refine ⟨_, [], res_tmp rfl rfl, (by simp), (by simp), ?_, rfl⟩
                  first
                    | exact congrArg i64 (msg_bad (by
                        simp only [DMsg.bad, ← eK, ← eH, ← hu, ← hl.heads, ← hl.want, ← hl.blocks, ← hl.votes, ← hl.cuts, ← hl.certs]
                        first
                          | exact .inl (‹_›)
                          | exact .inr (.inl (‹_›))
                          | exact .inr (.inr (.inl (‹_›)))
                          | exact .inr (.inr (.inr (.inl (‹_›))))
                          | exact .inr (.inr (.inr (.inr (.inl (‹_›)))))
                          | exact .inr (.inr (.inr (.inr (.inr (.inl (‹_›))))))
                          | exact .inr (.inr (.inr (.inr (.inr (.inr (.inl (‹_›)))))))
                          | exact .inr (.inr (.inr (.inr (.inr (.inr (.inr (.inl (‹_›))))))))
                          | exact .inr (.inr (.inr (.inr (.inr (.inr (.inr (.inr (.inl (‹_›)))))))))
                          | exact .inr (.inr (.inr (.inr (.inr (.inr (.inr (.inr (.inr (.inl (⟨‹_›, ‹_›, ‹_›⟩))))))))))
                          | exact .inr (.inr (.inr (.inr (.inr (.inr (.inr (.inr (.inr (.inl (⟨by omega, by omega, by omega⟩))))))))))
                          | exact .inr (.inr (.inr (.inr (.inr (.inr (.inr (.inr (.inr (.inr (.inl (‹_›)))))))))))
                          | exact .inr (.inr (.inr (.inr (.inr (.inr (.inr (.inr (.inr (.inr (.inr (.inl (‹_›))))))))))))
                          | exact .inr (.inr (.inr (.inr (.inr (.inr (.inr (.inr (.inr (.inr (.inr (.inr (.inl (‹_›)))))))))))))
                          | exact .inr (.inr (.inr (.inr (.inr (.inr (.inr (.inr (.inr (.inr (.inr (.inr (.inr (‹_›)))))))))))))
                          | exact .inr (.inr (.inr (.inr (.inr (.inr (.inr (.inr (.inr (.inr (.inl (fun e => Bool.noConfusion (hs8_2.symm.trans e))))))))))))
                          | exact .inr (.inr (.inr (.inr (.inr (.inr (.inr (.inr (.inr (.inr (.inr (.inl (fun e => Bool.noConfusion (hs8_7.symm.trans e)))))))))))))
                          | exact .inr (.inr (.inr (.inr (.inr (.inr (.inr (.inr (.inr (.inr (.inr (.inr (.inl (fun e => Bool.noConfusion (hs8_13.symm.trans e)))))))))))))))).symm
                    | exact congrArg i64 (msg_good (by
                        simp only [DMsg.bad, ← eK, ← eH, ← hu, ← hl.heads, ← hl.want, ← hl.blocks, ← hl.votes, ← hl.cuts, ← hl.certs]
                        rintro (h | h | h | h | h | h | h | h | h | h | h | h | h | h)
                        all_goals first | exact h ‹_› | omega | (simp_all; done))).symm
                ·
                  first | have hs4_26 := of_decide_eq_true hs4_260 | have hs4_26 := of_decide_eq_false hs4_260 | have hs4_26 := nd_t hs4_260 | have hs4_26 := nd_f hs4_260 | have hs4_26 := hs4_260
                  refine Tr.pick rfl rfl rfl rfl rfl rfl ?_
                  refine Tr.move rfl rfl rfl ?_
                  refine Tr.fld rfl rfl rfl Tryz.underlying57 rfl Sz23 (by decide) _ rfl ?_
                  refine Tr.load1 rfl rfl rfl Tryz.underlying23 rfl (by first | exact mem0 | exact mem1 | exact mem2 | exact mem3 | exact mem4 | exact mem5 | exact mem6 | exact mem7 | (repeat (first | exact List.mem_cons_self | refine List.mem_cons_of_mem _ ?_ | refine mem_seg ?_))) (by first | exact Msg.get_fCerts (by first | assumption | (simp; done) | exact Block.zero_ok | exact Vote.zero_ok | exact Reader.zero_ok | exact Cut.zero_ok | exact Cert.zero_ok | exact Msg.zero_ok | exact Inbox.zero_ok | exact Record.zero_ok | exact Kept.zero_ok  | exact hok) | exact (by first | rfl | exact get_words (by first | omega | (simp; done) | (simp; omega)) | exact get_bytes (by first | omega | (simp; done) | (simp; omega)) | exact get_ints (by first | omega | (simp; done) | (simp; omega)))) ?_
                  refine Tr.lenSl rfl rfl rfl Tryz.underlying23 ?_
                  refine Tr.gtr rfl rfl rfl rfl rfl ?_
                  refine Tr.pick rfl rfl rfl rfl rfl rfl ?_
                  refine Tr.nil ?_
                  refine at_n ?_
                  first
                    | refine Sat.condP rfl (fun hc1 => ?_) (fun hc1 => ?_)
                    | refine Sat.condNP rfl (fun hc1 => ?_) (fun hc1 => ?_)
                    | refine Sat.cond rfl (fun hc1 => ?_) (fun hc1 => ?_)
                  ·
                    refine Sat.seq ?_
                    -- region 5
                    refine Sat.region ?_
                    refine Tr.assign rfl rfl rfl ?_
                    refine Tr.nil ?_
                    refine at_n ?_
                    refine Sat.ret ?_
                    refine at_r ?_
                    refine en_r ?_
                    refine ⟨_, [], res_tmp rfl rfl, (by simp), (by simp), ?_, rfl⟩
                    first
                      | exact congrArg i64 (msg_bad (by
                          simp only [DMsg.bad, ← eK, ← eH, ← hu, ← hl.heads, ← hl.want, ← hl.blocks, ← hl.votes, ← hl.cuts, ← hl.certs]
                          first
                            | exact .inl (‹_›)
                            | exact .inr (.inl (‹_›))
                            | exact .inr (.inr (.inl (‹_›)))
                            | exact .inr (.inr (.inr (.inl (‹_›))))
                            | exact .inr (.inr (.inr (.inr (.inl (‹_›)))))
                            | exact .inr (.inr (.inr (.inr (.inr (.inl (‹_›))))))
                            | exact .inr (.inr (.inr (.inr (.inr (.inr (.inl (‹_›)))))))
                            | exact .inr (.inr (.inr (.inr (.inr (.inr (.inr (.inl (‹_›))))))))
                            | exact .inr (.inr (.inr (.inr (.inr (.inr (.inr (.inr (.inl (‹_›)))))))))
                            | exact .inr (.inr (.inr (.inr (.inr (.inr (.inr (.inr (.inr (.inl (⟨‹_›, ‹_›, ‹_›⟩))))))))))
                            | exact .inr (.inr (.inr (.inr (.inr (.inr (.inr (.inr (.inr (.inl (⟨by omega, by omega, by omega⟩))))))))))
                            | exact .inr (.inr (.inr (.inr (.inr (.inr (.inr (.inr (.inr (.inr (.inl (‹_›)))))))))))
                            | exact .inr (.inr (.inr (.inr (.inr (.inr (.inr (.inr (.inr (.inr (.inr (.inl (‹_›))))))))))))
                            | exact .inr (.inr (.inr (.inr (.inr (.inr (.inr (.inr (.inr (.inr (.inr (.inr (.inl (‹_›)))))))))))))
                            | exact .inr (.inr (.inr (.inr (.inr (.inr (.inr (.inr (.inr (.inr (.inr (.inr (.inr (‹_›)))))))))))))
                            | exact .inr (.inr (.inr (.inr (.inr (.inr (.inr (.inr (.inr (.inr (.inl (fun e => Bool.noConfusion (hs8_2.symm.trans e))))))))))))
                            | exact .inr (.inr (.inr (.inr (.inr (.inr (.inr (.inr (.inr (.inr (.inr (.inl (fun e => Bool.noConfusion (hs8_7.symm.trans e)))))))))))))
                            | exact .inr (.inr (.inr (.inr (.inr (.inr (.inr (.inr (.inr (.inr (.inr (.inr (.inl (fun e => Bool.noConfusion (hs8_13.symm.trans e)))))))))))))))).symm
                      | exact congrArg i64 (msg_good (by
                          simp only [DMsg.bad, ← eK, ← eH, ← hu, ← hl.heads, ← hl.want, ← hl.blocks, ← hl.votes, ← hl.cuts, ← hl.certs]
                          rintro (h | h | h | h | h | h | h | h | h | h | h | h | h | h)
                          all_goals first | exact h ‹_› | omega | (simp_all; done))).symm
                  ·
                    refine Sat.skip ?_
                    refine at_n ?_
                    refine Sat.seq ?_
                    refine Sat.seq ?_
                    -- region 6
                    refine Sat.region ?_
                    refine Tr.fld rfl rfl rfl Tryz.underlying57 rfl Sz3 (by decide) _ rfl ?_
                    refine Tr.load1 rfl rfl rfl Tryz.underlying3 rfl (by first | exact mem0 | exact mem1 | exact mem2 | exact mem3 | exact mem4 | exact mem5 | exact mem6 | exact mem7 | (repeat (first | exact List.mem_cons_self | refine List.mem_cons_of_mem _ ?_ | refine mem_seg ?_))) (by first | exact Msg.get_fKind (by first | assumption | (simp; done) | exact Block.zero_ok | exact Vote.zero_ok | exact Reader.zero_ok | exact Cut.zero_ok | exact Cert.zero_ok | exact Msg.zero_ok | exact Inbox.zero_ok | exact Record.zero_ok | exact Kept.zero_ok  | exact hok) | exact (by first | rfl | exact get_words (by first | omega | (simp; done) | (simp; omega)) | exact get_bytes (by first | omega | (simp; done) | (simp; omega)) | exact get_ints (by first | omega | (simp; done) | (simp; omega)))) ?_
                    refine two (fun r hr k => Tr.nei rfl rfl rfl rfl hr k) (fun hs6_20 => ?_) (fun hs6_20 => ?_)
                    ·
                      first | have hs6_2 := of_decide_eq_true hs6_20 | have hs6_2 := of_decide_eq_false hs6_20 | have hs6_2 := nd_t hs6_20 | have hs6_2 := nd_f hs6_20 | have hs6_2 := hs6_20
                      refine Tr.move rfl rfl rfl ?_
                      refine Tr.fld rfl rfl rfl Tryz.underlying57 rfl Sz3 (by decide) _ rfl ?_
                      refine Tr.load1 rfl rfl rfl Tryz.underlying3 rfl (by first | exact mem0 | exact mem1 | exact mem2 | exact mem3 | exact mem4 | exact mem5 | exact mem6 | exact mem7 | (repeat (first | exact List.mem_cons_self | refine List.mem_cons_of_mem _ ?_ | refine mem_seg ?_))) (by first | exact Msg.get_fKind (by first | assumption | (simp; done) | exact Block.zero_ok | exact Vote.zero_ok | exact Reader.zero_ok | exact Cut.zero_ok | exact Cert.zero_ok | exact Msg.zero_ok | exact Inbox.zero_ok | exact Record.zero_ok | exact Kept.zero_ok  | exact hok) | exact (by first | rfl | exact get_words (by first | omega | (simp; done) | (simp; omega)) | exact get_bytes (by first | omega | (simp; done) | (simp; omega)) | exact get_ints (by first | omega | (simp; done) | (simp; omega)))) ?_
                      refine two (fun r hr k => Tr.nei rfl rfl rfl rfl hr k) (fun hs6_60 => ?_) (fun hs6_60 => ?_)
                      ·
                        first | have hs6_6 := of_decide_eq_true hs6_60 | have hs6_6 := of_decide_eq_false hs6_60 | have hs6_6 := nd_t hs6_60 | have hs6_6 := nd_f hs6_60 | have hs6_6 := hs6_60
                        refine Tr.pick rfl rfl rfl rfl rfl rfl ?_
                        refine Tr.move rfl rfl rfl ?_
                        refine Tr.loadAll rfl rfl rfl Tryz.underlying57 rfl Sz57 (by first | exact mem0 | exact mem1 | exact mem2 | exact mem3 | exact mem4 | exact mem5 | exact mem6 | exact mem7 | (repeat (first | exact List.mem_cons_self | refine List.mem_cons_of_mem _ ?_ | refine mem_seg ?_))) (Msg.length (by first | assumption | (simp; done) | exact Block.zero_ok | exact Vote.zero_ok | exact Reader.zero_ok | exact Cut.zero_ok | exact Cert.zero_ok | exact Msg.zero_ok | exact Inbox.zero_ok | exact Record.zero_ok | exact Kept.zero_ok  | exact hok)) ?_
                        refine Tr.callV rfl rfl rfl rfl Body130 (sync_used m hok) (fun _ _ => trivial) ?_
                        refine Tr.eqi rfl rfl rfl rfl rfl ?_
                        refine Tr.pick rfl rfl rfl rfl rfl rfl ?_
                        refine Tr.nil ?_
                        refine at_n ?_
                        first
                          | refine Sat.condP rfl (fun hc2 => ?_) (fun hc2 => ?_)
                          | refine Sat.condNP rfl (fun hc2 => ?_) (fun hc2 => ?_)
                          | refine Sat.cond rfl (fun hc2 => ?_) (fun hc2 => ?_)
                        ·
                          refine Sat.seq ?_
                          -- region 7
                          refine Sat.region ?_
                          refine Tr.assign rfl rfl rfl ?_
                          refine Tr.nil ?_
                          refine at_n ?_
                          refine Sat.ret ?_
                          refine at_r ?_
                          refine en_r ?_
                          refine ⟨_, [], res_tmp rfl rfl, (by simp), (by simp), ?_, rfl⟩
                          first
                            | exact congrArg i64 (msg_bad (by
                                simp only [DMsg.bad, ← eK, ← eH, ← hu, ← hl.heads, ← hl.want, ← hl.blocks, ← hl.votes, ← hl.cuts, ← hl.certs]
                                first
                                  | exact .inl (‹_›)
                                  | exact .inr (.inl (‹_›))
                                  | exact .inr (.inr (.inl (‹_›)))
                                  | exact .inr (.inr (.inr (.inl (‹_›))))
                                  | exact .inr (.inr (.inr (.inr (.inl (‹_›)))))
                                  | exact .inr (.inr (.inr (.inr (.inr (.inl (‹_›))))))
                                  | exact .inr (.inr (.inr (.inr (.inr (.inr (.inl (‹_›)))))))
                                  | exact .inr (.inr (.inr (.inr (.inr (.inr (.inr (.inl (‹_›))))))))
                                  | exact .inr (.inr (.inr (.inr (.inr (.inr (.inr (.inr (.inl (‹_›)))))))))
                                  | exact .inr (.inr (.inr (.inr (.inr (.inr (.inr (.inr (.inr (.inl (⟨‹_›, ‹_›, ‹_›⟩))))))))))
                                  | exact .inr (.inr (.inr (.inr (.inr (.inr (.inr (.inr (.inr (.inl (⟨by omega, by omega, by omega⟩))))))))))
                                  | exact .inr (.inr (.inr (.inr (.inr (.inr (.inr (.inr (.inr (.inr (.inl (‹_›)))))))))))
                                  | exact .inr (.inr (.inr (.inr (.inr (.inr (.inr (.inr (.inr (.inr (.inr (.inl (‹_›))))))))))))
                                  | exact .inr (.inr (.inr (.inr (.inr (.inr (.inr (.inr (.inr (.inr (.inr (.inr (.inl (‹_›)))))))))))))
                                  | exact .inr (.inr (.inr (.inr (.inr (.inr (.inr (.inr (.inr (.inr (.inr (.inr (.inr (‹_›)))))))))))))
                                  | exact .inr (.inr (.inr (.inr (.inr (.inr (.inr (.inr (.inr (.inr (.inl (fun e => Bool.noConfusion (hs8_2.symm.trans e))))))))))))
                                  | exact .inr (.inr (.inr (.inr (.inr (.inr (.inr (.inr (.inr (.inr (.inr (.inl (fun e => Bool.noConfusion (hs8_7.symm.trans e)))))))))))))
                                  | exact .inr (.inr (.inr (.inr (.inr (.inr (.inr (.inr (.inr (.inr (.inr (.inr (.inl (fun e => Bool.noConfusion (hs8_13.symm.trans e)))))))))))))))).symm
                            | exact congrArg i64 (msg_good (by
                                simp only [DMsg.bad, ← eK, ← eH, ← hu, ← hl.heads, ← hl.want, ← hl.blocks, ← hl.votes, ← hl.cuts, ← hl.certs]
                                rintro (h | h | h | h | h | h | h | h | h | h | h | h | h | h)
                                all_goals first | exact h ‹_› | omega | (simp_all; done))).symm
                        ·
                          refine Sat.skip ?_
                          refine at_n ?_
                          refine Sat.seq ?_
                          refine Sat.seq ?_
                          -- region 8
                          refine Sat.region ?_
                          refine Tr.fld rfl rfl rfl Tryz.underlying57 rfl Sz22 (by decide) _ rfl ?_
                          refine Tr.load1 rfl rfl rfl Tryz.underlying22 rfl (by first | exact mem0 | exact mem1 | exact mem2 | exact mem3 | exact mem4 | exact mem5 | exact mem6 | exact mem7 | (repeat (first | exact List.mem_cons_self | refine List.mem_cons_of_mem _ ?_ | refine mem_seg ?_))) (by first | exact Msg.get_fBlocks (by first | assumption | (simp; done) | exact Block.zero_ok | exact Vote.zero_ok | exact Reader.zero_ok | exact Cut.zero_ok | exact Cert.zero_ok | exact Msg.zero_ok | exact Inbox.zero_ok | exact Record.zero_ok | exact Kept.zero_ok  | exact hok) | exact (by first | rfl | exact get_words (by first | omega | (simp; done) | (simp; omega)) | exact get_bytes (by first | omega | (simp; done) | (simp; omega)) | exact get_ints (by first | omega | (simp; done) | (simp; omega)))) ?_
                          refine Tr.callB rfl rfl rfl rfl Body131 (all_block m.fBlocks D.dBlocks) (fun w h => Blocks_ext h rfl hW.fBlocks) (fun hs8_20 => ?_) (fun hs8_20 => ?_)
                          ·
                            first | have hs8_2 := of_decide_eq_true hs8_20 | have hs8_2 := of_decide_eq_false hs8_20 | have hs8_2 := nd_t hs8_20 | have hs8_2 := nd_f hs8_20 | have hs8_2 := hs8_20
                            refine Tr.not rfl rfl rfl ?_
                            refine Tr.move rfl rfl rfl ?_
                            refine Tr.fld rfl rfl rfl Tryz.underlying57 rfl Sz24 (by decide) _ rfl ?_
                            refine Tr.load1 rfl rfl rfl Tryz.underlying24 rfl (by first | exact mem0 | exact mem1 | exact mem2 | exact mem3 | exact mem4 | exact mem5 | exact mem6 | exact mem7 | (repeat (first | exact List.mem_cons_self | refine List.mem_cons_of_mem _ ?_ | refine mem_seg ?_))) (by first | exact Msg.get_fVotes (by first | assumption | (simp; done) | exact Block.zero_ok | exact Vote.zero_ok | exact Reader.zero_ok | exact Cut.zero_ok | exact Cert.zero_ok | exact Msg.zero_ok | exact Inbox.zero_ok | exact Record.zero_ok | exact Kept.zero_ok  | exact hok) | exact (by first | rfl | exact get_words (by first | omega | (simp; done) | (simp; omega)) | exact get_bytes (by first | omega | (simp; done) | (simp; omega)) | exact get_ints (by first | omega | (simp; done) | (simp; omega)))) ?_
                            refine Tr.callB rfl rfl rfl rfl Body132 (all_vote m.fVotes D.dVotes) (fun w h => Votes_ext h rfl hW.fVotes) (fun hs8_70 => ?_) (fun hs8_70 => ?_)
                            ·
                              first | have hs8_7 := of_decide_eq_true hs8_70 | have hs8_7 := of_decide_eq_false hs8_70 | have hs8_7 := nd_t hs8_70 | have hs8_7 := nd_f hs8_70 | have hs8_7 := hs8_70
                              refine Tr.not rfl rfl rfl ?_
                              refine Tr.pick rfl rfl rfl rfl rfl rfl ?_
                              refine Tr.move rfl rfl rfl ?_
                              refine Tr.fld rfl rfl rfl Tryz.underlying57 rfl Sz25 (by decide) _ rfl ?_
                              refine Tr.load1 rfl rfl rfl Tryz.underlying25 rfl (by first | exact mem0 | exact mem1 | exact mem2 | exact mem3 | exact mem4 | exact mem5 | exact mem6 | exact mem7 | (repeat (first | exact List.mem_cons_self | refine List.mem_cons_of_mem _ ?_ | refine mem_seg ?_))) (by first | exact Msg.get_fCuts (by first | assumption | (simp; done) | exact Block.zero_ok | exact Vote.zero_ok | exact Reader.zero_ok | exact Cut.zero_ok | exact Cert.zero_ok | exact Msg.zero_ok | exact Inbox.zero_ok | exact Record.zero_ok | exact Kept.zero_ok  | exact hok) | exact (by first | rfl | exact get_words (by first | omega | (simp; done) | (simp; omega)) | exact get_bytes (by first | omega | (simp; done) | (simp; omega)) | exact get_ints (by first | omega | (simp; done) | (simp; omega)))) ?_
                              refine Tr.callB rfl rfl rfl rfl Body133 (all_cut m.fCuts D.dCuts) (fun w h => Cuts_ext h rfl hW.fCuts) (fun hs8_130 => ?_) (fun hs8_130 => ?_)
                              ·
                                first | have hs8_13 := of_decide_eq_true hs8_130 | have hs8_13 := of_decide_eq_false hs8_130 | have hs8_13 := nd_t hs8_130 | have hs8_13 := nd_f hs8_130 | have hs8_13 := hs8_130
                                refine Tr.not rfl rfl rfl ?_
                                refine Tr.pick rfl rfl rfl rfl rfl rfl ?_
                                refine Tr.move rfl rfl rfl ?_
                                refine Tr.fld rfl rfl rfl Tryz.underlying57 rfl Sz23 (by decide) _ rfl ?_
                                refine Tr.load1 rfl rfl rfl Tryz.underlying23 rfl (by first | exact mem0 | exact mem1 | exact mem2 | exact mem3 | exact mem4 | exact mem5 | exact mem6 | exact mem7 | (repeat (first | exact List.mem_cons_self | refine List.mem_cons_of_mem _ ?_ | refine mem_seg ?_))) (by first | exact Msg.get_fCerts (by first | assumption | (simp; done) | exact Block.zero_ok | exact Vote.zero_ok | exact Reader.zero_ok | exact Cut.zero_ok | exact Cert.zero_ok | exact Msg.zero_ok | exact Inbox.zero_ok | exact Record.zero_ok | exact Kept.zero_ok  | exact hok) | exact (by first | rfl | exact get_words (by first | omega | (simp; done) | (simp; omega)) | exact get_bytes (by first | omega | (simp; done) | (simp; omega)) | exact get_ints (by first | omega | (simp; done) | (simp; omega)))) ?_
                                refine Tr.callV rfl rfl rfl rfl Body134 (all_cert m.fCerts D.dCerts) (fun w h => Certs_ext h rfl hW.fCerts) ?_
                                refine Tr.not rfl rfl rfl ?_
                                refine Tr.pick rfl rfl rfl rfl rfl rfl ?_
                                refine Tr.nil ?_
                                refine at_n ?_
                                first
                                  | refine Sat.condP rfl (fun hc3 => ?_) (fun hc3 => ?_)
                                  | refine Sat.condNP rfl (fun hc3 => ?_) (fun hc3 => ?_)
                                  | refine Sat.cond rfl (fun hc3 => ?_) (fun hc3 => ?_)
                                ·
                                  have hx3 : ¬ (D.dCerts.all fun d => decide (d.check = 0)) = true := fun e => by rw [e] at hc3; cases hc3
                                  refine Sat.seq ?_
                                  -- region 9
                                  refine Sat.region ?_
                                  refine Tr.assign rfl rfl rfl ?_
                                  refine Tr.nil ?_
                                  refine at_n ?_
                                  refine Sat.ret ?_
                                  refine at_r ?_
                                  refine en_r ?_
                                  refine ⟨_, [], res_tmp rfl rfl, (by simp), (by simp), ?_, rfl⟩
                                  first
                                    | exact congrArg i64 (msg_bad (by
                                        simp only [DMsg.bad, ← eK, ← eH, ← hu, ← hl.heads, ← hl.want, ← hl.blocks, ← hl.votes, ← hl.cuts, ← hl.certs]
                                        first
                                          | exact .inl (‹_›)
                                          | exact .inr (.inl (‹_›))
                                          | exact .inr (.inr (.inl (‹_›)))
                                          | exact .inr (.inr (.inr (.inl (‹_›))))
                                          | exact .inr (.inr (.inr (.inr (.inl (‹_›)))))
                                          | exact .inr (.inr (.inr (.inr (.inr (.inl (‹_›))))))
                                          | exact .inr (.inr (.inr (.inr (.inr (.inr (.inl (‹_›)))))))
                                          | exact .inr (.inr (.inr (.inr (.inr (.inr (.inr (.inl (‹_›))))))))
                                          | exact .inr (.inr (.inr (.inr (.inr (.inr (.inr (.inr (.inl (‹_›)))))))))
                                          | exact .inr (.inr (.inr (.inr (.inr (.inr (.inr (.inr (.inr (.inl (⟨‹_›, ‹_›, ‹_›⟩))))))))))
                                          | exact .inr (.inr (.inr (.inr (.inr (.inr (.inr (.inr (.inr (.inl (⟨by omega, by omega, by omega⟩))))))))))
                                          | exact .inr (.inr (.inr (.inr (.inr (.inr (.inr (.inr (.inr (.inr (.inl (‹_›)))))))))))
                                          | exact .inr (.inr (.inr (.inr (.inr (.inr (.inr (.inr (.inr (.inr (.inr (.inl (‹_›))))))))))))
                                          | exact .inr (.inr (.inr (.inr (.inr (.inr (.inr (.inr (.inr (.inr (.inr (.inr (.inl (‹_›)))))))))))))
                                          | exact .inr (.inr (.inr (.inr (.inr (.inr (.inr (.inr (.inr (.inr (.inr (.inr (.inr (‹_›)))))))))))))
                                          | exact .inr (.inr (.inr (.inr (.inr (.inr (.inr (.inr (.inr (.inr (.inl (fun e => Bool.noConfusion (hs8_2.symm.trans e))))))))))))
                                          | exact .inr (.inr (.inr (.inr (.inr (.inr (.inr (.inr (.inr (.inr (.inr (.inl (fun e => Bool.noConfusion (hs8_7.symm.trans e)))))))))))))
                                          | exact .inr (.inr (.inr (.inr (.inr (.inr (.inr (.inr (.inr (.inr (.inr (.inr (.inl (fun e => Bool.noConfusion (hs8_13.symm.trans e)))))))))))))))).symm
                                    | exact congrArg i64 (msg_good (by
                                        simp only [DMsg.bad, ← eK, ← eH, ← hu, ← hl.heads, ← hl.want, ← hl.blocks, ← hl.votes, ← hl.cuts, ← hl.certs]
                                        rintro (h | h | h | h | h | h | h | h | h | h | h | h | h | h)
                                        all_goals first | exact h ‹_› | omega | (simp_all; done))).symm
                                ·
                                  have hx4 : (D.dCerts.all fun d => decide (d.check = 0)) = true := by
                                    cases e : (D.dCerts.all fun d => decide (d.check = 0))
                                    · rw [e] at hc3; cases hc3
                                    · rfl
                                  refine Sat.skip ?_
                                  refine at_n ?_
                                  refine Sat.seq ?_
                                  -- region 10
                                  refine Sat.region ?_
                                  refine Tr.assign rfl rfl rfl ?_
                                  refine Tr.nil ?_
                                  refine at_n ?_
                                  refine Sat.ret ?_
                                  refine en_r ?_
                                  refine ⟨_, [], res_tmp rfl rfl, (by simp), (by simp), ?_, rfl⟩
                                  first
                                    | exact congrArg i64 (msg_bad (by
                                        simp only [DMsg.bad, ← eK, ← eH, ← hu, ← hl.heads, ← hl.want, ← hl.blocks, ← hl.votes, ← hl.cuts, ← hl.certs]
                                        first
                                          | exact .inl (‹_›)
                                          | exact .inr (.inl (‹_›))
                                          | exact .inr (.inr (.inl (‹_›)))
                                          | exact .inr (.inr (.inr (.inl (‹_›))))
                                          | exact .inr (.inr (.inr (.inr (.inl (‹_›)))))
                                          | exact .inr (.inr (.inr (.inr (.inr (.inl (‹_›))))))
                                          | exact .inr (.inr (.inr (.inr (.inr (.inr (.inl (‹_›)))))))
                                          | exact .inr (.inr (.inr (.inr (.inr (.inr (.inr (.inl (‹_›))))))))
                                          | exact .inr (.inr (.inr (.inr (.inr (.inr (.inr (.inr (.inl (‹_›)))))))))
                                          | exact .inr (.inr (.inr (.inr (.inr (.inr (.inr (.inr (.inr (.inl (⟨‹_›, ‹_›, ‹_›⟩))))))))))
                                          | exact .inr (.inr (.inr (.inr (.inr (.inr (.inr (.inr (.inr (.inl (⟨by omega, by omega, by omega⟩))))))))))
                                          | exact .inr (.inr (.inr (.inr (.inr (.inr (.inr (.inr (.inr (.inr (.inl (‹_›)))))))))))
                                          | exact .inr (.inr (.inr (.inr (.inr (.inr (.inr (.inr (.inr (.inr (.inr (.inl (‹_›))))))))))))
                                          | exact .inr (.inr (.inr (.inr (.inr (.inr (.inr (.inr (.inr (.inr (.inr (.inr (.inl (‹_›)))))))))))))
                                          | exact .inr (.inr (.inr (.inr (.inr (.inr (.inr (.inr (.inr (.inr (.inr (.inr (.inr (‹_›)))))))))))))
                                          | exact .inr (.inr (.inr (.inr (.inr (.inr (.inr (.inr (.inr (.inr (.inl (fun e => Bool.noConfusion (hs8_2.symm.trans e))))))))))))
                                          | exact .inr (.inr (.inr (.inr (.inr (.inr (.inr (.inr (.inr (.inr (.inr (.inl (fun e => Bool.noConfusion (hs8_7.symm.trans e)))))))))))))
                                          | exact .inr (.inr (.inr (.inr (.inr (.inr (.inr (.inr (.inr (.inr (.inr (.inr (.inl (fun e => Bool.noConfusion (hs8_13.symm.trans e)))))))))))))))).symm
                                    | exact congrArg i64 (msg_good (by
                                        simp only [DMsg.bad, ← eK, ← eH, ← hu, ← hl.heads, ← hl.want, ← hl.blocks, ← hl.votes, ← hl.cuts, ← hl.certs]
                                        rintro (h | h | h | h | h | h | h | h | h | h | h | h | h | h)
                                        all_goals first | exact h ‹_› | omega | (simp_all; done))).symm
                              ·
                                first | have hs8_13 := of_decide_eq_true hs8_130 | have hs8_13 := of_decide_eq_false hs8_130 | have hs8_13 := nd_t hs8_130 | have hs8_13 := nd_f hs8_130 | have hs8_13 := hs8_130
                                refine Tr.not rfl rfl rfl ?_
                                refine Tr.pick rfl rfl rfl rfl rfl rfl ?_
                                refine Tr.move rfl rfl rfl ?_
                                refine Tr.skp rfl rfl ?_
                                refine Tr.skp rfl rfl ?_
                                refine Tr.skp rfl rfl ?_
                                refine Tr.skp rfl rfl ?_
                                refine Tr.pick rfl rfl rfl rfl rfl rfl ?_
                                refine Tr.nil ?_
                                refine at_n ?_
                                refine Sat.cond_t rfl rfl ?_
                                refine Sat.seq ?_
                                -- region 9
                                refine Sat.region ?_
                                refine Tr.assign rfl rfl rfl ?_
                                refine Tr.nil ?_
                                refine at_n ?_
                                refine Sat.ret ?_
                                refine at_r ?_
                                refine en_r ?_
                                refine ⟨_, [], res_tmp rfl rfl, (by simp), (by simp), ?_, rfl⟩
                                first
                                  | exact congrArg i64 (msg_bad (by
                                      simp only [DMsg.bad, ← eK, ← eH, ← hu, ← hl.heads, ← hl.want, ← hl.blocks, ← hl.votes, ← hl.cuts, ← hl.certs]
                                      first
                                        | exact .inl (‹_›)
                                        | exact .inr (.inl (‹_›))
                                        | exact .inr (.inr (.inl (‹_›)))
                                        | exact .inr (.inr (.inr (.inl (‹_›))))
                                        | exact .inr (.inr (.inr (.inr (.inl (‹_›)))))
                                        | exact .inr (.inr (.inr (.inr (.inr (.inl (‹_›))))))
                                        | exact .inr (.inr (.inr (.inr (.inr (.inr (.inl (‹_›)))))))
                                        | exact .inr (.inr (.inr (.inr (.inr (.inr (.inr (.inl (‹_›))))))))
                                        | exact .inr (.inr (.inr (.inr (.inr (.inr (.inr (.inr (.inl (‹_›)))))))))
                                        | exact .inr (.inr (.inr (.inr (.inr (.inr (.inr (.inr (.inr (.inl (⟨‹_›, ‹_›, ‹_›⟩))))))))))
                                        | exact .inr (.inr (.inr (.inr (.inr (.inr (.inr (.inr (.inr (.inl (⟨by omega, by omega, by omega⟩))))))))))
                                        | exact .inr (.inr (.inr (.inr (.inr (.inr (.inr (.inr (.inr (.inr (.inl (‹_›)))))))))))
                                        | exact .inr (.inr (.inr (.inr (.inr (.inr (.inr (.inr (.inr (.inr (.inr (.inl (‹_›))))))))))))
                                        | exact .inr (.inr (.inr (.inr (.inr (.inr (.inr (.inr (.inr (.inr (.inr (.inr (.inl (‹_›)))))))))))))
                                        | exact .inr (.inr (.inr (.inr (.inr (.inr (.inr (.inr (.inr (.inr (.inr (.inr (.inr (‹_›)))))))))))))
                                        | exact .inr (.inr (.inr (.inr (.inr (.inr (.inr (.inr (.inr (.inr (.inl (fun e => Bool.noConfusion (hs8_2.symm.trans e))))))))))))
                                        | exact .inr (.inr (.inr (.inr (.inr (.inr (.inr (.inr (.inr (.inr (.inr (.inl (fun e => Bool.noConfusion (hs8_7.symm.trans e)))))))))))))
                                        | exact .inr (.inr (.inr (.inr (.inr (.inr (.inr (.inr (.inr (.inr (.inr (.inr (.inl (fun e => Bool.noConfusion (hs8_13.symm.trans e)))))))))))))))).symm
                                  | exact congrArg i64 (msg_good (by
                                      simp only [DMsg.bad, ← eK, ← eH, ← hu, ← hl.heads, ← hl.want, ← hl.blocks, ← hl.votes, ← hl.cuts, ← hl.certs]
                                      rintro (h | h | h | h | h | h | h | h | h | h | h | h | h | h)
                                      all_goals first | exact h ‹_› | omega | (simp_all; done))).symm
                            ·
                              first | have hs8_7 := of_decide_eq_true hs8_70 | have hs8_7 := of_decide_eq_false hs8_70 | have hs8_7 := nd_t hs8_70 | have hs8_7 := nd_f hs8_70 | have hs8_7 := hs8_70
                              refine Tr.not rfl rfl rfl ?_
                              refine Tr.pick rfl rfl rfl rfl rfl rfl ?_
                              refine Tr.move rfl rfl rfl ?_
                              refine Tr.skp rfl rfl ?_
                              refine Tr.skp rfl rfl ?_
                              refine Tr.skp rfl rfl ?_
                              refine Tr.skp rfl rfl ?_
                              refine Tr.pick rfl rfl rfl rfl rfl rfl ?_
                              refine Tr.move rfl rfl rfl ?_
                              refine Tr.skp rfl rfl ?_
                              refine Tr.skp rfl rfl ?_
                              refine Tr.skp rfl rfl ?_
                              refine Tr.skp rfl rfl ?_
                              refine Tr.pick rfl rfl rfl rfl rfl rfl ?_
                              refine Tr.nil ?_
                              refine at_n ?_
                              refine Sat.cond_t rfl rfl ?_
                              refine Sat.seq ?_
                              -- region 9
                              refine Sat.region ?_
                              refine Tr.assign rfl rfl rfl ?_
                              refine Tr.nil ?_
                              refine at_n ?_
                              refine Sat.ret ?_
                              refine at_r ?_
                              refine en_r ?_
                              refine ⟨_, [], res_tmp rfl rfl, (by simp), (by simp), ?_, rfl⟩
                              first
                                | exact congrArg i64 (msg_bad (by
                                    simp only [DMsg.bad, ← eK, ← eH, ← hu, ← hl.heads, ← hl.want, ← hl.blocks, ← hl.votes, ← hl.cuts, ← hl.certs]
                                    first
                                      | exact .inl (‹_›)
                                      | exact .inr (.inl (‹_›))
                                      | exact .inr (.inr (.inl (‹_›)))
                                      | exact .inr (.inr (.inr (.inl (‹_›))))
                                      | exact .inr (.inr (.inr (.inr (.inl (‹_›)))))
                                      | exact .inr (.inr (.inr (.inr (.inr (.inl (‹_›))))))
                                      | exact .inr (.inr (.inr (.inr (.inr (.inr (.inl (‹_›)))))))
                                      | exact .inr (.inr (.inr (.inr (.inr (.inr (.inr (.inl (‹_›))))))))
                                      | exact .inr (.inr (.inr (.inr (.inr (.inr (.inr (.inr (.inl (‹_›)))))))))
                                      | exact .inr (.inr (.inr (.inr (.inr (.inr (.inr (.inr (.inr (.inl (⟨‹_›, ‹_›, ‹_›⟩))))))))))
                                      | exact .inr (.inr (.inr (.inr (.inr (.inr (.inr (.inr (.inr (.inl (⟨by omega, by omega, by omega⟩))))))))))
                                      | exact .inr (.inr (.inr (.inr (.inr (.inr (.inr (.inr (.inr (.inr (.inl (‹_›)))))))))))
                                      | exact .inr (.inr (.inr (.inr (.inr (.inr (.inr (.inr (.inr (.inr (.inr (.inl (‹_›))))))))))))
                                      | exact .inr (.inr (.inr (.inr (.inr (.inr (.inr (.inr (.inr (.inr (.inr (.inr (.inl (‹_›)))))))))))))
                                      | exact .inr (.inr (.inr (.inr (.inr (.inr (.inr (.inr (.inr (.inr (.inr (.inr (.inr (‹_›)))))))))))))
                                      | exact .inr (.inr (.inr (.inr (.inr (.inr (.inr (.inr (.inr (.inr (.inl (fun e => Bool.noConfusion (hs8_2.symm.trans e))))))))))))
                                      | exact .inr (.inr (.inr (.inr (.inr (.inr (.inr (.inr (.inr (.inr (.inr (.inl (fun e => Bool.noConfusion (hs8_7.symm.trans e)))))))))))))
                                      | exact .inr (.inr (.inr (.inr (.inr (.inr (.inr (.inr (.inr (.inr (.inr (.inr (.inl (fun e => Bool.noConfusion (hs8_13.symm.trans e)))))))))))))))).symm
                                | exact congrArg i64 (msg_good (by
                                    simp only [DMsg.bad, ← eK, ← eH, ← hu, ← hl.heads, ← hl.want, ← hl.blocks, ← hl.votes, ← hl.cuts, ← hl.certs]
                                    rintro (h | h | h | h | h | h | h | h | h | h | h | h | h | h)
                                    all_goals first | exact h ‹_› | omega | (simp_all; done))).symm
                          ·
                            first | have hs8_2 := of_decide_eq_true hs8_20 | have hs8_2 := of_decide_eq_false hs8_20 | have hs8_2 := nd_t hs8_20 | have hs8_2 := nd_f hs8_20 | have hs8_2 := hs8_20
                            refine Tr.not rfl rfl rfl ?_
                            refine Tr.move rfl rfl rfl ?_
                            refine Tr.skp rfl rfl ?_
                            refine Tr.skp rfl rfl ?_
                            refine Tr.skp rfl rfl ?_
                            refine Tr.skp rfl rfl ?_
                            refine Tr.pick rfl rfl rfl rfl rfl rfl ?_
                            refine Tr.move rfl rfl rfl ?_
                            refine Tr.skp rfl rfl ?_
                            refine Tr.skp rfl rfl ?_
                            refine Tr.skp rfl rfl ?_
                            refine Tr.skp rfl rfl ?_
                            refine Tr.pick rfl rfl rfl rfl rfl rfl ?_
                            refine Tr.move rfl rfl rfl ?_
                            refine Tr.skp rfl rfl ?_
                            refine Tr.skp rfl rfl ?_
                            refine Tr.skp rfl rfl ?_
                            refine Tr.skp rfl rfl ?_
                            refine Tr.pick rfl rfl rfl rfl rfl rfl ?_
                            refine Tr.nil ?_
                            refine at_n ?_
                            refine Sat.cond_t rfl rfl ?_
                            refine Sat.seq ?_
                            -- region 9
                            refine Sat.region ?_
                            refine Tr.assign rfl rfl rfl ?_
                            refine Tr.nil ?_
                            refine at_n ?_
                            refine Sat.ret ?_
                            refine at_r ?_
                            refine en_r ?_
                            refine ⟨_, [], res_tmp rfl rfl, (by simp), (by simp), ?_, rfl⟩
                            first
                              | exact congrArg i64 (msg_bad (by
                                  simp only [DMsg.bad, ← eK, ← eH, ← hu, ← hl.heads, ← hl.want, ← hl.blocks, ← hl.votes, ← hl.cuts, ← hl.certs]
                                  first
                                    | exact .inl (‹_›)
                                    | exact .inr (.inl (‹_›))
                                    | exact .inr (.inr (.inl (‹_›)))
                                    | exact .inr (.inr (.inr (.inl (‹_›))))
                                    | exact .inr (.inr (.inr (.inr (.inl (‹_›)))))
                                    | exact .inr (.inr (.inr (.inr (.inr (.inl (‹_›))))))
                                    | exact .inr (.inr (.inr (.inr (.inr (.inr (.inl (‹_›)))))))
                                    | exact .inr (.inr (.inr (.inr (.inr (.inr (.inr (.inl (‹_›))))))))
                                    | exact .inr (.inr (.inr (.inr (.inr (.inr (.inr (.inr (.inl (‹_›)))))))))
                                    | exact .inr (.inr (.inr (.inr (.inr (.inr (.inr (.inr (.inr (.inl (⟨‹_›, ‹_›, ‹_›⟩))))))))))
                                    | exact .inr (.inr (.inr (.inr (.inr (.inr (.inr (.inr (.inr (.inl (⟨by omega, by omega, by omega⟩))))))))))
                                    | exact .inr (.inr (.inr (.inr (.inr (.inr (.inr (.inr (.inr (.inr (.inl (‹_›)))))))))))
                                    | exact .inr (.inr (.inr (.inr (.inr (.inr (.inr (.inr (.inr (.inr (.inr (.inl (‹_›))))))))))))
                                    | exact .inr (.inr (.inr (.inr (.inr (.inr (.inr (.inr (.inr (.inr (.inr (.inr (.inl (‹_›)))))))))))))
                                    | exact .inr (.inr (.inr (.inr (.inr (.inr (.inr (.inr (.inr (.inr (.inr (.inr (.inr (‹_›)))))))))))))
                                    | exact .inr (.inr (.inr (.inr (.inr (.inr (.inr (.inr (.inr (.inr (.inl (fun e => Bool.noConfusion (hs8_2.symm.trans e))))))))))))
                                    | exact .inr (.inr (.inr (.inr (.inr (.inr (.inr (.inr (.inr (.inr (.inr (.inl (fun e => Bool.noConfusion (hs8_7.symm.trans e)))))))))))))
                                    | exact .inr (.inr (.inr (.inr (.inr (.inr (.inr (.inr (.inr (.inr (.inr (.inr (.inl (fun e => Bool.noConfusion (hs8_13.symm.trans e)))))))))))))))).symm
                              | exact congrArg i64 (msg_good (by
                                  simp only [DMsg.bad, ← eK, ← eH, ← hu, ← hl.heads, ← hl.want, ← hl.blocks, ← hl.votes, ← hl.cuts, ← hl.certs]
                                  rintro (h | h | h | h | h | h | h | h | h | h | h | h | h | h)
                                  all_goals first | exact h ‹_› | omega | (simp_all; done))).symm
                      ·
                        first | have hs6_6 := of_decide_eq_true hs6_60 | have hs6_6 := of_decide_eq_false hs6_60 | have hs6_6 := nd_t hs6_60 | have hs6_6 := nd_f hs6_60 | have hs6_6 := hs6_60
                        refine Tr.pick rfl rfl rfl rfl rfl rfl ?_
                        refine Tr.move rfl rfl rfl ?_
                        refine Tr.skp rfl rfl ?_
                        refine Tr.skp rfl rfl ?_
                        refine Tr.skp rfl rfl ?_
                        refine Tr.pick rfl rfl rfl rfl rfl rfl ?_
                        refine Tr.nil ?_
                        refine at_n ?_
                        refine Sat.cond_f rfl rfl ?_
                        refine Sat.skip ?_
                        refine at_n ?_
                        refine Sat.seq ?_
                        refine Sat.seq ?_
                        -- region 8
                        refine Sat.region ?_
                        refine Tr.fld rfl rfl rfl Tryz.underlying57 rfl Sz22 (by decide) _ rfl ?_
                        refine Tr.load1 rfl rfl rfl Tryz.underlying22 rfl (by first | exact mem0 | exact mem1 | exact mem2 | exact mem3 | exact mem4 | exact mem5 | exact mem6 | exact mem7 | (repeat (first | exact List.mem_cons_self | refine List.mem_cons_of_mem _ ?_ | refine mem_seg ?_))) (by first | exact Msg.get_fBlocks (by first | assumption | (simp; done) | exact Block.zero_ok | exact Vote.zero_ok | exact Reader.zero_ok | exact Cut.zero_ok | exact Cert.zero_ok | exact Msg.zero_ok | exact Inbox.zero_ok | exact Record.zero_ok | exact Kept.zero_ok  | exact hok) | exact (by first | rfl | exact get_words (by first | omega | (simp; done) | (simp; omega)) | exact get_bytes (by first | omega | (simp; done) | (simp; omega)) | exact get_ints (by first | omega | (simp; done) | (simp; omega)))) ?_
                        refine Tr.callB rfl rfl rfl rfl Body131 (all_block m.fBlocks D.dBlocks) (fun w h => Blocks_ext h rfl hW.fBlocks) (fun hs8_20 => ?_) (fun hs8_20 => ?_)
                        ·
                          first | have hs8_2 := of_decide_eq_true hs8_20 | have hs8_2 := of_decide_eq_false hs8_20 | have hs8_2 := nd_t hs8_20 | have hs8_2 := nd_f hs8_20 | have hs8_2 := hs8_20
                          refine Tr.not rfl rfl rfl ?_
                          refine Tr.move rfl rfl rfl ?_
                          refine Tr.fld rfl rfl rfl Tryz.underlying57 rfl Sz24 (by decide) _ rfl ?_
                          refine Tr.load1 rfl rfl rfl Tryz.underlying24 rfl (by first | exact mem0 | exact mem1 | exact mem2 | exact mem3 | exact mem4 | exact mem5 | exact mem6 | exact mem7 | (repeat (first | exact List.mem_cons_self | refine List.mem_cons_of_mem _ ?_ | refine mem_seg ?_))) (by first | exact Msg.get_fVotes (by first | assumption | (simp; done) | exact Block.zero_ok | exact Vote.zero_ok | exact Reader.zero_ok | exact Cut.zero_ok | exact Cert.zero_ok | exact Msg.zero_ok | exact Inbox.zero_ok | exact Record.zero_ok | exact Kept.zero_ok  | exact hok) | exact (by first | rfl | exact get_words (by first | omega | (simp; done) | (simp; omega)) | exact get_bytes (by first | omega | (simp; done) | (simp; omega)) | exact get_ints (by first | omega | (simp; done) | (simp; omega)))) ?_
                          refine Tr.callB rfl rfl rfl rfl Body132 (all_vote m.fVotes D.dVotes) (fun w h => Votes_ext h rfl hW.fVotes) (fun hs8_70 => ?_) (fun hs8_70 => ?_)
                          ·
                            first | have hs8_7 := of_decide_eq_true hs8_70 | have hs8_7 := of_decide_eq_false hs8_70 | have hs8_7 := nd_t hs8_70 | have hs8_7 := nd_f hs8_70 | have hs8_7 := hs8_70
                            refine Tr.not rfl rfl rfl ?_
                            refine Tr.pick rfl rfl rfl rfl rfl rfl ?_
                            refine Tr.move rfl rfl rfl ?_
                            refine Tr.fld rfl rfl rfl Tryz.underlying57 rfl Sz25 (by decide) _ rfl ?_
                            refine Tr.load1 rfl rfl rfl Tryz.underlying25 rfl (by first | exact mem0 | exact mem1 | exact mem2 | exact mem3 | exact mem4 | exact mem5 | exact mem6 | exact mem7 | (repeat (first | exact List.mem_cons_self | refine List.mem_cons_of_mem _ ?_ | refine mem_seg ?_))) (by first | exact Msg.get_fCuts (by first | assumption | (simp; done) | exact Block.zero_ok | exact Vote.zero_ok | exact Reader.zero_ok | exact Cut.zero_ok | exact Cert.zero_ok | exact Msg.zero_ok | exact Inbox.zero_ok | exact Record.zero_ok | exact Kept.zero_ok  | exact hok) | exact (by first | rfl | exact get_words (by first | omega | (simp; done) | (simp; omega)) | exact get_bytes (by first | omega | (simp; done) | (simp; omega)) | exact get_ints (by first | omega | (simp; done) | (simp; omega)))) ?_
                            refine Tr.callB rfl rfl rfl rfl Body133 (all_cut m.fCuts D.dCuts) (fun w h => Cuts_ext h rfl hW.fCuts) (fun hs8_130 => ?_) (fun hs8_130 => ?_)
                            ·
                              first | have hs8_13 := of_decide_eq_true hs8_130 | have hs8_13 := of_decide_eq_false hs8_130 | have hs8_13 := nd_t hs8_130 | have hs8_13 := nd_f hs8_130 | have hs8_13 := hs8_130
                              refine Tr.not rfl rfl rfl ?_
                              refine Tr.pick rfl rfl rfl rfl rfl rfl ?_
                              refine Tr.move rfl rfl rfl ?_
                              refine Tr.fld rfl rfl rfl Tryz.underlying57 rfl Sz23 (by decide) _ rfl ?_
                              refine Tr.load1 rfl rfl rfl Tryz.underlying23 rfl (by first | exact mem0 | exact mem1 | exact mem2 | exact mem3 | exact mem4 | exact mem5 | exact mem6 | exact mem7 | (repeat (first | exact List.mem_cons_self | refine List.mem_cons_of_mem _ ?_ | refine mem_seg ?_))) (by first | exact Msg.get_fCerts (by first | assumption | (simp; done) | exact Block.zero_ok | exact Vote.zero_ok | exact Reader.zero_ok | exact Cut.zero_ok | exact Cert.zero_ok | exact Msg.zero_ok | exact Inbox.zero_ok | exact Record.zero_ok | exact Kept.zero_ok  | exact hok) | exact (by first | rfl | exact get_words (by first | omega | (simp; done) | (simp; omega)) | exact get_bytes (by first | omega | (simp; done) | (simp; omega)) | exact get_ints (by first | omega | (simp; done) | (simp; omega)))) ?_
                              refine Tr.callV rfl rfl rfl rfl Body134 (all_cert m.fCerts D.dCerts) (fun w h => Certs_ext h rfl hW.fCerts) ?_
                              refine Tr.not rfl rfl rfl ?_
                              refine Tr.pick rfl rfl rfl rfl rfl rfl ?_
                              refine Tr.nil ?_
                              refine at_n ?_
                              first
                                | refine Sat.condP rfl (fun hc3 => ?_) (fun hc3 => ?_)
                                | refine Sat.condNP rfl (fun hc3 => ?_) (fun hc3 => ?_)
                                | refine Sat.cond rfl (fun hc3 => ?_) (fun hc3 => ?_)
                              ·
                                have hx3 : ¬ (D.dCerts.all fun d => decide (d.check = 0)) = true := fun e => by rw [e] at hc3; cases hc3
                                refine Sat.seq ?_
                                -- region 9
                                refine Sat.region ?_
                                refine Tr.assign rfl rfl rfl ?_
                                refine Tr.nil ?_
                                refine at_n ?_
                                refine Sat.ret ?_
                                refine at_r ?_
                                refine en_r ?_
                                refine ⟨_, [], res_tmp rfl rfl, (by simp), (by simp), ?_, rfl⟩
                                first
                                  | exact congrArg i64 (msg_bad (by
                                      simp only [DMsg.bad, ← eK, ← eH, ← hu, ← hl.heads, ← hl.want, ← hl.blocks, ← hl.votes, ← hl.cuts, ← hl.certs]
                                      first
                                        | exact .inl (‹_›)
                                        | exact .inr (.inl (‹_›))
                                        | exact .inr (.inr (.inl (‹_›)))
                                        | exact .inr (.inr (.inr (.inl (‹_›))))
                                        | exact .inr (.inr (.inr (.inr (.inl (‹_›)))))
                                        | exact .inr (.inr (.inr (.inr (.inr (.inl (‹_›))))))
                                        | exact .inr (.inr (.inr (.inr (.inr (.inr (.inl (‹_›)))))))
                                        | exact .inr (.inr (.inr (.inr (.inr (.inr (.inr (.inl (‹_›))))))))
                                        | exact .inr (.inr (.inr (.inr (.inr (.inr (.inr (.inr (.inl (‹_›)))))))))
                                        | exact .inr (.inr (.inr (.inr (.inr (.inr (.inr (.inr (.inr (.inl (⟨‹_›, ‹_›, ‹_›⟩))))))))))
                                        | exact .inr (.inr (.inr (.inr (.inr (.inr (.inr (.inr (.inr (.inl (⟨by omega, by omega, by omega⟩))))))))))
                                        | exact .inr (.inr (.inr (.inr (.inr (.inr (.inr (.inr (.inr (.inr (.inl (‹_›)))))))))))
                                        | exact .inr (.inr (.inr (.inr (.inr (.inr (.inr (.inr (.inr (.inr (.inr (.inl (‹_›))))))))))))
                                        | exact .inr (.inr (.inr (.inr (.inr (.inr (.inr (.inr (.inr (.inr (.inr (.inr (.inl (‹_›)))))))))))))
                                        | exact .inr (.inr (.inr (.inr (.inr (.inr (.inr (.inr (.inr (.inr (.inr (.inr (.inr (‹_›)))))))))))))
                                        | exact .inr (.inr (.inr (.inr (.inr (.inr (.inr (.inr (.inr (.inr (.inl (fun e => Bool.noConfusion (hs8_2.symm.trans e))))))))))))
                                        | exact .inr (.inr (.inr (.inr (.inr (.inr (.inr (.inr (.inr (.inr (.inr (.inl (fun e => Bool.noConfusion (hs8_7.symm.trans e)))))))))))))
                                        | exact .inr (.inr (.inr (.inr (.inr (.inr (.inr (.inr (.inr (.inr (.inr (.inr (.inl (fun e => Bool.noConfusion (hs8_13.symm.trans e)))))))))))))))).symm
                                  | exact congrArg i64 (msg_good (by
                                      simp only [DMsg.bad, ← eK, ← eH, ← hu, ← hl.heads, ← hl.want, ← hl.blocks, ← hl.votes, ← hl.cuts, ← hl.certs]
                                      rintro (h | h | h | h | h | h | h | h | h | h | h | h | h | h)
                                      all_goals first | exact h ‹_› | omega | (simp_all; done))).symm
                              ·
                                have hx4 : (D.dCerts.all fun d => decide (d.check = 0)) = true := by
                                  cases e : (D.dCerts.all fun d => decide (d.check = 0))
                                  · rw [e] at hc3; cases hc3
                                  · rfl
                                refine Sat.skip ?_
                                refine at_n ?_
                                refine Sat.seq ?_
                                -- region 10
                                refine Sat.region ?_
                                refine Tr.assign rfl rfl rfl ?_
                                refine Tr.nil ?_
                                refine at_n ?_
                                refine Sat.ret ?_
                                refine en_r ?_
                                refine ⟨_, [], res_tmp rfl rfl, (by simp), (by simp), ?_, rfl⟩
                                first
                                  | exact congrArg i64 (msg_bad (by
                                      simp only [DMsg.bad, ← eK, ← eH, ← hu, ← hl.heads, ← hl.want, ← hl.blocks, ← hl.votes, ← hl.cuts, ← hl.certs]
                                      first
                                        | exact .inl (‹_›)
                                        | exact .inr (.inl (‹_›))
                                        | exact .inr (.inr (.inl (‹_›)))
                                        | exact .inr (.inr (.inr (.inl (‹_›))))
                                        | exact .inr (.inr (.inr (.inr (.inl (‹_›)))))
                                        | exact .inr (.inr (.inr (.inr (.inr (.inl (‹_›))))))
                                        | exact .inr (.inr (.inr (.inr (.inr (.inr (.inl (‹_›)))))))
                                        | exact .inr (.inr (.inr (.inr (.inr (.inr (.inr (.inl (‹_›))))))))
                                        | exact .inr (.inr (.inr (.inr (.inr (.inr (.inr (.inr (.inl (‹_›)))))))))
                                        | exact .inr (.inr (.inr (.inr (.inr (.inr (.inr (.inr (.inr (.inl (⟨‹_›, ‹_›, ‹_›⟩))))))))))
                                        | exact .inr (.inr (.inr (.inr (.inr (.inr (.inr (.inr (.inr (.inl (⟨by omega, by omega, by omega⟩))))))))))
                                        | exact .inr (.inr (.inr (.inr (.inr (.inr (.inr (.inr (.inr (.inr (.inl (‹_›)))))))))))
                                        | exact .inr (.inr (.inr (.inr (.inr (.inr (.inr (.inr (.inr (.inr (.inr (.inl (‹_›))))))))))))
                                        | exact .inr (.inr (.inr (.inr (.inr (.inr (.inr (.inr (.inr (.inr (.inr (.inr (.inl (‹_›)))))))))))))
                                        | exact .inr (.inr (.inr (.inr (.inr (.inr (.inr (.inr (.inr (.inr (.inr (.inr (.inr (‹_›)))))))))))))
                                        | exact .inr (.inr (.inr (.inr (.inr (.inr (.inr (.inr (.inr (.inr (.inl (fun e => Bool.noConfusion (hs8_2.symm.trans e))))))))))))
                                        | exact .inr (.inr (.inr (.inr (.inr (.inr (.inr (.inr (.inr (.inr (.inr (.inl (fun e => Bool.noConfusion (hs8_7.symm.trans e)))))))))))))
                                        | exact .inr (.inr (.inr (.inr (.inr (.inr (.inr (.inr (.inr (.inr (.inr (.inr (.inl (fun e => Bool.noConfusion (hs8_13.symm.trans e)))))))))))))))).symm
                                  | exact congrArg i64 (msg_good (by
                                      simp only [DMsg.bad, ← eK, ← eH, ← hu, ← hl.heads, ← hl.want, ← hl.blocks, ← hl.votes, ← hl.cuts, ← hl.certs]
                                      rintro (h | h | h | h | h | h | h | h | h | h | h | h | h | h)
                                      all_goals first | exact h ‹_› | omega | (simp_all; done))).symm
                            ·
                              first | have hs8_13 := of_decide_eq_true hs8_130 | have hs8_13 := of_decide_eq_false hs8_130 | have hs8_13 := nd_t hs8_130 | have hs8_13 := nd_f hs8_130 | have hs8_13 := hs8_130
                              refine Tr.not rfl rfl rfl ?_
                              refine Tr.pick rfl rfl rfl rfl rfl rfl ?_
                              refine Tr.move rfl rfl rfl ?_
                              refine Tr.skp rfl rfl ?_
                              refine Tr.skp rfl rfl ?_
                              refine Tr.skp rfl rfl ?_
                              refine Tr.skp rfl rfl ?_
                              refine Tr.pick rfl rfl rfl rfl rfl rfl ?_
                              refine Tr.nil ?_
                              refine at_n ?_
                              refine Sat.cond_t rfl rfl ?_
                              refine Sat.seq ?_
                              -- region 9
                              refine Sat.region ?_
                              refine Tr.assign rfl rfl rfl ?_
                              refine Tr.nil ?_
                              refine at_n ?_
                              refine Sat.ret ?_
                              refine at_r ?_
                              refine en_r ?_
                              refine ⟨_, [], res_tmp rfl rfl, (by simp), (by simp), ?_, rfl⟩
                              first
                                | exact congrArg i64 (msg_bad (by
                                    simp only [DMsg.bad, ← eK, ← eH, ← hu, ← hl.heads, ← hl.want, ← hl.blocks, ← hl.votes, ← hl.cuts, ← hl.certs]
                                    first
                                      | exact .inl (‹_›)
                                      | exact .inr (.inl (‹_›))
                                      | exact .inr (.inr (.inl (‹_›)))
                                      | exact .inr (.inr (.inr (.inl (‹_›))))
                                      | exact .inr (.inr (.inr (.inr (.inl (‹_›)))))
                                      | exact .inr (.inr (.inr (.inr (.inr (.inl (‹_›))))))
                                      | exact .inr (.inr (.inr (.inr (.inr (.inr (.inl (‹_›)))))))
                                      | exact .inr (.inr (.inr (.inr (.inr (.inr (.inr (.inl (‹_›))))))))
                                      | exact .inr (.inr (.inr (.inr (.inr (.inr (.inr (.inr (.inl (‹_›)))))))))
                                      | exact .inr (.inr (.inr (.inr (.inr (.inr (.inr (.inr (.inr (.inl (⟨‹_›, ‹_›, ‹_›⟩))))))))))
                                      | exact .inr (.inr (.inr (.inr (.inr (.inr (.inr (.inr (.inr (.inl (⟨by omega, by omega, by omega⟩))))))))))
                                      | exact .inr (.inr (.inr (.inr (.inr (.inr (.inr (.inr (.inr (.inr (.inl (‹_›)))))))))))
                                      | exact .inr (.inr (.inr (.inr (.inr (.inr (.inr (.inr (.inr (.inr (.inr (.inl (‹_›))))))))))))
                                      | exact .inr (.inr (.inr (.inr (.inr (.inr (.inr (.inr (.inr (.inr (.inr (.inr (.inl (‹_›)))))))))))))
                                      | exact .inr (.inr (.inr (.inr (.inr (.inr (.inr (.inr (.inr (.inr (.inr (.inr (.inr (‹_›)))))))))))))
                                      | exact .inr (.inr (.inr (.inr (.inr (.inr (.inr (.inr (.inr (.inr (.inl (fun e => Bool.noConfusion (hs8_2.symm.trans e))))))))))))
                                      | exact .inr (.inr (.inr (.inr (.inr (.inr (.inr (.inr (.inr (.inr (.inr (.inl (fun e => Bool.noConfusion (hs8_7.symm.trans e)))))))))))))
                                      | exact .inr (.inr (.inr (.inr (.inr (.inr (.inr (.inr (.inr (.inr (.inr (.inr (.inl (fun e => Bool.noConfusion (hs8_13.symm.trans e)))))))))))))))).symm
                                | exact congrArg i64 (msg_good (by
                                    simp only [DMsg.bad, ← eK, ← eH, ← hu, ← hl.heads, ← hl.want, ← hl.blocks, ← hl.votes, ← hl.cuts, ← hl.certs]
                                    rintro (h | h | h | h | h | h | h | h | h | h | h | h | h | h)
                                    all_goals first | exact h ‹_› | omega | (simp_all; done))).symm
                          ·
                            first | have hs8_7 := of_decide_eq_true hs8_70 | have hs8_7 := of_decide_eq_false hs8_70 | have hs8_7 := nd_t hs8_70 | have hs8_7 := nd_f hs8_70 | have hs8_7 := hs8_70
                            refine Tr.not rfl rfl rfl ?_
                            refine Tr.pick rfl rfl rfl rfl rfl rfl ?_
                            refine Tr.move rfl rfl rfl ?_
                            refine Tr.skp rfl rfl ?_
                            refine Tr.skp rfl rfl ?_
                            refine Tr.skp rfl rfl ?_
                            refine Tr.skp rfl rfl ?_
                            refine Tr.pick rfl rfl rfl rfl rfl rfl ?_
                            refine Tr.move rfl rfl rfl ?_
                            refine Tr.skp rfl rfl ?_
                            refine Tr.skp rfl rfl ?_
                            refine Tr.skp rfl rfl ?_
                            refine Tr.skp rfl rfl ?_
                            refine Tr.pick rfl rfl rfl rfl rfl rfl ?_
                            refine Tr.nil ?_
                            refine at_n ?_
                            refine Sat.cond_t rfl rfl ?_
                            refine Sat.seq ?_
                            -- region 9
                            refine Sat.region ?_
                            refine Tr.assign rfl rfl rfl ?_
                            refine Tr.nil ?_
                            refine at_n ?_
                            refine Sat.ret ?_
                            refine at_r ?_
                            refine en_r ?_
                            refine ⟨_, [], res_tmp rfl rfl, (by simp), (by simp), ?_, rfl⟩
                            first
                              | exact congrArg i64 (msg_bad (by
                                  simp only [DMsg.bad, ← eK, ← eH, ← hu, ← hl.heads, ← hl.want, ← hl.blocks, ← hl.votes, ← hl.cuts, ← hl.certs]
                                  first
                                    | exact .inl (‹_›)
                                    | exact .inr (.inl (‹_›))
                                    | exact .inr (.inr (.inl (‹_›)))
                                    | exact .inr (.inr (.inr (.inl (‹_›))))
                                    | exact .inr (.inr (.inr (.inr (.inl (‹_›)))))
                                    | exact .inr (.inr (.inr (.inr (.inr (.inl (‹_›))))))
                                    | exact .inr (.inr (.inr (.inr (.inr (.inr (.inl (‹_›)))))))
                                    | exact .inr (.inr (.inr (.inr (.inr (.inr (.inr (.inl (‹_›))))))))
                                    | exact .inr (.inr (.inr (.inr (.inr (.inr (.inr (.inr (.inl (‹_›)))))))))
                                    | exact .inr (.inr (.inr (.inr (.inr (.inr (.inr (.inr (.inr (.inl (⟨‹_›, ‹_›, ‹_›⟩))))))))))
                                    | exact .inr (.inr (.inr (.inr (.inr (.inr (.inr (.inr (.inr (.inl (⟨by omega, by omega, by omega⟩))))))))))
                                    | exact .inr (.inr (.inr (.inr (.inr (.inr (.inr (.inr (.inr (.inr (.inl (‹_›)))))))))))
                                    | exact .inr (.inr (.inr (.inr (.inr (.inr (.inr (.inr (.inr (.inr (.inr (.inl (‹_›))))))))))))
                                    | exact .inr (.inr (.inr (.inr (.inr (.inr (.inr (.inr (.inr (.inr (.inr (.inr (.inl (‹_›)))))))))))))
                                    | exact .inr (.inr (.inr (.inr (.inr (.inr (.inr (.inr (.inr (.inr (.inr (.inr (.inr (‹_›)))))))))))))
                                    | exact .inr (.inr (.inr (.inr (.inr (.inr (.inr (.inr (.inr (.inr (.inl (fun e => Bool.noConfusion (hs8_2.symm.trans e))))))))))))
                                    | exact .inr (.inr (.inr (.inr (.inr (.inr (.inr (.inr (.inr (.inr (.inr (.inl (fun e => Bool.noConfusion (hs8_7.symm.trans e)))))))))))))
                                    | exact .inr (.inr (.inr (.inr (.inr (.inr (.inr (.inr (.inr (.inr (.inr (.inr (.inl (fun e => Bool.noConfusion (hs8_13.symm.trans e)))))))))))))))).symm
                              | exact congrArg i64 (msg_good (by
                                  simp only [DMsg.bad, ← eK, ← eH, ← hu, ← hl.heads, ← hl.want, ← hl.blocks, ← hl.votes, ← hl.cuts, ← hl.certs]
                                  rintro (h | h | h | h | h | h | h | h | h | h | h | h | h | h)
                                  all_goals first | exact h ‹_› | omega | (simp_all; done))).symm
                        ·
                          first | have hs8_2 := of_decide_eq_true hs8_20 | have hs8_2 := of_decide_eq_false hs8_20 | have hs8_2 := nd_t hs8_20 | have hs8_2 := nd_f hs8_20 | have hs8_2 := hs8_20
                          refine Tr.not rfl rfl rfl ?_
                          refine Tr.move rfl rfl rfl ?_
                          refine Tr.skp rfl rfl ?_
                          refine Tr.skp rfl rfl ?_
                          refine Tr.skp rfl rfl ?_
                          refine Tr.skp rfl rfl ?_
                          refine Tr.pick rfl rfl rfl rfl rfl rfl ?_
                          refine Tr.move rfl rfl rfl ?_
                          refine Tr.skp rfl rfl ?_
                          refine Tr.skp rfl rfl ?_
                          refine Tr.skp rfl rfl ?_
                          refine Tr.skp rfl rfl ?_
                          refine Tr.pick rfl rfl rfl rfl rfl rfl ?_
                          refine Tr.move rfl rfl rfl ?_
                          refine Tr.skp rfl rfl ?_
                          refine Tr.skp rfl rfl ?_
                          refine Tr.skp rfl rfl ?_
                          refine Tr.skp rfl rfl ?_
                          refine Tr.pick rfl rfl rfl rfl rfl rfl ?_
                          refine Tr.nil ?_
                          refine at_n ?_
                          refine Sat.cond_t rfl rfl ?_
                          refine Sat.seq ?_
                          -- region 9
                          refine Sat.region ?_
                          refine Tr.assign rfl rfl rfl ?_
                          refine Tr.nil ?_
                          refine at_n ?_
                          refine Sat.ret ?_
                          refine at_r ?_
                          refine en_r ?_
                          refine ⟨_, [], res_tmp rfl rfl, (by simp), (by simp), ?_, rfl⟩
                          first
                            | exact congrArg i64 (msg_bad (by
                                simp only [DMsg.bad, ← eK, ← eH, ← hu, ← hl.heads, ← hl.want, ← hl.blocks, ← hl.votes, ← hl.cuts, ← hl.certs]
                                first
                                  | exact .inl (‹_›)
                                  | exact .inr (.inl (‹_›))
                                  | exact .inr (.inr (.inl (‹_›)))
                                  | exact .inr (.inr (.inr (.inl (‹_›))))
                                  | exact .inr (.inr (.inr (.inr (.inl (‹_›)))))
                                  | exact .inr (.inr (.inr (.inr (.inr (.inl (‹_›))))))
                                  | exact .inr (.inr (.inr (.inr (.inr (.inr (.inl (‹_›)))))))
                                  | exact .inr (.inr (.inr (.inr (.inr (.inr (.inr (.inl (‹_›))))))))
                                  | exact .inr (.inr (.inr (.inr (.inr (.inr (.inr (.inr (.inl (‹_›)))))))))
                                  | exact .inr (.inr (.inr (.inr (.inr (.inr (.inr (.inr (.inr (.inl (⟨‹_›, ‹_›, ‹_›⟩))))))))))
                                  | exact .inr (.inr (.inr (.inr (.inr (.inr (.inr (.inr (.inr (.inl (⟨by omega, by omega, by omega⟩))))))))))
                                  | exact .inr (.inr (.inr (.inr (.inr (.inr (.inr (.inr (.inr (.inr (.inl (‹_›)))))))))))
                                  | exact .inr (.inr (.inr (.inr (.inr (.inr (.inr (.inr (.inr (.inr (.inr (.inl (‹_›))))))))))))
                                  | exact .inr (.inr (.inr (.inr (.inr (.inr (.inr (.inr (.inr (.inr (.inr (.inr (.inl (‹_›)))))))))))))
                                  | exact .inr (.inr (.inr (.inr (.inr (.inr (.inr (.inr (.inr (.inr (.inr (.inr (.inr (‹_›)))))))))))))
                                  | exact .inr (.inr (.inr (.inr (.inr (.inr (.inr (.inr (.inr (.inr (.inl (fun e => Bool.noConfusion (hs8_2.symm.trans e))))))))))))
                                  | exact .inr (.inr (.inr (.inr (.inr (.inr (.inr (.inr (.inr (.inr (.inr (.inl (fun e => Bool.noConfusion (hs8_7.symm.trans e)))))))))))))
                                  | exact .inr (.inr (.inr (.inr (.inr (.inr (.inr (.inr (.inr (.inr (.inr (.inr (.inl (fun e => Bool.noConfusion (hs8_13.symm.trans e)))))))))))))))).symm
                            | exact congrArg i64 (msg_good (by
                                simp only [DMsg.bad, ← eK, ← eH, ← hu, ← hl.heads, ← hl.want, ← hl.blocks, ← hl.votes, ← hl.cuts, ← hl.certs]
                                rintro (h | h | h | h | h | h | h | h | h | h | h | h | h | h)
                                all_goals first | exact h ‹_› | omega | (simp_all; done))).symm
                    ·
                      first | have hs6_2 := of_decide_eq_true hs6_20 | have hs6_2 := of_decide_eq_false hs6_20 | have hs6_2 := nd_t hs6_20 | have hs6_2 := nd_f hs6_20 | have hs6_2 := hs6_20
                      refine Tr.move rfl rfl rfl ?_
                      refine Tr.skp rfl rfl ?_
                      refine Tr.skp rfl rfl ?_
                      refine Tr.skp rfl rfl ?_
                      refine Tr.pick rfl rfl rfl rfl rfl rfl ?_
                      refine Tr.move rfl rfl rfl ?_
                      refine Tr.skp rfl rfl ?_
                      refine Tr.skp rfl rfl ?_
                      refine Tr.skp rfl rfl ?_
                      refine Tr.pick rfl rfl rfl rfl rfl rfl ?_
                      refine Tr.nil ?_
                      refine at_n ?_
                      refine Sat.cond_f rfl rfl ?_
                      refine Sat.skip ?_
                      refine at_n ?_
                      refine Sat.seq ?_
                      refine Sat.seq ?_
                      -- region 8
                      refine Sat.region ?_
                      refine Tr.fld rfl rfl rfl Tryz.underlying57 rfl Sz22 (by decide) _ rfl ?_
                      refine Tr.load1 rfl rfl rfl Tryz.underlying22 rfl (by first | exact mem0 | exact mem1 | exact mem2 | exact mem3 | exact mem4 | exact mem5 | exact mem6 | exact mem7 | (repeat (first | exact List.mem_cons_self | refine List.mem_cons_of_mem _ ?_ | refine mem_seg ?_))) (by first | exact Msg.get_fBlocks (by first | assumption | (simp; done) | exact Block.zero_ok | exact Vote.zero_ok | exact Reader.zero_ok | exact Cut.zero_ok | exact Cert.zero_ok | exact Msg.zero_ok | exact Inbox.zero_ok | exact Record.zero_ok | exact Kept.zero_ok  | exact hok) | exact (by first | rfl | exact get_words (by first | omega | (simp; done) | (simp; omega)) | exact get_bytes (by first | omega | (simp; done) | (simp; omega)) | exact get_ints (by first | omega | (simp; done) | (simp; omega)))) ?_
                      refine Tr.callB rfl rfl rfl rfl Body131 (all_block m.fBlocks D.dBlocks) (fun w h => Blocks_ext h rfl hW.fBlocks) (fun hs8_20 => ?_) (fun hs8_20 => ?_)
                      ·
                        first | have hs8_2 := of_decide_eq_true hs8_20 | have hs8_2 := of_decide_eq_false hs8_20 | have hs8_2 := nd_t hs8_20 | have hs8_2 := nd_f hs8_20 | have hs8_2 := hs8_20
                        refine Tr.not rfl rfl rfl ?_
                        refine Tr.move rfl rfl rfl ?_
                        refine Tr.fld rfl rfl rfl Tryz.underlying57 rfl Sz24 (by decide) _ rfl ?_
                        refine Tr.load1 rfl rfl rfl Tryz.underlying24 rfl (by first | exact mem0 | exact mem1 | exact mem2 | exact mem3 | exact mem4 | exact mem5 | exact mem6 | exact mem7 | (repeat (first | exact List.mem_cons_self | refine List.mem_cons_of_mem _ ?_ | refine mem_seg ?_))) (by first | exact Msg.get_fVotes (by first | assumption | (simp; done) | exact Block.zero_ok | exact Vote.zero_ok | exact Reader.zero_ok | exact Cut.zero_ok | exact Cert.zero_ok | exact Msg.zero_ok | exact Inbox.zero_ok | exact Record.zero_ok | exact Kept.zero_ok  | exact hok) | exact (by first | rfl | exact get_words (by first | omega | (simp; done) | (simp; omega)) | exact get_bytes (by first | omega | (simp; done) | (simp; omega)) | exact get_ints (by first | omega | (simp; done) | (simp; omega)))) ?_
                        refine Tr.callB rfl rfl rfl rfl Body132 (all_vote m.fVotes D.dVotes) (fun w h => Votes_ext h rfl hW.fVotes) (fun hs8_70 => ?_) (fun hs8_70 => ?_)
                        ·
                          first | have hs8_7 := of_decide_eq_true hs8_70 | have hs8_7 := of_decide_eq_false hs8_70 | have hs8_7 := nd_t hs8_70 | have hs8_7 := nd_f hs8_70 | have hs8_7 := hs8_70
                          refine Tr.not rfl rfl rfl ?_
                          refine Tr.pick rfl rfl rfl rfl rfl rfl ?_
                          refine Tr.move rfl rfl rfl ?_
                          refine Tr.fld rfl rfl rfl Tryz.underlying57 rfl Sz25 (by decide) _ rfl ?_
                          refine Tr.load1 rfl rfl rfl Tryz.underlying25 rfl (by first | exact mem0 | exact mem1 | exact mem2 | exact mem3 | exact mem4 | exact mem5 | exact mem6 | exact mem7 | (repeat (first | exact List.mem_cons_self | refine List.mem_cons_of_mem _ ?_ | refine mem_seg ?_))) (by first | exact Msg.get_fCuts (by first | assumption | (simp; done) | exact Block.zero_ok | exact Vote.zero_ok | exact Reader.zero_ok | exact Cut.zero_ok | exact Cert.zero_ok | exact Msg.zero_ok | exact Inbox.zero_ok | exact Record.zero_ok | exact Kept.zero_ok  | exact hok) | exact (by first | rfl | exact get_words (by first | omega | (simp; done) | (simp; omega)) | exact get_bytes (by first | omega | (simp; done) | (simp; omega)) | exact get_ints (by first | omega | (simp; done) | (simp; omega)))) ?_
                          refine Tr.callB rfl rfl rfl rfl Body133 (all_cut m.fCuts D.dCuts) (fun w h => Cuts_ext h rfl hW.fCuts) (fun hs8_130 => ?_) (fun hs8_130 => ?_)
                          ·
                            first | have hs8_13 := of_decide_eq_true hs8_130 | have hs8_13 := of_decide_eq_false hs8_130 | have hs8_13 := nd_t hs8_130 | have hs8_13 := nd_f hs8_130 | have hs8_13 := hs8_130
                            refine Tr.not rfl rfl rfl ?_
                            refine Tr.pick rfl rfl rfl rfl rfl rfl ?_
                            refine Tr.move rfl rfl rfl ?_
                            refine Tr.fld rfl rfl rfl Tryz.underlying57 rfl Sz23 (by decide) _ rfl ?_
                            refine Tr.load1 rfl rfl rfl Tryz.underlying23 rfl (by first | exact mem0 | exact mem1 | exact mem2 | exact mem3 | exact mem4 | exact mem5 | exact mem6 | exact mem7 | (repeat (first | exact List.mem_cons_self | refine List.mem_cons_of_mem _ ?_ | refine mem_seg ?_))) (by first | exact Msg.get_fCerts (by first | assumption | (simp; done) | exact Block.zero_ok | exact Vote.zero_ok | exact Reader.zero_ok | exact Cut.zero_ok | exact Cert.zero_ok | exact Msg.zero_ok | exact Inbox.zero_ok | exact Record.zero_ok | exact Kept.zero_ok  | exact hok) | exact (by first | rfl | exact get_words (by first | omega | (simp; done) | (simp; omega)) | exact get_bytes (by first | omega | (simp; done) | (simp; omega)) | exact get_ints (by first | omega | (simp; done) | (simp; omega)))) ?_
                            refine Tr.callV rfl rfl rfl rfl Body134 (all_cert m.fCerts D.dCerts) (fun w h => Certs_ext h rfl hW.fCerts) ?_
                            refine Tr.not rfl rfl rfl ?_
                            refine Tr.pick rfl rfl rfl rfl rfl rfl ?_
                            refine Tr.nil ?_
                            refine at_n ?_
                            first
                              | refine Sat.condP rfl (fun hc3 => ?_) (fun hc3 => ?_)
                              | refine Sat.condNP rfl (fun hc3 => ?_) (fun hc3 => ?_)
                              | refine Sat.cond rfl (fun hc3 => ?_) (fun hc3 => ?_)
                            ·
                              have hx3 : ¬ (D.dCerts.all fun d => decide (d.check = 0)) = true := fun e => by rw [e] at hc3; cases hc3
                              refine Sat.seq ?_
                              -- region 9
                              refine Sat.region ?_
                              refine Tr.assign rfl rfl rfl ?_
                              refine Tr.nil ?_
                              refine at_n ?_
                              refine Sat.ret ?_
                              refine at_r ?_
                              refine en_r ?_
                              refine ⟨_, [], res_tmp rfl rfl, (by simp), (by simp), ?_, rfl⟩
                              first
                                | exact congrArg i64 (msg_bad (by
                                    simp only [DMsg.bad, ← eK, ← eH, ← hu, ← hl.heads, ← hl.want, ← hl.blocks, ← hl.votes, ← hl.cuts, ← hl.certs]
                                    first
                                      | exact .inl (‹_›)
                                      | exact .inr (.inl (‹_›))
                                      | exact .inr (.inr (.inl (‹_›)))
                                      | exact .inr (.inr (.inr (.inl (‹_›))))
                                      | exact .inr (.inr (.inr (.inr (.inl (‹_›)))))
                                      | exact .inr (.inr (.inr (.inr (.inr (.inl (‹_›))))))
                                      | exact .inr (.inr (.inr (.inr (.inr (.inr (.inl (‹_›)))))))
                                      | exact .inr (.inr (.inr (.inr (.inr (.inr (.inr (.inl (‹_›))))))))
                                      | exact .inr (.inr (.inr (.inr (.inr (.inr (.inr (.inr (.inl (‹_›)))))))))
                                      | exact .inr (.inr (.inr (.inr (.inr (.inr (.inr (.inr (.inr (.inl (⟨‹_›, ‹_›, ‹_›⟩))))))))))
                                      | exact .inr (.inr (.inr (.inr (.inr (.inr (.inr (.inr (.inr (.inl (⟨by omega, by omega, by omega⟩))))))))))
                                      | exact .inr (.inr (.inr (.inr (.inr (.inr (.inr (.inr (.inr (.inr (.inl (‹_›)))))))))))
                                      | exact .inr (.inr (.inr (.inr (.inr (.inr (.inr (.inr (.inr (.inr (.inr (.inl (‹_›))))))))))))
                                      | exact .inr (.inr (.inr (.inr (.inr (.inr (.inr (.inr (.inr (.inr (.inr (.inr (.inl (‹_›)))))))))))))
                                      | exact .inr (.inr (.inr (.inr (.inr (.inr (.inr (.inr (.inr (.inr (.inr (.inr (.inr (‹_›)))))))))))))
                                      | exact .inr (.inr (.inr (.inr (.inr (.inr (.inr (.inr (.inr (.inr (.inl (fun e => Bool.noConfusion (hs8_2.symm.trans e))))))))))))
                                      | exact .inr (.inr (.inr (.inr (.inr (.inr (.inr (.inr (.inr (.inr (.inr (.inl (fun e => Bool.noConfusion (hs8_7.symm.trans e)))))))))))))
                                      | exact .inr (.inr (.inr (.inr (.inr (.inr (.inr (.inr (.inr (.inr (.inr (.inr (.inl (fun e => Bool.noConfusion (hs8_13.symm.trans e)))))))))))))))).symm
                                | exact congrArg i64 (msg_good (by
                                    simp only [DMsg.bad, ← eK, ← eH, ← hu, ← hl.heads, ← hl.want, ← hl.blocks, ← hl.votes, ← hl.cuts, ← hl.certs]
                                    rintro (h | h | h | h | h | h | h | h | h | h | h | h | h | h)
                                    all_goals first | exact h ‹_› | omega | (simp_all; done))).symm
                            ·
                              have hx4 : (D.dCerts.all fun d => decide (d.check = 0)) = true := by
                                cases e : (D.dCerts.all fun d => decide (d.check = 0))
                                · rw [e] at hc3; cases hc3
                                · rfl
                              refine Sat.skip ?_
                              refine at_n ?_
                              refine Sat.seq ?_
                              -- region 10
                              refine Sat.region ?_
                              refine Tr.assign rfl rfl rfl ?_
                              refine Tr.nil ?_
                              refine at_n ?_
                              refine Sat.ret ?_
                              refine en_r ?_
                              refine ⟨_, [], res_tmp rfl rfl, (by simp), (by simp), ?_, rfl⟩
                              first
                                | exact congrArg i64 (msg_bad (by
                                    simp only [DMsg.bad, ← eK, ← eH, ← hu, ← hl.heads, ← hl.want, ← hl.blocks, ← hl.votes, ← hl.cuts, ← hl.certs]
                                    first
                                      | exact .inl (‹_›)
                                      | exact .inr (.inl (‹_›))
                                      | exact .inr (.inr (.inl (‹_›)))
                                      | exact .inr (.inr (.inr (.inl (‹_›))))
                                      | exact .inr (.inr (.inr (.inr (.inl (‹_›)))))
                                      | exact .inr (.inr (.inr (.inr (.inr (.inl (‹_›))))))
                                      | exact .inr (.inr (.inr (.inr (.inr (.inr (.inl (‹_›)))))))
                                      | exact .inr (.inr (.inr (.inr (.inr (.inr (.inr (.inl (‹_›))))))))
                                      | exact .inr (.inr (.inr (.inr (.inr (.inr (.inr (.inr (.inl (‹_›)))))))))
                                      | exact .inr (.inr (.inr (.inr (.inr (.inr (.inr (.inr (.inr (.inl (⟨‹_›, ‹_›, ‹_›⟩))))))))))
                                      | exact .inr (.inr (.inr (.inr (.inr (.inr (.inr (.inr (.inr (.inl (⟨by omega, by omega, by omega⟩))))))))))
                                      | exact .inr (.inr (.inr (.inr (.inr (.inr (.inr (.inr (.inr (.inr (.inl (‹_›)))))))))))
                                      | exact .inr (.inr (.inr (.inr (.inr (.inr (.inr (.inr (.inr (.inr (.inr (.inl (‹_›))))))))))))
                                      | exact .inr (.inr (.inr (.inr (.inr (.inr (.inr (.inr (.inr (.inr (.inr (.inr (.inl (‹_›)))))))))))))
                                      | exact .inr (.inr (.inr (.inr (.inr (.inr (.inr (.inr (.inr (.inr (.inr (.inr (.inr (‹_›)))))))))))))
                                      | exact .inr (.inr (.inr (.inr (.inr (.inr (.inr (.inr (.inr (.inr (.inl (fun e => Bool.noConfusion (hs8_2.symm.trans e))))))))))))
                                      | exact .inr (.inr (.inr (.inr (.inr (.inr (.inr (.inr (.inr (.inr (.inr (.inl (fun e => Bool.noConfusion (hs8_7.symm.trans e)))))))))))))
                                      | exact .inr (.inr (.inr (.inr (.inr (.inr (.inr (.inr (.inr (.inr (.inr (.inr (.inl (fun e => Bool.noConfusion (hs8_13.symm.trans e)))))))))))))))).symm
                                | exact congrArg i64 (msg_good (by
                                    simp only [DMsg.bad, ← eK, ← eH, ← hu, ← hl.heads, ← hl.want, ← hl.blocks, ← hl.votes, ← hl.cuts, ← hl.certs]
                                    rintro (h | h | h | h | h | h | h | h | h | h | h | h | h | h)
                                    all_goals first | exact h ‹_› | omega | (simp_all; done))).symm
                          ·
                            first | have hs8_13 := of_decide_eq_true hs8_130 | have hs8_13 := of_decide_eq_false hs8_130 | have hs8_13 := nd_t hs8_130 | have hs8_13 := nd_f hs8_130 | have hs8_13 := hs8_130
                            refine Tr.not rfl rfl rfl ?_
                            refine Tr.pick rfl rfl rfl rfl rfl rfl ?_
                            refine Tr.move rfl rfl rfl ?_
                            refine Tr.skp rfl rfl ?_
                            refine Tr.skp rfl rfl ?_
                            refine Tr.skp rfl rfl ?_
                            refine Tr.skp rfl rfl ?_
                            refine Tr.pick rfl rfl rfl rfl rfl rfl ?_
                            refine Tr.nil ?_
                            refine at_n ?_
                            refine Sat.cond_t rfl rfl ?_
                            refine Sat.seq ?_
                            -- region 9
                            refine Sat.region ?_
                            refine Tr.assign rfl rfl rfl ?_
                            refine Tr.nil ?_
                            refine at_n ?_
                            refine Sat.ret ?_
                            refine at_r ?_
                            refine en_r ?_
                            refine ⟨_, [], res_tmp rfl rfl, (by simp), (by simp), ?_, rfl⟩
                            first
                              | exact congrArg i64 (msg_bad (by
                                  simp only [DMsg.bad, ← eK, ← eH, ← hu, ← hl.heads, ← hl.want, ← hl.blocks, ← hl.votes, ← hl.cuts, ← hl.certs]
                                  first
                                    | exact .inl (‹_›)
                                    | exact .inr (.inl (‹_›))
                                    | exact .inr (.inr (.inl (‹_›)))
                                    | exact .inr (.inr (.inr (.inl (‹_›))))
                                    | exact .inr (.inr (.inr (.inr (.inl (‹_›)))))
                                    | exact .inr (.inr (.inr (.inr (.inr (.inl (‹_›))))))
                                    | exact .inr (.inr (.inr (.inr (.inr (.inr (.inl (‹_›)))))))
                                    | exact .inr (.inr (.inr (.inr (.inr (.inr (.inr (.inl (‹_›))))))))
                                    | exact .inr (.inr (.inr (.inr (.inr (.inr (.inr (.inr (.inl (‹_›)))))))))
                                    | exact .inr (.inr (.inr (.inr (.inr (.inr (.inr (.inr (.inr (.inl (⟨‹_›, ‹_›, ‹_›⟩))))))))))
                                    | exact .inr (.inr (.inr (.inr (.inr (.inr (.inr (.inr (.inr (.inl (⟨by omega, by omega, by omega⟩))))))))))
                                    | exact .inr (.inr (.inr (.inr (.inr (.inr (.inr (.inr (.inr (.inr (.inl (‹_›)))))))))))
                                    | exact .inr (.inr (.inr (.inr (.inr (.inr (.inr (.inr (.inr (.inr (.inr (.inl (‹_›))))))))))))
                                    | exact .inr (.inr (.inr (.inr (.inr (.inr (.inr (.inr (.inr (.inr (.inr (.inr (.inl (‹_›)))))))))))))
                                    | exact .inr (.inr (.inr (.inr (.inr (.inr (.inr (.inr (.inr (.inr (.inr (.inr (.inr (‹_›)))))))))))))
                                    | exact .inr (.inr (.inr (.inr (.inr (.inr (.inr (.inr (.inr (.inr (.inl (fun e => Bool.noConfusion (hs8_2.symm.trans e))))))))))))
                                    | exact .inr (.inr (.inr (.inr (.inr (.inr (.inr (.inr (.inr (.inr (.inr (.inl (fun e => Bool.noConfusion (hs8_7.symm.trans e)))))))))))))
                                    | exact .inr (.inr (.inr (.inr (.inr (.inr (.inr (.inr (.inr (.inr (.inr (.inr (.inl (fun e => Bool.noConfusion (hs8_13.symm.trans e)))))))))))))))).symm
                              | exact congrArg i64 (msg_good (by
                                  simp only [DMsg.bad, ← eK, ← eH, ← hu, ← hl.heads, ← hl.want, ← hl.blocks, ← hl.votes, ← hl.cuts, ← hl.certs]
                                  rintro (h | h | h | h | h | h | h | h | h | h | h | h | h | h)
                                  all_goals first | exact h ‹_› | omega | (simp_all; done))).symm
                        ·
                          first | have hs8_7 := of_decide_eq_true hs8_70 | have hs8_7 := of_decide_eq_false hs8_70 | have hs8_7 := nd_t hs8_70 | have hs8_7 := nd_f hs8_70 | have hs8_7 := hs8_70
                          refine Tr.not rfl rfl rfl ?_
                          refine Tr.pick rfl rfl rfl rfl rfl rfl ?_
                          refine Tr.move rfl rfl rfl ?_
                          refine Tr.skp rfl rfl ?_
                          refine Tr.skp rfl rfl ?_
                          refine Tr.skp rfl rfl ?_
                          refine Tr.skp rfl rfl ?_
                          refine Tr.pick rfl rfl rfl rfl rfl rfl ?_
                          refine Tr.move rfl rfl rfl ?_
                          refine Tr.skp rfl rfl ?_
                          refine Tr.skp rfl rfl ?_
                          refine Tr.skp rfl rfl ?_
                          refine Tr.skp rfl rfl ?_
                          refine Tr.pick rfl rfl rfl rfl rfl rfl ?_
                          refine Tr.nil ?_
                          refine at_n ?_
                          refine Sat.cond_t rfl rfl ?_
                          refine Sat.seq ?_
                          -- region 9
                          refine Sat.region ?_
                          refine Tr.assign rfl rfl rfl ?_
                          refine Tr.nil ?_
                          refine at_n ?_
                          refine Sat.ret ?_
                          refine at_r ?_
                          refine en_r ?_
                          refine ⟨_, [], res_tmp rfl rfl, (by simp), (by simp), ?_, rfl⟩
                          first
                            | exact congrArg i64 (msg_bad (by
                                simp only [DMsg.bad, ← eK, ← eH, ← hu, ← hl.heads, ← hl.want, ← hl.blocks, ← hl.votes, ← hl.cuts, ← hl.certs]
                                first
                                  | exact .inl (‹_›)
                                  | exact .inr (.inl (‹_›))
                                  | exact .inr (.inr (.inl (‹_›)))
                                  | exact .inr (.inr (.inr (.inl (‹_›))))
                                  | exact .inr (.inr (.inr (.inr (.inl (‹_›)))))
                                  | exact .inr (.inr (.inr (.inr (.inr (.inl (‹_›))))))
                                  | exact .inr (.inr (.inr (.inr (.inr (.inr (.inl (‹_›)))))))
                                  | exact .inr (.inr (.inr (.inr (.inr (.inr (.inr (.inl (‹_›))))))))
                                  | exact .inr (.inr (.inr (.inr (.inr (.inr (.inr (.inr (.inl (‹_›)))))))))
                                  | exact .inr (.inr (.inr (.inr (.inr (.inr (.inr (.inr (.inr (.inl (⟨‹_›, ‹_›, ‹_›⟩))))))))))
                                  | exact .inr (.inr (.inr (.inr (.inr (.inr (.inr (.inr (.inr (.inl (⟨by omega, by omega, by omega⟩))))))))))
                                  | exact .inr (.inr (.inr (.inr (.inr (.inr (.inr (.inr (.inr (.inr (.inl (‹_›)))))))))))
                                  | exact .inr (.inr (.inr (.inr (.inr (.inr (.inr (.inr (.inr (.inr (.inr (.inl (‹_›))))))))))))
                                  | exact .inr (.inr (.inr (.inr (.inr (.inr (.inr (.inr (.inr (.inr (.inr (.inr (.inl (‹_›)))))))))))))
                                  | exact .inr (.inr (.inr (.inr (.inr (.inr (.inr (.inr (.inr (.inr (.inr (.inr (.inr (‹_›)))))))))))))
                                  | exact .inr (.inr (.inr (.inr (.inr (.inr (.inr (.inr (.inr (.inr (.inl (fun e => Bool.noConfusion (hs8_2.symm.trans e))))))))))))
                                  | exact .inr (.inr (.inr (.inr (.inr (.inr (.inr (.inr (.inr (.inr (.inr (.inl (fun e => Bool.noConfusion (hs8_7.symm.trans e)))))))))))))
                                  | exact .inr (.inr (.inr (.inr (.inr (.inr (.inr (.inr (.inr (.inr (.inr (.inr (.inl (fun e => Bool.noConfusion (hs8_13.symm.trans e)))))))))))))))).symm
                            | exact congrArg i64 (msg_good (by
                                simp only [DMsg.bad, ← eK, ← eH, ← hu, ← hl.heads, ← hl.want, ← hl.blocks, ← hl.votes, ← hl.cuts, ← hl.certs]
                                rintro (h | h | h | h | h | h | h | h | h | h | h | h | h | h)
                                all_goals first | exact h ‹_› | omega | (simp_all; done))).symm
                      ·
                        first | have hs8_2 := of_decide_eq_true hs8_20 | have hs8_2 := of_decide_eq_false hs8_20 | have hs8_2 := nd_t hs8_20 | have hs8_2 := nd_f hs8_20 | have hs8_2 := hs8_20
                        refine Tr.not rfl rfl rfl ?_
                        refine Tr.move rfl rfl rfl ?_
                        refine Tr.skp rfl rfl ?_
                        refine Tr.skp rfl rfl ?_
                        refine Tr.skp rfl rfl ?_
                        refine Tr.skp rfl rfl ?_
                        refine Tr.pick rfl rfl rfl rfl rfl rfl ?_
                        refine Tr.move rfl rfl rfl ?_
                        refine Tr.skp rfl rfl ?_
                        refine Tr.skp rfl rfl ?_
                        refine Tr.skp rfl rfl ?_
                        refine Tr.skp rfl rfl ?_
                        refine Tr.pick rfl rfl rfl rfl rfl rfl ?_
                        refine Tr.move rfl rfl rfl ?_
                        refine Tr.skp rfl rfl ?_
                        refine Tr.skp rfl rfl ?_
                        refine Tr.skp rfl rfl ?_
                        refine Tr.skp rfl rfl ?_
                        refine Tr.pick rfl rfl rfl rfl rfl rfl ?_
                        refine Tr.nil ?_
                        refine at_n ?_
                        refine Sat.cond_t rfl rfl ?_
                        refine Sat.seq ?_
                        -- region 9
                        refine Sat.region ?_
                        refine Tr.assign rfl rfl rfl ?_
                        refine Tr.nil ?_
                        refine at_n ?_
                        refine Sat.ret ?_
                        refine at_r ?_
                        refine en_r ?_
                        refine ⟨_, [], res_tmp rfl rfl, (by simp), (by simp), ?_, rfl⟩
                        first
                          | exact congrArg i64 (msg_bad (by
                              simp only [DMsg.bad, ← eK, ← eH, ← hu, ← hl.heads, ← hl.want, ← hl.blocks, ← hl.votes, ← hl.cuts, ← hl.certs]
                              first
                                | exact .inl (‹_›)
                                | exact .inr (.inl (‹_›))
                                | exact .inr (.inr (.inl (‹_›)))
                                | exact .inr (.inr (.inr (.inl (‹_›))))
                                | exact .inr (.inr (.inr (.inr (.inl (‹_›)))))
                                | exact .inr (.inr (.inr (.inr (.inr (.inl (‹_›))))))
                                | exact .inr (.inr (.inr (.inr (.inr (.inr (.inl (‹_›)))))))
                                | exact .inr (.inr (.inr (.inr (.inr (.inr (.inr (.inl (‹_›))))))))
                                | exact .inr (.inr (.inr (.inr (.inr (.inr (.inr (.inr (.inl (‹_›)))))))))
                                | exact .inr (.inr (.inr (.inr (.inr (.inr (.inr (.inr (.inr (.inl (⟨‹_›, ‹_›, ‹_›⟩))))))))))
                                | exact .inr (.inr (.inr (.inr (.inr (.inr (.inr (.inr (.inr (.inl (⟨by omega, by omega, by omega⟩))))))))))
                                | exact .inr (.inr (.inr (.inr (.inr (.inr (.inr (.inr (.inr (.inr (.inl (‹_›)))))))))))
                                | exact .inr (.inr (.inr (.inr (.inr (.inr (.inr (.inr (.inr (.inr (.inr (.inl (‹_›))))))))))))
                                | exact .inr (.inr (.inr (.inr (.inr (.inr (.inr (.inr (.inr (.inr (.inr (.inr (.inl (‹_›)))))))))))))
                                | exact .inr (.inr (.inr (.inr (.inr (.inr (.inr (.inr (.inr (.inr (.inr (.inr (.inr (‹_›)))))))))))))
                                | exact .inr (.inr (.inr (.inr (.inr (.inr (.inr (.inr (.inr (.inr (.inl (fun e => Bool.noConfusion (hs8_2.symm.trans e))))))))))))
                                | exact .inr (.inr (.inr (.inr (.inr (.inr (.inr (.inr (.inr (.inr (.inr (.inl (fun e => Bool.noConfusion (hs8_7.symm.trans e)))))))))))))
                                | exact .inr (.inr (.inr (.inr (.inr (.inr (.inr (.inr (.inr (.inr (.inr (.inr (.inl (fun e => Bool.noConfusion (hs8_13.symm.trans e)))))))))))))))).symm
                          | exact congrArg i64 (msg_good (by
                              simp only [DMsg.bad, ← eK, ← eH, ← hu, ← hl.heads, ← hl.want, ← hl.blocks, ← hl.votes, ← hl.cuts, ← hl.certs]
                              rintro (h | h | h | h | h | h | h | h | h | h | h | h | h | h)
                              all_goals first | exact h ‹_› | omega | (simp_all; done))).symm

end Go.Proofs.YtejjamifnombhaaGreat
end

section
namespace Go.Proofs.YtejjamifnombhaaGreat
open Go Hw
set_option linter.unusedVariables false
set_option linter.unusedSimpArgs false


theorem take_snoc {D : Type} {ds : List D} {k : Nat} {d : D} (h : ds[k]? = some d) : ds.take (k + 1) = ds.take k ++ [d] := by
  obtain ⟨hk, rfl⟩ := List.getElem?_eq_some_iff.1 h
  rw [List.take_succ_eq_append_getElem hk]
end Go.Proofs.YtejjamifnombhaaGreat
end

section
namespace Go.Proofs.YtejjamifnombhaaGreat
open Go Hw
set_option linter.unusedVariables false
set_option linter.unusedSimpArgs false


/-- a message of one's own, with what it holds -/
def OwnedMsg (D : DMsg) (v : Value) (out : List Blk) : Prop := ∃ m : Msg, m.ok ∧ v = agg m.cells ∧ ∀ W2, Lies out W2 → MsgIs W2 m D
theorem no_lie {n : Nat} {v : Value} {T : TypeId} {W : World} (h : Lies [⟨n, [v], T, 0⟩] W) : False := by
  obtain ⟨full, fr, hb⟩ := h _ (List.mem_singleton.2 rfl)
  have h1 := hb.pre.length_le
  have h2 := hb.size
  simp at h1
  simp only at h2
  omega
theorem OwnedMsg.loose (D : DMsg) : Loose (OwnedMsg D) := fun l hl => by
  obtain ⟨n, _, hn⟩ := fresh_is 0 l
  exact ⟨agg Msg.zero.cells, [⟨n, [undef], 0, 0⟩], ⟨Msg.zero, by exact Msg.zero_ok, rfl, fun W2 h => (no_lie h).elim⟩, by
    rw [List.map_append, List.nodup_append]
    refine ⟨by simp, hl, fun i hi j hj => ?_⟩
    obtain ⟨b, hb, rfl⟩ := List.mem_map.1 hj
    simp at hi
    subst hi
    exact fun e => hn b hb e.symm⟩
structure LightIs (D : DMsg) : Prop where
  heads : D.dHeads.length ≤ 40
  want : D.dWant.length ≤ 40
  votes : D.dVotes.length ≤ 20
  nB : D.dBlocks.length ≤ 10
  nC : D.dCuts.length ≤ 6
  nE : D.dCerts.length ≤ 4
  blocks : ∀ d ∈ D.dBlocks, d.ls.length ≤ 500000 ∧ d.ds.length ≤ 500000
  cuts : ∀ d ∈ D.dCuts, d.dHeads.length ≤ 500000
  certs : ∀ d ∈ D.dCerts, d.dCut.dHeads.length ≤ 500000 ∧ d.dVotes.length ≤ 500000
end Go.Proofs.YtejjamifnombhaaGreat
end

section
namespace Go.Proofs.YtejjamifnombhaaGreat
open Go Hw
set_option linter.unusedVariables false
set_option linter.unusedSimpArgs false

set_option maxRecDepth 100000 in
set_option maxHeartbeats 1000000 in
theorem put_digest (q n c : Nat) (l d : List UInt8) (hl : l.length = n) (hd : d.length = 32) (hnc : n ≤ c) (hn : n ≤ 100000) : Meets Tryz.prog 113 [.slice (some ⟨q, 0, none⟩) n c, agg (bytesV d)] [q] (fun W => BlkOk W ⟨q, bytesV (l), 5, c * 1⟩) (fun v out => FreshRow v out (bytesV (l ++ d)) 5 (n + 32) 1) := by
  intro W hW
  refine calls_of (hp0 := [⟨q, bytesV (l), 5, c * 1⟩]) Tryz.func113 rfl 8 Tryz.ntmps113 rfl (HRep.one hW) ?_
  refine Sat.seq ?_
  -- region 0
  refine Sat.region ?_
  refine Tr.boxA rfl rfl ?_
  intro n3 hn3 hf3
  refine Tr.assign rfl rfl rfl ?_
  refine Tr.nil ?_
  refine at_n ?_
  refine Sat.seq ?_
  -- region 1
  refine Sat.region ?_
  refine Tr.move rfl rfl rfl ?_
  refine Tr.sliceArr rfl rfl rfl Tryz.underlying50 Sz5 ?_
  refine Tr.appendSl (z := u8 0) (by' := 1) (bytesV d) rfl rfl rfl rfl rfl Tryz.underlying58 Tryz.underlying58 Sz5 Zr5 (by unfold By; kernel_rfl) rfl (fun w h => SeesP.of (sees_own h (by first | exact mem0 | exact mem1 | exact mem2 | exact mem3 | exact mem4 | exact mem5 | exact mem6 | exact mem7 | (repeat (first | exact List.mem_cons_self | refine List.mem_cons_of_mem _ ?_ | refine mem_seg ?_))))) (fun e => by cases e) (bytesV_cell _) (by repeat (first | exact rem_here | apply rem_there | apply rem_seg)) rfl (by rw [bytesV, List.length_map, hl, Nat.mul_one]) hnc (by omega) (by omega) (by rw [bytesV, List.length_map, hd]) ?_
  intro q1 c1 hq1
  refine Tr.assign rfl rfl rfl ?_
  refine Tr.nil ?_
  refine at_n ?_
  refine Sat.ret ?_
  refine en_r ?_
  refine ⟨_, [⟨q1, bytesV (l ++ d), 5, c1 * 1⟩], res_tmp rfl rfl, (by intro b hb; rw [List.mem_singleton.1 hb]; simp only [bytesV, List.map_append]; exact mem0), nodup1, ⟨q1, c1, rfl, hq1, rfl⟩⟩

set_option maxRecDepth 100000 in
set_option maxHeartbeats 4000000 in
theorem put_digests (a : Option Addr) (n c : Nat) (l : List UInt8) (s : Sl) (ls : List (List UInt8)) (hl : l.length = n) (hp : a = none → n = 0) (hn : n ≤ 50000) (hs : s.n ≤ 1000) : Meets Tryz.prog 112 [.slice a n c, s.v, .func (.func 113) #[] #[]] [] (fun W => SeesP W a (bytesV l) ∧ RowsAt W s 32 ls) (fun v out => FreshRow v out (bytesV (l ++ numB (UInt64.ofNat s.n) ++ ls.flatten)) 5 (n + szN s.n + s.n * 32) 1) := by
  intro W hW
  have hz := szN_pos s.n
  have hon := ofNat_nat (n := s.n) (by omega)
  have hll := hW.2.len
  refine calls_of (hp0 := []) Tryz.func112 rfl 26 Tryz.ntmps112 rfl (HRep.nil _) ?_
  refine Sat.seq ?_
  -- region 0
  refine Sat.region ?_
  refine Tr.assign rfl rfl rfl ?_
  refine Tr.nil ?_
  refine at_n ?_
  refine Sat.seq ?_
  -- region 1
  refine Sat.region ?_
  refine Tr.move rfl rfl rfl ?_
  refine Tr.move rfl rfl rfl ?_
  refine Tr.lenSl rfl rfl rfl Tryz.underlying51 ?_
  refine Tr.conv rfl rfl rfl Tryz.underlying3 Tryz.underlying48 (cv_i64_u64 _) ?_
  rw [word_nat (n := s.n) (by omega)]
  refine Tr.call4 rfl rfl rfl rfl rfl Body111 (oct_Number a n c l (UInt64.ofNat s.n) hl hp (by omega)) (fun w h => seesP_ext h rfl hW.1) ?_
  rintro v13 out13 ⟨q1, c1, rfl, hc1, rfl⟩
  rw [hon] at hc1 ⊢
  refine Tr.assign rfl rfl rfl ?_
  refine Tr.nil ?_
  refine at_n ?_
  refine Sat.seq ?_
  refine Sat.seq ?_
  -- region 2
  refine Sat.region ?_
  refine Tr.move rfl rfl rfl ?_
  refine Tr.lenSl rfl rfl rfl Tryz.underlying51 ?_
  refine Tr.move rfl rfl rfl ?_
  refine Tr.nil ?_
  refine at_n ?_
  refine Sat.block ?_
  refine Sat.loop (ι := Nat × Nat × Nat) (fun p => ⟨[(0, .slice (some ⟨p.2.1, 0, none⟩) (n + szN s.n + p.1 * 32) p.2.2), (2, .func (.func 113) #[] #[]), (14, s.v), (15, i64 (s.n : Int)), (16, i64 (p.1 : Int))], [⟨p.2.1, bytesV (l ++ numB (UInt64.ofNat s.n) ++ (ls.take p.1).flatten), 5, p.2.2 * 1⟩]⟩) (fun p => p.1 ≤ s.n ∧ n + szN s.n + p.1 * 32 ≤ p.2.2) (fun p => s.n - p.1) ((0, q1, c1)) ?_ ?_ ?_
  · exact ⟨Nat.zero_le _, by simp only []; omega⟩
  · exact weak_of (wk1 (by simp only [Nat.zero_mul, Nat.add_zero]; rfl) (wk1 rfl (wk1 rfl (wk1 rfl (wk1 rfl wk0))))) (wh1 (by simp only [List.take_zero, List.flatten_nil, List.append_nil]; exact mem0) wh0) (by repeat (first | exact ns_nil | refine ns_keep rfl ?_ | refine ns_skip ?_))
  ·
    rintro p ⟨hp1, hp2⟩
    refine Sat.seq ?_
    -- region 3
    refine Sat.region ?_
    refine Tr.lss rfl rfl rfl rfl rfl ?_
    refine Tr.nil ?_
    refine at_n ?_
    refine Sat.seq ?_
    first
      | refine Sat.condP rfl (fun hc0 => ?_) (fun hc0 => ?_)
      | refine Sat.condNP rfl (fun hc0 => ?_) (fun hc0 => ?_)
      | refine Sat.cond rfl (fun hc0 => ?_) (fun hc0 => ?_)
    ·
      have hk2 : p.1 < s.n := by omega
      obtain ⟨b, o, hbp, hbs⟩ := hW.2.see.at (by rw [flatB_length hW.2.row]; omega)
      have hr0 : (ls.getD p.1 []).length = 32 := getD_len hW.2.row (by omega)
      refine Sat.skip ?_
      refine at_n ?_
      refine Sat.seq ?_
      refine Sat.block ?_
      refine Sat.seq ?_
      -- region 4
      refine Sat.region ?_
      refine Tr.idxSlP 32 rfl rfl rfl hbp rfl Tryz.underlying51 Sz50 p.1 rfl (by omega) ?_
      refine Tr.loadEN (bytesV (ls.getD (p.1) [])) rfl rfl rfl Tryz.underlying50 rfl Sz50 (by simp) (by rw [bytesV, List.length_map]; exact getD_len hW.2.row (by omega)) (sees_row hW.2.row hbs (by omega)) ?_
      refine Tr.alloc (cs := (bytesV (List.replicate 32 0))) rfl Zr50 rfl ?_
      intro n8 hn8 hf8
      first
        | refine Tr.storeAll rfl rfl rfl rfl (by first | exact bytesV_cell _ | simp [isCell]) Sz50 (by first | assumption | (simp [hr0]; done) | (rw [bytesV, List.length_map]; assumption)) (by first | exact mem0 | exact mem1 | exact mem2 | exact mem3 | exact mem4 | exact mem5 | exact mem6 | exact mem7 | (repeat (first | exact List.mem_cons_self | refine List.mem_cons_of_mem _ ?_ | refine mem_seg ?_))) (by first | assumption | (simp [hr0]; done) | (rw [bytesV, List.length_map]; assumption)) (by first | exact upd0 | exact upd1 | exact upd2 | exact upd3 | exact upd4 | exact upd5 | exact upd6 | exact upd7 | (repeat (first | exact upd0 | apply Upd.tail | apply Upd.seg))) ?_
        | refine Tr.storeN _ rfl rfl rfl rfl rfl (by first | exact bytesV_cell _ | simp [isCell]) Sz50 (by first | assumption | (simp [hr0]; done) | (rw [bytesV, List.length_map]; assumption)) (by first | exact mem0 | exact mem1 | exact mem2 | exact mem3 | exact mem4 | exact mem5 | exact mem6 | exact mem7 | (repeat (first | exact List.mem_cons_self | refine List.mem_cons_of_mem _ ?_ | refine mem_seg ?_))) (by first | assumption | (simp [hr0]; done) | (rw [bytesV, List.length_map]; assumption)) (by exact rfl) (by first | exact upd0 | exact upd1 | exact upd2 | exact upd3 | exact upd4 | exact upd5 | exact upd6 | exact upd7 | (repeat (first | exact upd0 | apply Upd.tail | apply Upd.seg))) ?_
      refine Tr.nil ?_
      refine at_n ?_
      -- region 5
      refine Sat.region ?_
      refine Tr.move rfl rfl rfl ?_
      refine Tr.move rfl rfl rfl ?_
      first
        | refine Tr.loadAll rfl rfl rfl Tryz.underlying50 rfl Sz50 (by first | exact mem0 | exact mem1 | exact mem2 | exact mem3 | exact mem4 | exact mem5 | exact mem6 | exact mem7 | (repeat (first | exact List.mem_cons_self | refine List.mem_cons_of_mem _ ?_ | refine mem_seg ?_))) (by first | assumption | (simp [hr0]; done) | (rw [bytesV, List.length_map]; assumption)) ?_
        | refine Tr.loadN _ rfl rfl rfl Tryz.underlying50 rfl Sz50 (by first | exact mem0 | exact mem1 | exact mem2 | exact mem3 | exact mem4 | exact mem5 | exact mem6 | exact mem7 | (repeat (first | exact List.mem_cons_self | refine List.mem_cons_of_mem _ ?_ | refine mem_seg ?_))) (by exact rfl) (by first | assumption | (simp [hr0]; done) | (rw [bytesV, List.length_map]; assumption)) ?_
      refine Tr.callL (L := [⟨p.2.1, bytesV (l ++ numB (UInt64.ofNat s.n) ++ (ls.take p.1).flatten), 5, p.2.2 * 1⟩]) rfl rfl rfl rfl rfl Body113 (put_digest p.2.1 (n + szN s.n + p.1 * 32) p.2.2 (l ++ numB (UInt64.ofNat s.n) ++ (ls.take p.1).flatten) (ls.getD p.1 []) (by simp only [List.length_append, numB_length, hon, hl, flatten_take_len hW.2.row (show p.1 ≤ ls.length by omega)]) hr0 hp2 (by omega)) (by repeat (first | exact rem_here | apply rem_there | apply rem_seg)) (by intro m hm; exact ⟨_, List.mem_singleton.2 rfl, (List.mem_singleton.1 hm).symm⟩) (fun w h => own_blk h (by first | exact mem0 | exact mem1 | exact mem2 | exact mem3 | exact mem4 | exact mem5 | exact mem6 | exact mem7 | (repeat (first | exact List.mem_cons_self | refine List.mem_cons_of_mem _ ?_ | refine mem_seg ?_)))) ?_
      rintro v23 out23 ⟨q2, c2, rfl, hq2, rfl⟩
      refine Tr.assign rfl rfl rfl ?_
      refine Tr.nil ?_
      refine bl_n ?_
      refine at_n ?_
      -- region 6
      refine Sat.region ?_
      refine Tr.add_i64 rfl rfl rfl rfl (by omega) ?_
      refine Tr.move rfl rfl rfl ?_
      refine Tr.nil ?_
      refine at_n ?_
      exact ⟨(p.1 + 1, q2, c2), ⟨by simp only []; omega, by simp only []; omega⟩, by simp only []; omega, weak_of (wk1 (by rw [show n + szN s.n + (p.1 + 1) * 32 = n + szN s.n + p.1 * 32 + 32 by omega]; rfl) (wk1 rfl (wk1 rfl (wk1 rfl (wk1 rfl wk0))))) (wh1 (by rw [flatten_take_step (show p.1 < ls.length by omega), ← List.append_assoc]; exact mem0) wh0) (by repeat (first | exact ns_nil | refine ns_keep rfl ?_ | refine ns_skip ?_))⟩
    ·
      have hpe : p.1 = s.n := by omega
      refine Sat.exit ?_
      refine at_x ?_
      refine at_x ?_
      refine bl_h ?_
      refine at_n ?_
      refine Sat.seq ?_
      -- region 7
      refine Sat.region ?_
      refine Tr.move rfl rfl rfl ?_
      refine Tr.assign rfl rfl rfl ?_
      refine Tr.nil ?_
      refine at_n ?_
      refine Sat.ret ?_
      refine en_r ?_
      refine ⟨_, [⟨p.2.1, bytesV (l ++ numB (UInt64.ofNat s.n) ++ ls.flatten), 5, p.2.2 * 1⟩], res_tmp rfl rfl, (by intro b hb; rw [List.mem_singleton.1 hb, show ls.flatten = (ls.take p.1).flatten by rw [List.take_of_length_le (by omega)]]; exact mem0), nodup1, ⟨p.2.1, p.2.2, by rw [hpe], by omega, rfl⟩⟩


def mz (k : Int) (h : UInt64) : Msg := ⟨k, h, Sl.nil, Sl.nil, Sl.nil, Sl.nil, Sl.nil, Sl.nil⟩
def dz (k : Int) (h : UInt64) : DMsg := ⟨k, h, [], [], [], [], [], []⟩
theorem rows_none {W : World} {m : Nat} : RowsAt W Sl.nil m [] := ⟨rfl, fun l h => (by cases h), Nat.le_refl _, SeesP.nil, by decide, fun _ => rfl⟩
theorem mz_is {W : World} (k : Int) (h : UInt64) (hk : (Lit.int .i64 k).wf = true) : MsgIs W (mz k h) (dz k h) :=
  ⟨⟨trivial⟩, rfl, hk, rfl, rows_none, rows_none, ⟨[], SeqIs.none⟩, ⟨[], SeqIs.none⟩, ⟨[], SeqIs.none⟩, ⟨[], SeqIs.none⟩⟩
theorem mz_hello : (dz 1 3).check = 0 := msg_good (by unfold DMsg.bad; decide)
theorem mz_blocks : (dz 3 0).check = 2 := msg_bad (by unfold DMsg.bad; decide)
/-- the bytes of a message of kind 1 -/
def helloB (D : DMsg) : List UInt8 := [1] ++ numB D.dHeight ++ numB (UInt64.ofNat D.dHeads.length) ++ D.dHeads.flatten
theorem hello_ex : helloB (dz 1 3) = [1, 3, 0] := by kernel_rfl


set_option maxRecDepth 100000 in
set_option maxHeartbeats 4000000 in
theorem bytes_hello (m : Msg) (D : DMsg) (hk : D.dKind = 1) (hc : D.check = 0) (hh : D.dHeads.length ≤ 40) : Meets Tryz.prog 31 [agg m.cells] [] (fun W => MsgIs W m D) (fun v out => ∃ q c, v = .tuple #[.slice (some ⟨q, 0, none⟩) (helloB D).length c, i64 0] ∧ (helloB D).length ≤ c ∧ out = [⟨q, bytesV (helloB D), 5, c * 1⟩]) := by
  intro W hW
  have hok := hW.ok
  have hkm : m.fKind = 1 := hW.fKind.trans hk
  have hpk : partsI m.fKind = 3 := by rw [hkm]; rfl
  have hhl := hW.fHeads.len
  have hz1 := szN_pos m.fHeight.toNat
  have hz2 := szN_pos m.fHeads.n
  have hbk : Hw.byteOf m.fKind = 1 := by rw [hkm]; rfl
  refine calls_of (hp0 := []) Tryz.func31 rfl 73 Tryz.ntmps31 rfl (HRep.nil _) ?_
  refine Sat.seq ?_
  -- region 0
  refine Sat.region ?_
  refine Tr.boxA rfl rfl ?_
  intro n1 hn1 hf1
  refine Tr.assign rfl rfl rfl ?_
  refine Tr.assign rfl rfl rfl ?_
  refine Tr.nil ?_
  refine at_n ?_
  refine Sat.seq ?_
  refine Sat.seq ?_
  -- region 1
  refine Sat.region ?_
  refine Tr.loadAll rfl rfl rfl Tryz.underlying57 rfl Sz57 (by first | exact mem0 | exact mem1 | exact mem2 | exact mem3 | exact mem4 | exact mem5 | exact mem6 | exact mem7 | (repeat (first | exact List.mem_cons_self | refine List.mem_cons_of_mem _ ?_ | refine mem_seg ?_))) (Msg.length (by first | assumption | (simp; done) | exact Block.zero_ok | exact Vote.zero_ok | exact Reader.zero_ok | exact Cut.zero_ok | exact Cert.zero_ok | exact Msg.zero_ok | exact Inbox.zero_ok | exact Record.zero_ok | exact Kept.zero_ok  | exact hok)) ?_
  refine Tr.callV rfl rfl rfl rfl Body37 (msg_check m D) (fun w h => hW.ext h rfl) ?_
  refine Tr.assign rfl rfl rfl ?_
  refine Tr.nil ?_
  refine at_n ?_
  refine Sat.seq ?_
  -- region 2
  refine Sat.region ?_
  refine Tr.move rfl rfl rfl ?_
  refine Tr.nei rfl rfl rfl rfl (show (!decide _) = false from congrArg not (decide_eq_true (hc))) ?_
  refine Tr.nil ?_
  refine at_n ?_
  refine Sat.cond_f rfl (rfl) ?_
  refine Sat.skip ?_
  refine at_n ?_
  refine Sat.seq ?_
  -- region 4
  refine Sat.region ?_
  refine Tr.fld rfl rfl rfl Tryz.underlying57 rfl Sz3 (by decide) _ rfl ?_
  refine Tr.load1 rfl rfl rfl Tryz.underlying3 rfl (by first | exact mem0 | exact mem1 | exact mem2 | exact mem3 | exact mem4 | exact mem5 | exact mem6 | exact mem7 | (repeat (first | exact List.mem_cons_self | refine List.mem_cons_of_mem _ ?_ | refine mem_seg ?_))) (by first | exact Msg.get_fKind (by first | assumption | (simp; done) | exact Block.zero_ok | exact Vote.zero_ok | exact Reader.zero_ok | exact Cut.zero_ok | exact Cert.zero_ok | exact Msg.zero_ok | exact Inbox.zero_ok | exact Record.zero_ok | exact Kept.zero_ok  | exact hok) | exact (by first | rfl | exact get_words (by first | omega | (simp; done) | (simp; omega)) | exact get_bytes (by first | omega | (simp; done) | (simp; omega)) | exact get_ints (by first | omega | (simp; done) | (simp; omega)))) ?_
  refine Tr.callV rfl rfl rfl rfl Body98 ((show Meets _ _ _ _ _ (fun v out => v = i64 3 ∧ out = []) from by have h := sync_parts m.fKind; rwa [hpk] at h)) (fun _ _ => trivial) ?_
  refine Tr.assign rfl rfl rfl ?_
  refine Tr.nil ?_
  refine at_n ?_
  refine Sat.seq ?_
  -- region 5
  refine Sat.region ?_
  refine Tr.fld rfl rfl rfl Tryz.underlying57 rfl Sz3 (by decide) _ rfl ?_
  refine Tr.load1 rfl rfl rfl Tryz.underlying3 rfl (by first | exact mem0 | exact mem1 | exact mem2 | exact mem3 | exact mem4 | exact mem5 | exact mem6 | exact mem7 | (repeat (first | exact List.mem_cons_self | refine List.mem_cons_of_mem _ ?_ | refine mem_seg ?_))) (by first | exact Msg.get_fKind (by first | assumption | (simp; done) | exact Block.zero_ok | exact Vote.zero_ok | exact Reader.zero_ok | exact Cut.zero_ok | exact Cert.zero_ok | exact Msg.zero_ok | exact Inbox.zero_ok | exact Record.zero_ok | exact Kept.zero_ok  | exact hok) | exact (by first | rfl | exact get_words (by first | omega | (simp; done) | (simp; omega)) | exact get_bytes (by first | omega | (simp; done) | (simp; omega)) | exact get_ints (by first | omega | (simp; done) | (simp; omega)))) ?_
  refine Tr.conv rfl rfl rfl Tryz.underlying3 Tryz.underlying5 (cv_i64_u8 _) ?_
  rw [hbk]
  refine Tr.mkRow (z := u8 0) [u8 1] (bytesV [1]) rfl rfl rfl Tryz.underlying58 Sz5 Zr5 rfl rfl (by intro v hv; rw [List.mem_singleton.1 hv]; rfl) (by decide) rfl ?_
  intro q18
  refine Tr.assign rfl rfl rfl ?_
  refine Tr.nil ?_
  refine at_n ?_
  refine Sat.seq ?_
  refine Sat.seq ?_
  -- region 6
  refine Sat.region ?_
  refine Tr.move rfl rfl rfl ?_
  refine Tr.and_i64 rfl rfl rfl rfl ?_
  refine Tr.nei rfl rfl rfl rfl (show (!decide _) = true from congrArg not (decide_eq_false (by decide))) ?_
  refine Tr.nil ?_
  refine at_n ?_
  refine Sat.cond_t rfl (rfl) ?_
  -- region 7
  refine Sat.region ?_
  refine Tr.move rfl rfl rfl ?_
  refine Tr.fld rfl rfl rfl Tryz.underlying57 rfl Sz48 (by decide) _ rfl ?_
  refine Tr.load1 rfl rfl rfl Tryz.underlying48 rfl (by first | exact mem0 | exact mem1 | exact mem2 | exact mem3 | exact mem4 | exact mem5 | exact mem6 | exact mem7 | (repeat (first | exact List.mem_cons_self | refine List.mem_cons_of_mem _ ?_ | refine mem_seg ?_))) (by first | exact Msg.get_fHeight (by first | assumption | (simp; done) | exact Block.zero_ok | exact Vote.zero_ok | exact Reader.zero_ok | exact Cut.zero_ok | exact Cert.zero_ok | exact Msg.zero_ok | exact Inbox.zero_ok | exact Record.zero_ok | exact Kept.zero_ok  | exact hok) | exact (by first | rfl | exact get_words (by first | omega | (simp; done) | (simp; omega)) | exact get_bytes (by first | omega | (simp; done) | (simp; omega)) | exact get_ints (by first | omega | (simp; done) | (simp; omega)))) ?_
  refine Tr.call4 rfl rfl rfl rfl rfl Body111 (oct_Number (some ⟨q18, 0, none⟩) 1 1 [1] m.fHeight rfl (fun e => by cases e) (by decide)) (fun w h => SeesP.of (sees_own h (by first | exact mem0 | exact mem1 | exact mem2 | exact mem3 | exact mem4 | exact mem5 | exact mem6 | exact mem7 | (repeat (first | exact List.mem_cons_self | refine List.mem_cons_of_mem _ ?_ | refine mem_seg ?_))))) ?_
  rintro v25 out25 ⟨q25, c25, rfl, hc25, rfl⟩
  refine Tr.assign rfl rfl rfl ?_
  refine Tr.nil ?_
  refine at_n ?_
  refine Sat.seq ?_
  refine Sat.seq ?_
  -- region 8
  refine Sat.region ?_
  refine Tr.move rfl rfl rfl ?_
  refine Tr.and_i64 rfl rfl rfl rfl ?_
  refine Tr.nei rfl rfl rfl rfl (show (!decide _) = true from congrArg not (decide_eq_false (by decide))) ?_
  refine Tr.nil ?_
  refine at_n ?_
  refine Sat.cond_t rfl (rfl) ?_
  -- region 9
  refine Sat.region ?_
  refine Tr.move rfl rfl rfl ?_
  refine Tr.fld rfl rfl rfl Tryz.underlying57 rfl Sz51 (by decide) _ rfl ?_
  refine Tr.load1 rfl rfl rfl Tryz.underlying51 rfl (by first | exact mem0 | exact mem1 | exact mem2 | exact mem3 | exact mem4 | exact mem5 | exact mem6 | exact mem7 | (repeat (first | exact List.mem_cons_self | refine List.mem_cons_of_mem _ ?_ | refine mem_seg ?_))) (by first | exact Msg.get_fHeads (by first | assumption | (simp; done) | exact Block.zero_ok | exact Vote.zero_ok | exact Reader.zero_ok | exact Cut.zero_ok | exact Cert.zero_ok | exact Msg.zero_ok | exact Inbox.zero_ok | exact Record.zero_ok | exact Kept.zero_ok  | exact hok) | exact (by first | rfl | exact get_words (by first | omega | (simp; done) | (simp; omega)) | exact get_bytes (by first | omega | (simp; done) | (simp; omega)) | exact get_ints (by first | omega | (simp; done) | (simp; omega)))) ?_
  refine Tr.call4 rfl rfl rfl rfl rfl Body112 (put_digests (some ⟨q25, 0, none⟩) (1 + szN m.fHeight.toNat) c25 ([1] ++ numB m.fHeight) m.fHeads D.dHeads (by simp [numB_length]; omega) (fun e => by cases e) (by omega) (by omega)) (fun w h => ⟨SeesP.of (sees_own h (by first | exact mem0 | exact mem1 | exact mem2 | exact mem3 | exact mem4 | exact mem5 | exact mem6 | exact mem7 | (repeat (first | exact List.mem_cons_self | refine List.mem_cons_of_mem _ ?_ | refine mem_seg ?_)))), rows_ext h rfl hW.fHeads⟩) ?_
  rintro v32 out32 ⟨q32, c32, rfl, hc32, rfl⟩
  refine Tr.assign rfl rfl rfl ?_
  refine Tr.nil ?_
  refine at_n ?_
  refine Sat.seq ?_
  refine Sat.seq ?_
  -- region 10
  refine Sat.region ?_
  refine Tr.move rfl rfl rfl ?_
  refine Tr.and_i64 rfl rfl rfl rfl ?_
  refine Tr.nei rfl rfl rfl rfl (show (!decide _) = false from congrArg not (decide_eq_true (by decide))) ?_
  refine Tr.nil ?_
  refine at_n ?_
  refine Sat.cond_f rfl (rfl) ?_
  refine Sat.skip ?_
  refine at_n ?_
  refine Sat.seq ?_
  refine Sat.seq ?_
  -- region 12
  refine Sat.region ?_
  refine Tr.move rfl rfl rfl ?_
  refine Tr.and_i64 rfl rfl rfl rfl ?_
  refine Tr.nei rfl rfl rfl rfl (show (!decide _) = false from congrArg not (decide_eq_true (by decide))) ?_
  refine Tr.nil ?_
  refine at_n ?_
  refine Sat.cond_f rfl (rfl) ?_
  refine Sat.skip ?_
  refine at_n ?_
  refine Sat.seq ?_
  refine Sat.seq ?_
  -- region 14
  refine Sat.region ?_
  refine Tr.move rfl rfl rfl ?_
  refine Tr.and_i64 rfl rfl rfl rfl ?_
  refine Tr.nei rfl rfl rfl rfl (show (!decide _) = false from congrArg not (decide_eq_true (by decide))) ?_
  refine Tr.nil ?_
  refine at_n ?_
  refine Sat.cond_f rfl (rfl) ?_
  refine Sat.skip ?_
  refine at_n ?_
  refine Sat.seq ?_
  refine Sat.seq ?_
  -- region 16
  refine Sat.region ?_
  refine Tr.move rfl rfl rfl ?_
  refine Tr.and_i64 rfl rfl rfl rfl ?_
  refine Tr.nei rfl rfl rfl rfl (show (!decide _) = false from congrArg not (decide_eq_true (by decide))) ?_
  refine Tr.nil ?_
  refine at_n ?_
  refine Sat.cond_f rfl (rfl) ?_
  refine Sat.skip ?_
  refine at_n ?_
  refine Sat.seq ?_
  refine Sat.seq ?_
  -- region 18
  refine Sat.region ?_
  refine Tr.move rfl rfl rfl ?_
  refine Tr.and_i64 rfl rfl rfl rfl ?_
  refine Tr.nei rfl rfl rfl rfl (show (!decide _) = false from congrArg not (decide_eq_true (by decide))) ?_
  refine Tr.nil ?_
  refine at_n ?_
  refine Sat.cond_f rfl (rfl) ?_
  refine Sat.skip ?_
  refine at_n ?_
  refine Sat.seq ?_
  -- region 20
  refine Sat.region ?_
  refine Tr.move rfl rfl rfl ?_
  refine Tr.assign rfl rfl rfl ?_
  refine Tr.assign rfl rfl rfl ?_
  refine Tr.nil ?_
  refine at_n ?_
  refine Sat.ret ?_
  refine en_r ?_
  have hN : (helloB D).length = 1 + szN m.fHeight.toNat + szN m.fHeads.n + m.fHeads.n * 32 := by
    have hfl := flatten_take_len hW.fHeads.row (Nat.le_refl D.dHeads.length)
    rw [List.take_length] at hfl
    simp only [helloB, List.length_append, numB_length, hfl, ← hW.fHeight, hhl, ofNat_nat (n := m.fHeads.n) (by omega), List.length_cons, List.length_nil]
  have hE : [1] ++ numB m.fHeight ++ numB (UInt64.ofNat m.fHeads.n) ++ D.dHeads.flatten = helloB D := by rw [helloB, hW.fHeight, hhl]
  refine ⟨_, [⟨q32, bytesV (helloB D), 5, c32 * 1⟩], res_tmp2 rfl rfl rfl, (by intro b hb; rw [List.mem_singleton.1 hb, ← hE]; exact mem0), nodup1, ⟨q32, c32, by rw [hN], by rw [hN]; exact hc32, rfl⟩⟩

set_option maxRecDepth 100000 in
set_option maxHeartbeats 4000000 in
theorem law25_lives  : Meets Tryz.prog 26 [] [] (fun _ => True) (fun v out => v = .bool true ∧ out = []) := by
  intro W hW
  refine calls_of (hp0 := []) Tryz.func26 rfl 20 Tryz.ntmps26 rfl (HRep.nil _) ?_
  refine Sat.seq ?_
  -- region 0
  refine Sat.region ?_
  refine Tr.assign rfl rfl rfl ?_
  refine Tr.nil ?_
  refine at_n ?_
  refine Sat.seq ?_
  -- region 1
  refine Sat.region ?_
  refine Tr.build (cs := (mz 1 3).cells) rfl rfl rfl (fun w => by kernel_rfl) ?_
  refine Tr.call4 rfl rfl rfl rfl rfl Body31 (bytes_hello (mz 1 3) (dz 1 3) rfl mz_hello (by decide)) (fun w h => mz_is 1 3 rfl) ?_
  rintro v5 out5 ⟨q5, c5, rfl, hc5, rfl⟩
  refine Tr.move rfl rfl rfl ?_
  refine Tr.extract rfl rfl rfl rfl ?_
  refine Tr.extract rfl rfl rfl rfl ?_
  refine Tr.assign rfl rfl rfl ?_
  refine Tr.assign rfl rfl rfl ?_
  refine Tr.nil ?_
  refine at_n ?_
  refine Sat.seq ?_
  -- region 2
  refine Sat.region ?_
  refine Tr.move rfl rfl rfl ?_
  refine Tr.eqi rfl rfl rfl rfl (decide_eq_true (rfl)) ?_
  refine Tr.move rfl rfl rfl ?_
  refine Tr.move rfl rfl rfl ?_
  refine Tr.toStr rfl rfl rfl Tryz.underlying58 Tryz.underlying5 Tryz.underlying9 (fun w h => SeesP.of (sees_own h (by first | exact mem0 | exact mem1 | exact mem2 | exact mem3 | exact mem4 | exact mem5 | exact mem6 | exact mem7 | (repeat (first | exact List.mem_cons_self | refine List.mem_cons_of_mem _ ?_ | refine mem_seg ?_))))) rfl ?_
  refine Tr.eql_str rfl rfl rfl rfl (decide_eq_true (hello_ex)) ?_
  refine Tr.pick rfl rfl rfl rfl rfl rfl ?_
  refine Tr.move rfl rfl rfl ?_
  refine Tr.build (cs := (mz 3 0).cells) rfl rfl rfl (fun w => by kernel_rfl) ?_
  refine Tr.callV rfl rfl rfl rfl Body37 (msg_check (mz 3 0) (dz 3 0)) (fun w h => mz_is 3 0 rfl) ?_
  refine Tr.eqi rfl rfl rfl rfl (decide_eq_true (by rw [mz_blocks])) ?_
  refine Tr.pick rfl rfl rfl rfl rfl rfl ?_
  refine Tr.assign rfl rfl rfl ?_
  refine Tr.nil ?_
  refine at_n ?_
  refine Sat.ret ?_
  refine en_r ?_
  refine ⟨_, [], res_tmp rfl rfl, (by simp), (by simp), ?_, rfl⟩
  rfl

end Go.Proofs.YtejjamifnombhaaGreat
end

section
namespace Hw
open Go Go.RowKit
set_option linter.unusedSimpArgs false
set_option linter.unusedVariables false
section
variable {C : Cx} {fn : Func} {s : St}
theorem res_tmp_cell_tmp {t0 t t2 : Tmp} {T : TypeId} {td : TypeDesc} {n b : Nat} {cs : List Value} {BT : TypeId} {m : Nat} {v0 v2 : Value} (hr : fn.results = #[.tmp t0, .cell t T, .tmp t2]) (hv0 : look s.sl t0 = some v0) (hv : look s.sl t = some (ptr b 0)) (hv2 : look s.sl t2 = some v2) (hu : C.P.underlying T = some td) (hp' : plainDesc td = false) (hs : Sz C.P T n) (hb : (⟨b, cs, BT, m⟩ : Blk) ∈ s.hp) (hn : cs.length = n) :
    Res C fn s (.tuple #[v0, agg cs, v2]) := by
  intro a w r
  have h0 := r.rs.slots t0 _ hv0
  have h1 := r.rs.slots t _ hv
  have h2 := r.rs.slots t2 _ hv2
  simp [results, hr, h0, h1, h2, asAddr, run_cellAll r.rh hu hp' hs hb hn]
end

/-- a row of one's own, from some place of its block on -/
def AccO (s : Sl) (bl : List Blk) (cells : List Value) (E : TypeId) (n : Nat) : Prop :=
  (s = Sl.nil ∧ bl = [] ∧ cells = [] ∧ n = 0) ∨ ∃ q o c m pre post, s = ⟨some ⟨q, o, none⟩, n, c⟩ ∧ n ≤ c ∧ cells.length = n ∧ pre.length = o ∧ (post = [] ∨ n = c) ∧ o + c ≤ m ∧ bl = [⟨q, pre ++ cells ++ post, E, m⟩]
section
variable {s : Sl} {bl : List Blk} {cells : List Value} {E : TypeId} {n : Nat}
theorem AccO.none : AccO Sl.nil [] [] E 0 := .inl ⟨rfl, rfl, rfl, rfl⟩
theorem AccO.num (h : AccO s bl cells E n) : s.n = n := by rcases h with ⟨rfl, _, _, rfl⟩ | ⟨q, o, c, m, pre, post, rfl, _⟩ <;> rfl
theorem AccO.len (h : AccO s bl cells E n) : cells.length = n := by rcases h with ⟨_, _, rfl, rfl⟩ | ⟨q, o, c, m, pre, post, _, _, h, _⟩; rfl; exact h
theorem AccO.cap (h : AccO s bl cells E n) : s.n ≤ s.c := by rcases h with ⟨rfl, _⟩ | ⟨q, o, c, m, pre, post, rfl, h, _⟩; exact Nat.le_refl _; exact h
theorem AccO.nilc (h : AccO s bl cells E n) (hp : s.p = .none) : s.c = 0 := by rcases h with ⟨rfl, _⟩ | ⟨q, o, c, m, pre, post, rfl, _⟩; rfl; cases hp
theorem AccO.see (h : AccO s bl cells E n) {w : World} (hw : Lies bl w) : SeesP w s.p cells := by
  rcases h with ⟨_, _, rfl, _⟩ | ⟨q, o, c, m, pre, post, rfl, _, h3, h4, _, _, rfl⟩
  · exact SeesP.nil
  · refine SeesP.of fun j v hj => ?_
    refine (hw _ (List.mem_singleton.2 rfl)).cell (o := o + j) (v := v) ?_
    show (pre ++ cells ++ post)[o + j]? = some v
    have hlt := (List.getElem?_eq_some_iff.1 hj).1
    rw [List.append_assoc, List.getElem?_append_right (by omega), h4, Nat.add_sub_cancel_left, List.getElem?_append_left hlt]
    exact hj
theorem AccO.pos (h : AccO s bl cells E n) (hn : 0 < n) : ∃ q o c m pre post, s = ⟨some ⟨q, o, .none⟩, n, c⟩ ∧ n ≤ c ∧ cells.length = n ∧ pre.length = o ∧ (post = [] ∨ n = c) ∧ o + c ≤ m ∧ bl = [⟨q, pre ++ cells ++ post, E, m⟩] := by
  rcases h with ⟨_, _, _, rfl⟩ | h
  · exact absurd hn (by decide)
  · exact h
/-- without the first -/
theorem AccO.cut {q o c m : Nat} {pre post : List Value} {x : Value} {l : List Value} (hc : n + 1 ≤ c) (hl : l.length = n) (hp : pre.length = o) (hpo : post = [] ∨ n + 1 = c) (hm : o + c ≤ m) : AccO ⟨some ⟨q, if c = 1 then o else o + 1 * 1, .none⟩, n + 1 - 1, c - 1⟩ [⟨q, pre ++ (x :: l) ++ post, E, m⟩] l E n := by
  by_cases e : c = 1
  · obtain rfl : n = 0 := by omega
    obtain rfl : l = [] := List.eq_nil_of_length_eq_zero hl
    subst e
    rw [if_pos rfl]
    exact .inr ⟨q, o, 0, m, pre, x :: post, rfl, Nat.le_refl _, rfl, hp, .inr rfl, by omega, by simp⟩
  · rw [if_neg e]
    exact .inr ⟨q, o + 1, c - 1, m, pre ++ [x], post, by simp, by omega, hl, by simp [hp], hpo.imp_right (fun h => by omega), by omega, by simp⟩
theorem Acc.off {c : Nat} (h : Acc s bl cells E n 1) : AccO s bl cells E n := by
  rcases h with ⟨rfl, rfl, rfl, rfl⟩ | ⟨q, c, rfl, h1, h2, rfl⟩
  · exact .inl ⟨rfl, rfl, rfl, rfl⟩
  · exact .inr ⟨q, 0, c, c * 1, [], [], rfl, h1, by omega, rfl, .inl rfl, by omega, by simp⟩
end
section
variable {C : Cx} {ops : Array Oper} {rest : List (Nat × Oper)} {sl : List (Nat × Value)} {hp hp' : List Blk} {Q : St → Prop} {c d : Nat} {ty : TypeId} {pos : String} {af : Array Edge} {g : Option (Nat × Bool)}
end
end Hw
end

section
namespace Go.Proofs.YtejjamifnombhaaGreat
open Go Hw
set_option linter.unusedVariables false
set_option linter.unusedSimpArgs false


abbrev LC : Sl → List Value := fun x => [Sl.v x]
theorem loose_lies {R : Value → List Blk → Prop} (h : ∃ v, ∀ n, R v [⟨n, [undef], 0, 0⟩]) : Loose R := fun l hl => by
  obtain ⟨v, h⟩ := h
  obtain ⟨n, _, hn⟩ := fresh_is 0 l
  refine ⟨v, _, h n, ?_⟩
  rw [List.map_append, List.nodup_append]
  refine ⟨by simp, hl, fun i hi j hj => ?_⟩
  obtain ⟨b, hb, rfl⟩ := List.mem_map.1 hj
  simp at hi
  subst hi
  exact fun e => hn b hb e.symm
theorem OwnSeq.made {R D : Type} {cells : R → List Value} {k : Nat} {Is : World → R → D → Prop} {E : TypeId} (q c : Nat) : OwnSeq cells k Is E ⟨some ⟨q, 0, none⟩, 0, c⟩ [⟨q, [], E, c * k⟩] [] [] [] 0 :=
  ⟨Acc.some (Nat.zero_le _) (by simp), rfl, rfl, fun r h => (by cases h), fun W2 _ i r d h => (by simp at h)⟩


set_option maxRecDepth 100000 in
set_option maxHeartbeats 1000000 in
theorem bclone_nil  : Meets Tryz.prog 141 [.slice none 0 0] [] (fun _ => True) (fun v out => v = .slice none 0 0 ∧ out = []) := by
  intro W hW
  refine calls_of (hp0 := []) Tryz.func141 rfl 8 Tryz.ntmps141 rfl (HRep.nil _) ?_
  refine Sat.seq ?_
  -- region 0
  refine Sat.region ?_
  refine Tr.assign rfl rfl rfl ?_
  refine Tr.nil ?_
  refine at_n ?_
  refine Sat.seq ?_
  refine Sat.seq ?_
  -- region 1
  refine Sat.region ?_
  refine Tr.move rfl rfl rfl ?_
  refine Tr.eqNilS (r := true) rfl rfl rfl rfl Tryz.underlying58 rfl ?_
  refine Tr.nil ?_
  refine at_n ?_
  refine Sat.cond_t rfl (rfl) ?_
  refine Sat.seq ?_
  -- region 2
  refine Sat.region ?_
  refine Tr.assign rfl rfl rfl ?_
  refine Tr.nil ?_
  refine at_n ?_
  refine Sat.ret ?_
  refine at_r ?_
  refine en_r ?_
  refine ⟨_, [], res_tmp rfl rfl, (by simp), (by simp), ?_, rfl⟩
  rfl

set_option maxRecDepth 100000 in
set_option maxHeartbeats 1000000 in
theorem bclone_some (a : Addr) (n c : Nat) (l : List UInt8) (hl : l.length = n) (hn : n ≤ 90000) : Meets Tryz.prog 141 [.slice (some a) n c] [] (fun W => SeesP W (some a) (bytesV l)) (fun v out => FreshRow v out (bytesV l) 5 n 1) := by
  intro W hW
  refine calls_of (hp0 := []) Tryz.func141 rfl 8 Tryz.ntmps141 rfl (HRep.nil _) ?_
  refine Sat.seq ?_
  -- region 0
  refine Sat.region ?_
  refine Tr.assign rfl rfl rfl ?_
  refine Tr.nil ?_
  refine at_n ?_
  refine Sat.seq ?_
  refine Sat.seq ?_
  -- region 1
  refine Sat.region ?_
  refine Tr.move rfl rfl rfl ?_
  refine Tr.eqNilS (r := false) rfl rfl rfl rfl Tryz.underlying58 rfl ?_
  refine Tr.nil ?_
  refine at_n ?_
  refine Sat.cond_f rfl (rfl) ?_
  refine Sat.skip ?_
  refine at_n ?_
  refine Sat.seq ?_
  -- region 3
  refine Sat.region ?_
  refine Tr.mkRow (z := u8 0) [] [] rfl rfl rfl Tryz.underlying58 Sz5 Zr5 rfl rfl (by intro v hv; cases hv) (by decide) rfl ?_
  intro q0
  refine Tr.move rfl rfl rfl ?_
  refine Tr.appendSl (z := u8 0) (by' := 1) (bytesV l) rfl rfl rfl rfl rfl Tryz.underlying58 Tryz.underlying58 Sz5 Zr5 (by unfold By; kernel_rfl) rfl (fun w h => seesP_ext h rfl hW) (fun e => by cases e) (by simp [bytesV, isCell, u8]) rem_here rfl rfl (by omega) (by omega) (by omega) (by simp [bytesV, hl]) ?_
  intro q1 c1 hq1
  refine Tr.assign rfl rfl rfl ?_
  refine Tr.nil ?_
  refine at_n ?_
  refine Sat.ret ?_
  refine en_r ?_
  refine ⟨_, [⟨q1, [] ++ bytesV l, 5, c1 * 1⟩], res_tmp rfl rfl, (by intro b hb; rw [List.mem_singleton.1 hb]; exact mem0), nodup1, ⟨q1, c1, by rw [Nat.zero_add], by omega, rfl⟩⟩


theorem bclone (s : Sl) (l : List UInt8) (hn : s.n ≤ 90000) : Meets Tryz.prog 141 [s.v] [] (fun W => BytesAt W s l) (fun v out => ∃ s' : Sl, v = s'.v ∧ Acc s' out (bytesV l) 5 s.n 1) := by
  intro W hW
  obtain ⟨p, n, c⟩ := s
  cases p with
  | none =>
    obtain rfl : c = 0 := hW.nil rfl
    have h1 : n ≤ 0 := hW.cap
    obtain rfl : n = 0 := by omega
    have h2 : l = [] := List.eq_nil_of_length_eq_zero hW.len
    subst h2
    exact (bclone_nil W trivial).mono fun e W' ⟨v, out, h1, ⟨h2, h3⟩, h4⟩ => ⟨v, out, h1, ⟨Sl.nil, h2, by subst h3; exact Acc.none⟩, h4⟩
  | some a => exact (bclone_some a n c l hW.len hn W hW.see).mono fun e W' ⟨v, out, h1, ⟨q, c', h2, h3, h5⟩, h4⟩ => ⟨v, out, h1, ⟨⟨some ⟨q, 0, none⟩, n, c'⟩, h2, by subst h5; exact Acc.some h3 (by rw [bytesV, List.length_map, hW.len, Nat.mul_one])⟩, h4⟩



theorem pm_in0 {hp l R : List Blk} {x : Blk} (h : hp.Perm ((x :: l) ++ R)) : hp.Perm (([x] ++ l) ++ R) := h
theorem pm_inS {hp l R X Y : List Blk} (h : hp.Perm ((X ++ (Y ++ l)) ++ R)) : hp.Perm (((X ++ Y) ++ l) ++ R) := by rwa [List.append_assoc X Y l]
def longB (d : List UInt8) : Bool := decide ((16384 : Int) < (d.length : Int))
def goodI (ds : List (List UInt8)) : Bool := decide ((ds.length : Int) ≤ 64) && !(ds.any longB)


set_option maxRecDepth 100000 in
set_option maxHeartbeats 4000000 in
theorem sync_copies (s : Sl) (ds : List (List UInt8)) (hn : s.n ≤ 1000) (hsm : ∀ d ∈ ds, d.length ≤ 90000) : Meets Tryz.prog 140 [s.v] [] (fun W => ListsAt W s ds) (fun v out => ∃ sl bl bl2 rs, v = sl.v ∧ out = bl ++ bl2 ∧ OwnSeq LC 1 BytesAt 58 sl bl bl2 rs ds s.n) := by
  intro W hW
  obtain ⟨rs, hs⟩ := hW
  have hnd := hs.nd
  refine calls_of (hp0 := []) Tryz.func140 rfl 23 Tryz.ntmps140 rfl (HRep.nil _) ?_
  refine Sat.seq ?_
  -- region 0
  refine Sat.region ?_
  refine Tr.assign rfl rfl rfl ?_
  refine Tr.nil ?_
  refine at_n ?_
  refine Sat.seq ?_
  -- region 1
  refine Sat.region ?_
  refine Tr.move rfl rfl rfl ?_
  refine Tr.lenSl rfl rfl rfl Tryz.underlying91 ?_
  refine Tr.add_i64 rfl rfl rfl rfl (by omega) ?_
  refine Tr.mkRoom (z := .slice none 0 0) (by' := 24) (s.n + 1) rfl rfl rfl rfl (by omega) Tryz.underlying91 Sz58 Zr58 (by unfold By; kernel_rfl) rfl (by omega) (by omega) ?_
  intro q9
  rw [show (⟨q9, [], 58, s.n + 1⟩ : Blk) = ⟨q9, [], 58, (s.n + 1) * 1⟩ by rw [Nat.mul_one]]
  refine Tr.assign rfl rfl rfl ?_
  refine Tr.nil ?_
  refine at_n ?_
  refine Sat.seq ?_
  refine Sat.seq ?_
  -- region 2
  refine Sat.region ?_
  refine Tr.move rfl rfl rfl ?_
  refine Tr.lenSl rfl rfl rfl Tryz.underlying91 ?_
  refine Tr.move rfl rfl rfl ?_
  refine Tr.nil ?_
  refine at_n ?_
  refine Sat.block ?_
  refine Sat.loop (ι := Nat × Sl × List Blk × List Blk × List Sl) (fun p => ⟨[(3, p.2.1.v), (10, s.v), (11, i64 (s.n : Int)), (12, i64 (p.1 : Int))], (p.2.2.1 ++ (p.2.2.2.1 ++ []))⟩) (fun p => p.1 ≤ s.n ∧ OwnSeq LC 1 BytesAt 58 p.2.1 p.2.2.1 p.2.2.2.1 p.2.2.2.2 (ds.take p.1) p.1) (fun p => s.n - p.1) ((0, ⟨some ⟨q9, 0, none⟩, 0, s.n + 1⟩, [⟨q9, [], 58, (s.n + 1) * 1⟩], [], [])) ?_ ?_ ?_
  · exact ⟨Nat.zero_le _, OwnSeq.made _ _⟩
  · exact weak_perm (wk1 rfl (wk1 rfl (wk1 rfl (wk1 rfl wk0)))) (pm_in0 (pm_cons (by repeat (first | exact rem_here | apply rem_there | apply rem_seg)) (pm_none pm_nil)))
  ·
    rintro p ⟨hk, hos⟩
    refine Sat.seq ?_
    -- region 3
    refine Sat.region ?_
    refine Tr.lss rfl rfl rfl rfl rfl ?_
    refine Tr.nil ?_
    refine at_n ?_
    refine Sat.seq ?_
    first
      | refine Sat.condP rfl (fun hc0 => ?_) (fun hc0 => ?_)
      | refine Sat.condNP rfl (fun hc0 => ?_) (fun hc0 => ?_)
      | refine Sat.cond rfl (fun hc0 => ?_) (fun hc0 => ?_)
    ·
      have hk2 : p.1 < s.n := by omega
      obtain ⟨b, o, r, d, hsp, hr, hd, his, hlen, hsee⟩ := hs.at (by decide) hk2
      refine Sat.skip ?_
      refine at_n ?_
      refine Sat.seq ?_
      refine Sat.block ?_
      refine Sat.seq ?_
      -- region 4
      refine Sat.region ?_
      refine Tr.idxSlP 1 rfl rfl rfl hsp rfl Tryz.underlying91 Sz58 p.1 (by omega) (by omega) ?_
      refine Tr.loadE rfl rfl rfl Tryz.underlying58 rfl (by first | (simp; done) | (simp; exact hW.2.2) | (simp [Cx.with]; done) | (simp [Cx.with]; omega)) (hsee 0 _ rfl) ?_
      refine Tr.assign rfl rfl rfl ?_
      refine Tr.nil ?_
      refine at_n ?_
      -- region 5
      refine Sat.region ?_
      refine Tr.move rfl rfl rfl ?_
      refine Tr.move rfl rfl rfl ?_
      refine Tr.call4 rfl rfl rfl rfl rfl Body141 (bclone r d (by rw [← his.len]; exact hsm d (List.mem_of_getElem? hd))) (fun w h => bytes_ext h rfl his) ?_
      rintro v18 out18 ⟨s18, rfl, hac18⟩
      have hsd := hsm d (List.mem_of_getElem? hd)
      have hoi : ∀ W2, Lies out18 W2 → BytesAt W2 s18 d := fun W2 hl => acc_bytes hac18 hl his.len (by rw [← his.len]; omega)
      refine Tr.mkRow (z := .slice none 0 0) [s18.v] [s18.v] rfl rfl rfl Tryz.underlying91 Sz58 Zr58 rfl rfl (by intro v hv; rw [List.mem_singleton.1 hv]; rfl) (by decide) rfl ?_
      intro q19
      refine Tr.appendAcc (z := .slice none 0 0) (by' := 24) ([s18.v]) rfl rfl rfl rfl rfl Tryz.underlying91 Tryz.underlying91 Sz58 Zr58 (by unfold By; kernel_rfl) rfl hos.acc (by repeat (first | exact sg_here | exact sg_end | apply sg_there | apply sg_seg)) (fun w h => SeesP.of (sees_own h (by first | exact mem0 | exact mem1 | exact mem2 | exact mem3 | exact mem4 | exact mem5 | exact mem6 | exact mem7 | (repeat (first | exact List.mem_cons_self | refine List.mem_cons_of_mem _ ?_ | refine mem_seg ?_))))) (fun e => by cases e) (by intro u hu; rw [List.mem_singleton.1 hu]; rfl) (by omega) (by omega) (by rfl) ?_
      intro s20 bl20 hac20
      refine Tr.assign rfl rfl rfl ?_
      refine Tr.nil ?_
      refine bl_n ?_
      refine at_n ?_
      -- region 6
      refine Sat.region ?_
      refine Tr.add_i64 rfl rfl rfl rfl (by omega) ?_
      refine Tr.move rfl rfl rfl ?_
      refine Tr.nil ?_
      refine at_n ?_
      exact ⟨(p.1 + 1, s20, bl20, _, p.2.2.2.2 ++ [s18]), ⟨by simp only []; omega, by simp only [take_snoc hd]; exact hos.snoc hac20 rfl hoi⟩, by simp only []; omega, weak_perm (wk1 rfl (wk1 rfl (wk1 rfl (wk1 rfl wk0)))) (pm_seg (by repeat (first | exact sg_here | exact sg_end | apply sg_there | apply sg_seg)) (pm_inS (pm_seg (by repeat (first | exact sg_here | exact sg_end | apply sg_there | apply sg_seg)) (pm_seg (by repeat (first | exact sg_here | exact sg_end | apply sg_there | apply sg_seg)) pm_nil))))⟩
    ·
      have hpe : p.1 = s.n := by omega
      refine Sat.exit ?_
      refine at_x ?_
      refine at_x ?_
      refine bl_h ?_
      refine at_n ?_
      refine Sat.seq ?_
      -- region 7
      refine Sat.region ?_
      refine Tr.move rfl rfl rfl ?_
      refine Tr.assign rfl rfl rfl ?_
      refine Tr.nil ?_
      refine at_n ?_
      refine Sat.ret ?_
      refine en_r ?_
      refine end_perm (out := (p.2.2.1 ++ (p.2.2.2.1 ++ []))) (res_tmp rfl rfl) (pm_seg (by repeat (first | exact sg_here | exact sg_end | apply sg_there | apply sg_seg)) (pm_seg (by repeat (first | exact sg_here | exact sg_end | apply sg_there | apply sg_seg)) pm_nil)) ?_
      refine ⟨p.2.1, p.2.2.1, p.2.2.2.1, p.2.2.2.2, rfl, by simp, ?_⟩
      rw [hpe, List.take_of_length_le (by omega)] at hos
      exact hos

set_option maxRecDepth 100000 in
set_option maxHeartbeats 1000000 in
theorem good_1 (x : Sl) : Meets Tryz.prog 224 [x.v] [] (fun _ => True) (fun v out => v = .bool (decide ((16384 : Int) < (x.n : Int))) ∧ out = []) := by
  intro W hW
  refine calls_of (hp0 := []) Tryz.func224 rfl 6 Tryz.ntmps224 rfl (HRep.nil _) ?_
  refine Sat.seq ?_
  -- region 0
  refine Sat.region ?_
  refine Tr.assign rfl rfl rfl ?_
  refine Tr.nil ?_
  refine at_n ?_
  refine Sat.seq ?_
  -- region 1
  refine Sat.region ?_
  refine Tr.move rfl rfl rfl ?_
  refine Tr.lenSl rfl rfl rfl Tryz.underlying58 ?_
  refine Tr.gtr rfl rfl rfl rfl rfl ?_
  refine Tr.assign rfl rfl rfl ?_
  refine Tr.nil ?_
  refine at_n ?_
  refine Sat.ret ?_
  refine en_r ?_
  refine ⟨_, [], res_tmp rfl rfl, (by simp), (by simp), ?_, rfl⟩
  rfl

set_option maxRecDepth 100000 in
set_option maxHeartbeats 1000000 in
theorem index_long (s : Sl) (ds : List (List UInt8)) : Meets Tryz.prog 248 [s.v, .func (.func 224) #[] #[]] [] (fun W => ListsAt W s ds) (fun v out => v = i64 (fstBad longB ds) ∧ out = []) := by
  intro W hW
  obtain ⟨rs, hs⟩ := hW
  have hmax := hs.max
  simp only [maxLen] at hmax
  have hcap := hs.cap
  refine calls_of (hp0 := []) Tryz.func248 rfl 19 Tryz.ntmps248 rfl (HRep.nil _) ?_
  refine Sat.seq ?_
  -- region 0
  refine Sat.region ?_
  refine Tr.assign rfl rfl rfl ?_
  refine Tr.nil ?_
  refine at_n ?_
  refine Sat.seq ?_
  refine Sat.seq ?_
  -- region 1
  refine Sat.region ?_
  refine Tr.move rfl rfl rfl ?_
  refine Tr.lenSl rfl rfl rfl Tryz.underlying91 ?_
  refine Tr.move rfl rfl rfl ?_
  refine Tr.nil ?_
  refine at_n ?_
  refine Sat.block ?_
  refine Sat.loop (ι := Nat) (fun k => ⟨[(0, s.v), (1, .func (.func 224) #[] #[]), (7, i64 (s.n : Int)), (8, i64 (k : Int))], []⟩) (fun k => k ≤ s.n ∧ ∀ j, j < k → (ds.map longB)[j]? = some false) (fun k => s.n - k) (0) ?_ ?_ ?_
  · exact ⟨by omega, fun j hj => by omega⟩
  · exact weak_of (wk1 rfl (wk1 rfl (wk1 rfl (wk1 rfl wk0)))) wh0 (by repeat (first | exact ns_nil | refine ns_keep rfl ?_ | refine ns_skip ?_))
  ·
    rintro k ⟨hk, hg⟩
    refine Sat.seq ?_
    -- region 2
    refine Sat.region ?_
    refine Tr.lss rfl rfl rfl rfl rfl ?_
    refine Tr.nil ?_
    refine at_n ?_
    refine Sat.seq ?_
    first
      | refine Sat.condP rfl (fun hc0 => ?_) (fun hc0 => ?_)
      | refine Sat.condNP rfl (fun hc0 => ?_) (fun hc0 => ?_)
      | refine Sat.cond rfl (fun hc0 => ?_) (fun hc0 => ?_)
    ·
      have hk2 : k < s.n := by omega
      obtain ⟨b, o, r, d, hsp, hr, hd, his, hlen, hsee⟩ := hs.at (by decide) hk2
      have hdl := his.len
      refine Sat.skip ?_
      refine at_n ?_
      refine Sat.seq ?_
      refine Sat.block ?_
      refine Sat.seq ?_
      -- region 3
      refine Sat.region ?_
      refine Tr.move rfl rfl rfl ?_
      refine Tr.assign rfl rfl rfl ?_
      refine Tr.nil ?_
      refine at_n ?_
      refine Sat.seq ?_
      -- region 4
      refine Sat.region ?_
      refine Tr.move rfl rfl rfl ?_
      refine Tr.move rfl rfl rfl ?_
      refine Tr.move rfl rfl rfl ?_
      refine Tr.idxSlP 1 rfl rfl rfl hsp rfl Tryz.underlying91 Sz58 k (by omega) (by omega) ?_
      refine Tr.loadE rfl rfl rfl Tryz.underlying58 rfl (by first | (simp; done) | (simp; exact hW.2.2) | (simp [Cx.with]; done) | (simp [Cx.with]; omega)) (hsee 0 _ rfl) ?_
      refine Tr.callV rfl rfl rfl rfl Body224 (good_1 r) (fun _ _ => trivial) ?_
      refine Tr.nil ?_
      refine at_n ?_
      first
        | refine Sat.condP rfl (fun hc1 => ?_) (fun hc1 => ?_)
        | refine Sat.condNP rfl (fun hc1 => ?_) (fun hc1 => ?_)
        | refine Sat.cond rfl (fun hc1 => ?_) (fun hc1 => ?_)
      ·
        refine Sat.seq ?_
        -- region 5
        refine Sat.region ?_
        refine Tr.move rfl rfl rfl ?_
        refine Tr.assign rfl rfl rfl ?_
        refine Tr.nil ?_
        refine at_n ?_
        refine Sat.ret ?_
        refine bl_r ?_
        refine at_r ?_
        refine at_r ?_
        refine bl_r ?_
        refine at_r ?_
        refine en_r ?_
        refine ⟨_, [], res_tmp rfl rfl, (by simp), (by simp), ?_, rfl⟩
        first
          | exact congrArg i64 (fstBad_none (by intro j hj; exact hg j (by rw [hs.nd] at hj; exact hj))).symm
          | exact congrArg i64 (fstBad_at hg (by rw [List.getElem?_map, hd]; simp [longB, hdl]; omega)).symm
      ·
        refine Sat.skip ?_
        refine bl_n ?_
        refine at_n ?_
        -- region 6
        refine Sat.region ?_
        refine Tr.add_i64 rfl rfl rfl rfl (by omega) ?_
        refine Tr.move rfl rfl rfl ?_
        refine Tr.nil ?_
        refine at_n ?_
        exact ⟨k + 1, ⟨by omega, fun j hj => by rcases Nat.lt_succ_iff_lt_or_eq.1 hj with h | rfl; exact hg j h; rw [List.getElem?_map, hd]; simp [longB, hdl]; omega⟩, by omega, weak_of (wk1 rfl (wk1 rfl (wk1 rfl (wk1 rfl wk0)))) wh0 (by repeat (first | exact ns_nil | refine ns_keep rfl ?_ | refine ns_skip ?_))⟩
    ·
      obtain rfl : k = s.n := by omega
      refine Sat.exit ?_
      refine at_x ?_
      refine at_x ?_
      refine bl_h ?_
      refine at_n ?_
      refine Sat.seq ?_
      -- region 7
      refine Sat.region ?_
      refine Tr.assign rfl rfl rfl ?_
      refine Tr.nil ?_
      refine at_n ?_
      refine Sat.ret ?_
      refine en_r ?_
      refine ⟨_, [], res_tmp rfl rfl, (by simp), (by simp), ?_, rfl⟩
      first
        | exact congrArg i64 (fstBad_none (by intro j hj; exact hg j (by rw [hs.nd] at hj; exact hj))).symm
        | exact congrArg i64 (fstBad_at hg (by rw [List.getElem?_map, hd]; simp [longB, hdl]; omega)).symm

set_option maxRecDepth 100000 in
set_option maxHeartbeats 1000000 in
theorem contains_long (s : Sl) (ds : List (List UInt8)) : Meets Tryz.prog 223 [s.v, .func (.func 224) #[] #[]] [] (fun W => ListsAt W s ds) (fun v out => v = .bool (ds.any longB) ∧ out = []) := by
  intro W hW
  refine calls_of (hp0 := []) Tryz.func223 rfl 9 Tryz.ntmps223 rfl (HRep.nil _) ?_
  refine Sat.seq ?_
  -- region 0
  refine Sat.region ?_
  refine Tr.assign rfl rfl rfl ?_
  refine Tr.nil ?_
  refine at_n ?_
  refine Sat.seq ?_
  -- region 1
  refine Sat.region ?_
  refine Tr.move rfl rfl rfl ?_
  refine Tr.move rfl rfl rfl ?_
  refine Tr.callV rfl rfl rfl rfl Body248 (index_long s ds) (fun w h => lists_ext h rfl hW) ?_
  refine Tr.geq rfl rfl rfl rfl rfl ?_
  refine Tr.assign rfl rfl rfl ?_
  refine Tr.nil ?_
  refine at_n ?_
  refine Sat.ret ?_
  refine en_r ?_
  refine ⟨_, [], res_tmp rfl rfl, (by simp), (by simp), ?_, rfl⟩
  exact congrArg Value.bool (fstBad_ge _ _)


theorem lists_n {W : World} {s : Sl} {ds : List (List UInt8)} (h : ListsAt W s ds) : ds.length = s.n := by obtain ⟨_, h⟩ := h; exact h.nd


set_option maxRecDepth 100000 in
set_option maxHeartbeats 1000000 in
theorem good_inbox (X : Inbox) (ds : List (List UInt8)) : Meets Tryz.prog 139 [agg X.cells] [] (fun W => ListsAt W X.fList ds) (fun v out => v = .bool (goodI ds) ∧ out = []) := by
  intro W hW
  have hn := lists_n hW
  refine calls_of (hp0 := []) Tryz.func139 rfl 13 Tryz.ntmps139 rfl (HRep.nil _) ?_
  refine Sat.seq ?_
  -- region 0
  refine Sat.region ?_
  refine Tr.boxA rfl rfl ?_
  intro n1 hn1 hf1
  refine Tr.assign rfl rfl rfl ?_
  refine Tr.nil ?_
  refine at_n ?_
  refine Sat.seq ?_
  -- region 1
  refine Sat.region ?_
  refine Tr.fld rfl rfl rfl Tryz.underlying93 rfl Sz91 (by decide) _ rfl ?_
  refine Tr.load1 rfl rfl rfl Tryz.underlying91 rfl (by first | exact mem0 | exact mem1 | exact mem2 | exact mem3 | exact mem4 | exact mem5 | exact mem6 | exact mem7 | (repeat (first | exact List.mem_cons_self | refine List.mem_cons_of_mem _ ?_ | refine mem_seg ?_))) (by first | exact Inbox.get_fList (by first | assumption | (simp; done) | exact Block.zero_ok | exact Vote.zero_ok | exact Reader.zero_ok | exact Cut.zero_ok | exact Cert.zero_ok | exact Msg.zero_ok | exact Inbox.zero_ok | exact Record.zero_ok | exact Kept.zero_ok  | exact ⟨trivial⟩) | exact (by first | rfl | exact get_words (by first | omega | (simp; done) | (simp; omega)) | exact get_bytes (by first | omega | (simp; done) | (simp; omega)) | exact get_ints (by first | omega | (simp; done) | (simp; omega)))) ?_
  refine Tr.lenSl rfl rfl rfl Tryz.underlying91 ?_
  refine two (fun r hr k => Tr.leq rfl rfl rfl rfl hr k) (fun hs1_30 => ?_) (fun hs1_30 => ?_)
  ·
    first | have hs1_3 := of_decide_eq_true hs1_30 | have hs1_3 := of_decide_eq_false hs1_30 | have hs1_3 := nd_t hs1_30 | have hs1_3 := nd_f hs1_30 | have hs1_3 := hs1_30
    refine Tr.move rfl rfl rfl ?_
    refine Tr.fld rfl rfl rfl Tryz.underlying93 rfl Sz91 (by decide) _ rfl ?_
    refine Tr.load1 rfl rfl rfl Tryz.underlying91 rfl (by first | exact mem0 | exact mem1 | exact mem2 | exact mem3 | exact mem4 | exact mem5 | exact mem6 | exact mem7 | (repeat (first | exact List.mem_cons_self | refine List.mem_cons_of_mem _ ?_ | refine mem_seg ?_))) (by first | exact Inbox.get_fList (by first | assumption | (simp; done) | exact Block.zero_ok | exact Vote.zero_ok | exact Reader.zero_ok | exact Cut.zero_ok | exact Cert.zero_ok | exact Msg.zero_ok | exact Inbox.zero_ok | exact Record.zero_ok | exact Kept.zero_ok  | exact ⟨trivial⟩) | exact (by first | rfl | exact get_words (by first | omega | (simp; done) | (simp; omega)) | exact get_bytes (by first | omega | (simp; done) | (simp; omega)) | exact get_ints (by first | omega | (simp; done) | (simp; omega)))) ?_
    refine Tr.callV rfl rfl rfl rfl Body223 (contains_long X.fList ds) (fun w h => lists_ext h rfl hW) ?_
    refine Tr.not rfl rfl rfl ?_
    refine Tr.pick rfl rfl rfl rfl rfl rfl ?_
    refine Tr.assign rfl rfl rfl ?_
    refine Tr.nil ?_
    refine at_n ?_
    refine Sat.ret ?_
    refine en_r ?_
    refine ⟨_, [], res_tmp rfl rfl, (by simp), (by simp), ?_, rfl⟩
    simp only [goodI, hn]
    first
      | (simp [*]; done)
      | (simp_all; done)
  ·
    first | have hs1_3 := of_decide_eq_true hs1_30 | have hs1_3 := of_decide_eq_false hs1_30 | have hs1_3 := nd_t hs1_30 | have hs1_3 := nd_f hs1_30 | have hs1_3 := hs1_30
    refine Tr.move rfl rfl rfl ?_
    refine Tr.skp rfl rfl ?_
    refine Tr.skp rfl rfl ?_
    refine Tr.skp rfl rfl ?_
    refine Tr.skp rfl rfl ?_
    refine Tr.pick rfl rfl rfl rfl rfl rfl ?_
    refine Tr.assign rfl rfl rfl ?_
    refine Tr.nil ?_
    refine at_n ?_
    refine Sat.ret ?_
    refine en_r ?_
    refine ⟨_, [], res_tmp rfl rfl, (by simp), (by simp), ?_, rfl⟩
    simp only [goodI, hn]
    first
      | (simp [*]; done)
      | (simp_all; done)

end Go.Proofs.YtejjamifnombhaaGreat
end

section
namespace Go.Proofs.YtejjamifnombhaaGreat
open Go Hw
set_option linter.unusedVariables false
set_option linter.unusedSimpArgs false


def pushE (ds : List (List UInt8)) (l : List UInt8) : Int := if goodI ds = true then (if (16384 : Int) < (l.length : Int) then 3 else if (64 : Int) ≤ (ds.length : Int) then 7 else 0) else 2
def pushD (ds : List (List UInt8)) (l : List UInt8) : List (List UInt8) := if pushE ds l = 0 then ds ++ [l] else []
def popE (ds : List (List UInt8)) : Int := if goodI ds = true then (if (ds.length : Int) = 0 then 6 else 0) else 2
def popB (ds : List (List UInt8)) : List UInt8 := if popE ds = 0 then ds.headD [] else []
def popD (ds : List (List UInt8)) : List (List UInt8) := if popE ds = 0 then ds.tail else []
def Pushed (ds : List (List UInt8)) (l : List UInt8) (v : Value) (out : List Blk) : Prop := ∃ X : Inbox, v = .tuple #[agg X.cells, i64 (pushE ds l)] ∧ ∀ W2, Lies out W2 → ListsAt W2 X.fList (pushD ds l)
def Popped (ds : List (List UInt8)) (v : Value) (out : List Blk) : Prop := ∃ (s : Sl) (X : Inbox), v = .tuple #[s.v, agg X.cells, i64 (popE ds)] ∧ (popB ds).length = s.n ∧ X.fList.n = (popD ds).length ∧ ∀ W2, Lies out W2 → BytesAt W2 s (popB ds) ∧ ListsAt W2 X.fList (popD ds)
theorem Pushed.loose (ds : List (List UInt8)) (l : List UInt8) : Loose (Pushed ds l) := loose_lies ⟨_, fun n => ⟨Inbox.zero, rfl, fun W2 h => (no_lie h).elim⟩⟩
theorem Popped.loose (ds : List (List UInt8)) : Loose (Popped ds) := loose_lies ⟨_, fun n => ⟨⟨none, (popB ds).length, 0⟩, ⟨⟨none, (popD ds).length, 0⟩⟩, rfl, rfl, rfl, fun W2 h => (no_lie h).elim⟩⟩
theorem good_iff {ds : List (List UInt8)} : goodI ds = true ↔ ds.length ≤ 64 ∧ ∀ d ∈ ds, d.length ≤ 16384 := by
  simp only [goodI, longB, Bool.and_eq_true, decide_eq_true_eq, Bool.not_eq_true', List.any_eq_false]
  constructor
  · rintro ⟨h1, h2⟩
    exact ⟨by omega, fun d hd => by have := h2 d hd; omega⟩
  · rintro ⟨h1, h2⟩
    exact ⟨by omega, fun d hd => by have := h2 d hd; omega⟩
theorem lists_nil {W : World} : ListsAt W Sl.nil [] := ⟨[], SeqIs.none⟩
theorem bytes_nil {W : World} : BytesAt W Sl.nil [] := ⟨rfl, Nat.le_refl _, SeesP.nil, by decide, fun _ => rfl⟩
theorem lists_tail {W : World} {s : Sl} {ds : List (List UInt8)} {b o : Nat} (h : ListsAt W s ds) (hp : s.p = some ⟨b, o, none⟩) (hn : 0 < s.n) : ListsAt W ⟨some ⟨b, if s.c = 1 then o else o + 1 * 1, none⟩, s.n - 1, s.c - 1⟩ ds.tail := by
  obtain ⟨rs, h⟩ := h
  obtain ⟨p, n, c⟩ := s
  simp only at hp hn
  subst hp
  obtain ⟨n, rfl⟩ : ∃ k, n = k + 1 := ⟨n - 1, by omega⟩
  cases rs with
  | nil => have := h.nr; simp at this
  | cons r rs =>
    cases ds with
    | nil => have := h.nd; simp at this
    | cons d ds =>
      have hc : n + 1 ≤ c := h.cap
      have h1 : rs.length = n := by have := h.nr; simpa using this
      have h2 : ds.length = n := by have := h.nd; simpa using this
      have hmax : n + 1 ≤ maxLen := h.max
      refine ⟨rs, h1, h2, fun i r d hr hd => h.is (i + 1) r d (by simpa using hr) (by simpa using hd), fun r hr => rfl, by simp only []; omega, ?_, by simp only []; omega, fun e => by cases e⟩
      by_cases e : c = 1
      · obtain rfl : n = 0 := by omega
        obtain rfl : rs = [] := List.eq_nil_of_length_eq_zero h1
        exact SeesP.nil
      · simp only [if_neg e]
        obtain ⟨b2, o2, e2, hs⟩ := h.see.at (by simp)
        simp only [Option.some.injEq, Addr.mk.injEq, and_true] at e2
        obtain ⟨rfl, rfl⟩ := e2
        refine SeesP.of fun j v hj => ?_
        have := hs (j + 1) v (by simpa using hj)
        rwa [show o + (j + 1) = o + 1 * 1 + j by omega] at this
section
variable {C : Cx} {ops : Array Oper} {rest : List (Nat × Oper)} {sl : List (Nat × Value)} {hp : List Blk} {Q : St → Prop} {c d : Nat} {ty : TypeId} {pos : String} {af : Array Edge} {g : Option (Nat × Bool)}
theorem Tr.sliceLoP {x lo : Operand} {p : Option Addr} {b o n cap : Nat} {T E : TypeId} {kl : IntKind} {l : Int} {sz : Nat} (j : Nat) (hg : guardOk ops sl g = true) (hk : okD c d C.N = true) (hx : evIn sl x = some (.slice p n cap)) (hp' : p = some ⟨b, o, none⟩) (hl : evIn sl lo = some (.int kl l)) (hj : l = j) (hjn : j ≤ n) (hnc : n ≤ cap)
    (hu : C.P.underlying T = some (.slice E)) (hs : Sz C.P E sz)
    (k : Tr C ops rest ⟨(d, .slice (some ⟨b, if cap = j then o else o + j * sz, none⟩) (n - j) (cap - j)) :: sl, hp⟩ Q) : Tr C ops ((c, ⟨some d, .slice T x (some lo) none none, ty, pos, af, g⟩) :: rest) ⟨sl, hp⟩ Q := by
  subst hp'
  exact .sliceLoN j hg hk hx hl hj hjn hnc hu hs k
end


set_option maxRecDepth 100000 in
set_option maxHeartbeats 4000000 in
theorem sync_push (X : Inbox) (ds : List (List UInt8)) (s : Sl) (l : List UInt8) : Meets Tryz.prog 45 [agg X.cells, s.v] [] (fun W => ListsAt W X.fList ds ∧ BytesAt W s l) (Pushed ds l) := by
  intro W hW
  have hn := lists_n hW.1
  have hll := hW.2.len
  refine calls_of (hp0 := []) Tryz.func45 rfl 27 Tryz.ntmps45 rfl (HRep.nil _) ?_
  refine Sat.seq ?_
  -- region 0
  refine Sat.region ?_
  refine Tr.boxA rfl rfl ?_
  intro n2 hn2 hf2
  refine Tr.alloc (cs := Inbox.zero.cells) rfl Inbox.zr rfl ?_
  intro n4 hn4 hf4
  refine Tr.assign rfl rfl rfl ?_
  refine Tr.nil ?_
  refine at_n ?_
  refine Sat.seq ?_
  refine Sat.seq ?_
  -- region 1
  refine Sat.region ?_
  refine Tr.loadAll rfl rfl rfl Tryz.underlying93 rfl Sz93 (by first | exact mem0 | exact mem1 | exact mem2 | exact mem3 | exact mem4 | exact mem5 | exact mem6 | exact mem7 | (repeat (first | exact List.mem_cons_self | refine List.mem_cons_of_mem _ ?_ | refine mem_seg ?_))) (Inbox.length (by first | assumption | (simp; done) | exact Block.zero_ok | exact Vote.zero_ok | exact Reader.zero_ok | exact Cut.zero_ok | exact Cert.zero_ok | exact Msg.zero_ok | exact Inbox.zero_ok | exact Record.zero_ok | exact Kept.zero_ok  | exact ⟨trivial⟩)) ?_
  refine Tr.callV rfl rfl rfl rfl Body139 (good_inbox X ds) (fun w h => lists_ext h rfl hW.1) ?_
  refine Tr.not rfl rfl rfl ?_
  refine Tr.nil ?_
  refine at_n ?_
  refine Sat.cond rfl (fun hc0 => ?_) (fun hc0 => ?_)
  ·
    have hgf : goodI ds = false := by simpa using hc0
    refine Sat.seq ?_
    -- region 2
    refine Sat.region ?_
    refine Tr.build (cs := Inbox.zero.cells) rfl rfl rfl (fun w => by kernel_rfl) ?_
    refine Tr.storeAll rfl rfl rfl rfl (Inbox.isCell (by first | assumption | (simp; done) | exact Block.zero_ok | exact Vote.zero_ok | exact Reader.zero_ok | exact Cut.zero_ok | exact Cert.zero_ok | exact Msg.zero_ok | exact Inbox.zero_ok | exact Record.zero_ok | exact Kept.zero_ok  | exact ⟨trivial⟩)) Sz93 (Inbox.length (by first | assumption | (simp; done) | exact Block.zero_ok | exact Vote.zero_ok | exact Reader.zero_ok | exact Cut.zero_ok | exact Cert.zero_ok | exact Msg.zero_ok | exact Inbox.zero_ok | exact Record.zero_ok | exact Kept.zero_ok  | exact ⟨trivial⟩)) (by first | exact mem0 | exact mem1 | exact mem2 | exact mem3 | exact mem4 | exact mem5 | exact mem6 | exact mem7 | (repeat (first | exact List.mem_cons_self | refine List.mem_cons_of_mem _ ?_ | refine mem_seg ?_))) (Inbox.length (by first | assumption | (simp; done) | exact Block.zero_ok | exact Vote.zero_ok | exact Reader.zero_ok | exact Cut.zero_ok | exact Cert.zero_ok | exact Msg.zero_ok | exact Inbox.zero_ok | exact Record.zero_ok | exact Kept.zero_ok  | exact ⟨trivial⟩)) (by first | exact upd0 | exact upd1 | exact upd2 | exact upd3 | exact upd4 | exact upd5 | exact upd6 | exact upd7 | (repeat (first | exact upd0 | apply Upd.tail | apply Upd.seg))) ?_
    refine Tr.assign rfl rfl rfl ?_
    refine Tr.nil ?_
    refine at_n ?_
    refine Sat.ret ?_
    refine at_r ?_
    refine en_r ?_
    refine end_perm (out := []) (res_cell_tmp rfl rfl rfl Tryz.underlying93 rfl Sz93 (by first | exact mem0 | exact mem1 | exact mem2 | exact mem3 | exact mem4 | exact mem5 | exact mem6 | exact mem7 | (repeat (first | exact List.mem_cons_self | refine List.mem_cons_of_mem _ ?_ | refine mem_seg ?_))) (by first | (simp; done) | exact Inbox.length (by first | assumption | (simp; done) | exact Block.zero_ok | exact Vote.zero_ok | exact Reader.zero_ok | exact Cut.zero_ok | exact Cert.zero_ok | exact Msg.zero_ok | exact Inbox.zero_ok | exact Record.zero_ok | exact Kept.zero_ok  | exact ⟨trivial⟩))) pm_nil ?_
    have he : pushE ds l = 2 := by rw [pushE, if_neg (by rw [hgf]; decide)]
    exact ⟨Inbox.zero, (by rw [he]; try rfl), fun W2 _ => by rw [show pushD ds l = [] from if_neg (by rw [he]; decide)]; exact lists_nil⟩
  ·
    have hgt : goodI ds = true := by simpa using hc0
    have hgd := good_iff.1 hgt
    refine Sat.skip ?_
    refine at_n ?_
    refine Sat.seq ?_
    refine Sat.seq ?_
    -- region 3
    refine Sat.region ?_
    refine Tr.move rfl rfl rfl ?_
    refine Tr.lenSl rfl rfl rfl Tryz.underlying58 ?_
    refine Tr.gtr rfl rfl rfl rfl rfl ?_
    refine Tr.nil ?_
    refine at_n ?_
    first
      | refine Sat.condP rfl (fun hc1 => ?_) (fun hc1 => ?_)
      | refine Sat.condNP rfl (fun hc1 => ?_) (fun hc1 => ?_)
      | refine Sat.cond rfl (fun hc1 => ?_) (fun hc1 => ?_)
    ·
      refine Sat.seq ?_
      -- region 4
      refine Sat.region ?_
      refine Tr.build (cs := Inbox.zero.cells) rfl rfl rfl (fun w => by kernel_rfl) ?_
      refine Tr.storeAll rfl rfl rfl rfl (Inbox.isCell (by first | assumption | (simp; done) | exact Block.zero_ok | exact Vote.zero_ok | exact Reader.zero_ok | exact Cut.zero_ok | exact Cert.zero_ok | exact Msg.zero_ok | exact Inbox.zero_ok | exact Record.zero_ok | exact Kept.zero_ok  | exact ⟨trivial⟩)) Sz93 (Inbox.length (by first | assumption | (simp; done) | exact Block.zero_ok | exact Vote.zero_ok | exact Reader.zero_ok | exact Cut.zero_ok | exact Cert.zero_ok | exact Msg.zero_ok | exact Inbox.zero_ok | exact Record.zero_ok | exact Kept.zero_ok  | exact ⟨trivial⟩)) (by first | exact mem0 | exact mem1 | exact mem2 | exact mem3 | exact mem4 | exact mem5 | exact mem6 | exact mem7 | (repeat (first | exact List.mem_cons_self | refine List.mem_cons_of_mem _ ?_ | refine mem_seg ?_))) (Inbox.length (by first | assumption | (simp; done) | exact Block.zero_ok | exact Vote.zero_ok | exact Reader.zero_ok | exact Cut.zero_ok | exact Cert.zero_ok | exact Msg.zero_ok | exact Inbox.zero_ok | exact Record.zero_ok | exact Kept.zero_ok  | exact ⟨trivial⟩)) (by first | exact upd0 | exact upd1 | exact upd2 | exact upd3 | exact upd4 | exact upd5 | exact upd6 | exact upd7 | (repeat (first | exact upd0 | apply Upd.tail | apply Upd.seg))) ?_
      refine Tr.assign rfl rfl rfl ?_
      refine Tr.nil ?_
      refine at_n ?_
      refine Sat.ret ?_
      refine at_r ?_
      refine en_r ?_
      refine end_perm (out := []) (res_cell_tmp rfl rfl rfl Tryz.underlying93 rfl Sz93 (by first | exact mem0 | exact mem1 | exact mem2 | exact mem3 | exact mem4 | exact mem5 | exact mem6 | exact mem7 | (repeat (first | exact List.mem_cons_self | refine List.mem_cons_of_mem _ ?_ | refine mem_seg ?_))) (by first | (simp; done) | exact Inbox.length (by first | assumption | (simp; done) | exact Block.zero_ok | exact Vote.zero_ok | exact Reader.zero_ok | exact Cut.zero_ok | exact Cert.zero_ok | exact Msg.zero_ok | exact Inbox.zero_ok | exact Record.zero_ok | exact Kept.zero_ok  | exact ⟨trivial⟩))) pm_nil ?_
      have he : pushE ds l = 3 := by rw [pushE, if_pos hgt, if_pos (by omega)]
      exact ⟨Inbox.zero, (by rw [he]; try rfl), fun W2 _ => by rw [show pushD ds l = [] from if_neg (by rw [he]; decide)]; exact lists_nil⟩
    ·
      refine Sat.skip ?_
      refine at_n ?_
      refine Sat.seq ?_
      refine Sat.seq ?_
      -- region 5
      refine Sat.region ?_
      refine Tr.fld rfl rfl rfl Tryz.underlying93 rfl Sz91 (by decide) _ rfl ?_
      refine Tr.load1 rfl rfl rfl Tryz.underlying91 rfl (by first | exact mem0 | exact mem1 | exact mem2 | exact mem3 | exact mem4 | exact mem5 | exact mem6 | exact mem7 | (repeat (first | exact List.mem_cons_self | refine List.mem_cons_of_mem _ ?_ | refine mem_seg ?_))) (by first | exact Inbox.get_fList (by first | assumption | (simp; done) | exact Block.zero_ok | exact Vote.zero_ok | exact Reader.zero_ok | exact Cut.zero_ok | exact Cert.zero_ok | exact Msg.zero_ok | exact Inbox.zero_ok | exact Record.zero_ok | exact Kept.zero_ok  | exact ⟨trivial⟩) | exact (by first | rfl | exact get_words (by first | omega | (simp; done) | (simp; omega)) | exact get_bytes (by first | omega | (simp; done) | (simp; omega)) | exact get_ints (by first | omega | (simp; done) | (simp; omega)))) ?_
      refine Tr.lenSl rfl rfl rfl Tryz.underlying91 ?_
      refine Tr.geq rfl rfl rfl rfl rfl ?_
      refine Tr.nil ?_
      refine at_n ?_
      first
        | refine Sat.condP rfl (fun hc2 => ?_) (fun hc2 => ?_)
        | refine Sat.condNP rfl (fun hc2 => ?_) (fun hc2 => ?_)
        | refine Sat.cond rfl (fun hc2 => ?_) (fun hc2 => ?_)
      ·
        refine Sat.seq ?_
        -- region 6
        refine Sat.region ?_
        refine Tr.build (cs := Inbox.zero.cells) rfl rfl rfl (fun w => by kernel_rfl) ?_
        refine Tr.storeAll rfl rfl rfl rfl (Inbox.isCell (by first | assumption | (simp; done) | exact Block.zero_ok | exact Vote.zero_ok | exact Reader.zero_ok | exact Cut.zero_ok | exact Cert.zero_ok | exact Msg.zero_ok | exact Inbox.zero_ok | exact Record.zero_ok | exact Kept.zero_ok  | exact ⟨trivial⟩)) Sz93 (Inbox.length (by first | assumption | (simp; done) | exact Block.zero_ok | exact Vote.zero_ok | exact Reader.zero_ok | exact Cut.zero_ok | exact Cert.zero_ok | exact Msg.zero_ok | exact Inbox.zero_ok | exact Record.zero_ok | exact Kept.zero_ok  | exact ⟨trivial⟩)) (by first | exact mem0 | exact mem1 | exact mem2 | exact mem3 | exact mem4 | exact mem5 | exact mem6 | exact mem7 | (repeat (first | exact List.mem_cons_self | refine List.mem_cons_of_mem _ ?_ | refine mem_seg ?_))) (Inbox.length (by first | assumption | (simp; done) | exact Block.zero_ok | exact Vote.zero_ok | exact Reader.zero_ok | exact Cut.zero_ok | exact Cert.zero_ok | exact Msg.zero_ok | exact Inbox.zero_ok | exact Record.zero_ok | exact Kept.zero_ok  | exact ⟨trivial⟩)) (by first | exact upd0 | exact upd1 | exact upd2 | exact upd3 | exact upd4 | exact upd5 | exact upd6 | exact upd7 | (repeat (first | exact upd0 | apply Upd.tail | apply Upd.seg))) ?_
        refine Tr.assign rfl rfl rfl ?_
        refine Tr.nil ?_
        refine at_n ?_
        refine Sat.ret ?_
        refine at_r ?_
        refine en_r ?_
        refine end_perm (out := []) (res_cell_tmp rfl rfl rfl Tryz.underlying93 rfl Sz93 (by first | exact mem0 | exact mem1 | exact mem2 | exact mem3 | exact mem4 | exact mem5 | exact mem6 | exact mem7 | (repeat (first | exact List.mem_cons_self | refine List.mem_cons_of_mem _ ?_ | refine mem_seg ?_))) (by first | (simp; done) | exact Inbox.length (by first | assumption | (simp; done) | exact Block.zero_ok | exact Vote.zero_ok | exact Reader.zero_ok | exact Cut.zero_ok | exact Cert.zero_ok | exact Msg.zero_ok | exact Inbox.zero_ok | exact Record.zero_ok | exact Kept.zero_ok  | exact ⟨trivial⟩))) pm_nil ?_
        have he : pushE ds l = 7 := by rw [pushE, if_pos hgt, if_neg (by omega), if_pos (by omega)]
        exact ⟨Inbox.zero, (by rw [he]; try rfl), fun W2 _ => by rw [show pushD ds l = [] from if_neg (by rw [he]; decide)]; exact lists_nil⟩
      ·
        have hsm : ∀ d ∈ ds, d.length ≤ 90000 := fun d hd => by have := hgd.2 d hd; omega
        have he : pushE ds l = 0 := by rw [pushE, if_pos hgt, if_neg (by omega), if_neg (by omega)]
        refine Sat.skip ?_
        refine at_n ?_
        refine Sat.seq ?_
        -- region 7
        refine Sat.region ?_
        refine Tr.fld rfl rfl rfl Tryz.underlying93 rfl Sz91 (by decide) _ rfl ?_
        refine Tr.load1 rfl rfl rfl Tryz.underlying91 rfl (by first | exact mem0 | exact mem1 | exact mem2 | exact mem3 | exact mem4 | exact mem5 | exact mem6 | exact mem7 | (repeat (first | exact List.mem_cons_self | refine List.mem_cons_of_mem _ ?_ | refine mem_seg ?_))) (by first | exact Inbox.get_fList (by first | assumption | (simp; done) | exact Block.zero_ok | exact Vote.zero_ok | exact Reader.zero_ok | exact Cut.zero_ok | exact Cert.zero_ok | exact Msg.zero_ok | exact Inbox.zero_ok | exact Record.zero_ok | exact Kept.zero_ok  | exact ⟨trivial⟩) | exact (by first | rfl | exact get_words (by first | omega | (simp; done) | (simp; omega)) | exact get_bytes (by first | omega | (simp; done) | (simp; omega)) | exact get_ints (by first | omega | (simp; done) | (simp; omega)))) ?_
        refine Tr.call4 rfl rfl rfl rfl rfl Body140 (sync_copies X.fList ds (by omega) hsm) (fun w h => lists_ext h rfl hW.1) ?_
        rintro v21 out21 ⟨s21, bl, bl2, rs, rfl, rfl, hos⟩
        simp only [List.append_assoc, List.cons_append, List.nil_append]
        refine Tr.move rfl rfl rfl ?_
        refine Tr.call4 rfl rfl rfl rfl rfl Body141 (bclone s l (by omega)) (fun w h => bytes_ext h rfl hW.2) ?_
        rintro v23 out23 ⟨s23, rfl, hac23⟩
        have hoi : ∀ W2, Lies out23 W2 → BytesAt W2 s23 l := fun W2 hl => acc_bytes hac23 hl hll (by omega)
        refine Tr.mkRow (z := .slice none 0 0) [s23.v] [s23.v] rfl rfl rfl Tryz.underlying91 Sz58 Zr58 rfl rfl (by intro v hv; rw [List.mem_singleton.1 hv]; rfl) (by decide) rfl ?_
        intro q24
        refine Tr.appendAcc (z := .slice none 0 0) (by' := 24) ([s23.v]) rfl rfl rfl rfl rfl Tryz.underlying91 Tryz.underlying91 Sz58 Zr58 (by unfold By; kernel_rfl) rfl hos.acc (by repeat (first | exact sg_here | exact sg_end | apply sg_there | apply sg_seg)) (fun w h => SeesP.of (sees_own h (by first | exact mem0 | exact mem1 | exact mem2 | exact mem3 | exact mem4 | exact mem5 | exact mem6 | exact mem7 | (repeat (first | exact List.mem_cons_self | refine List.mem_cons_of_mem _ ?_ | refine mem_seg ?_))))) (fun e => by cases e) (by intro u hu; rw [List.mem_singleton.1 hu]; rfl) (by omega) (by omega) (by rfl) ?_
        intro s25 bl25 hac25
        refine Tr.build (cs := (⟨s25⟩ : Inbox).cells) rfl rfl rfl (fun w => by kernel_rfl) ?_
        refine Tr.storeAll rfl rfl rfl rfl (Inbox.isCell (by first | assumption | (simp; done) | exact Block.zero_ok | exact Vote.zero_ok | exact Reader.zero_ok | exact Cut.zero_ok | exact Cert.zero_ok | exact Msg.zero_ok | exact Inbox.zero_ok | exact Record.zero_ok | exact Kept.zero_ok  | exact ⟨trivial⟩)) Sz93 (Inbox.length (by first | assumption | (simp; done) | exact Block.zero_ok | exact Vote.zero_ok | exact Reader.zero_ok | exact Cut.zero_ok | exact Cert.zero_ok | exact Msg.zero_ok | exact Inbox.zero_ok | exact Record.zero_ok | exact Kept.zero_ok  | exact ⟨trivial⟩)) (by first | exact mem0 | exact mem1 | exact mem2 | exact mem3 | exact mem4 | exact mem5 | exact mem6 | exact mem7 | (repeat (first | exact List.mem_cons_self | refine List.mem_cons_of_mem _ ?_ | refine mem_seg ?_))) (Inbox.length (by first | assumption | (simp; done) | exact Block.zero_ok | exact Vote.zero_ok | exact Reader.zero_ok | exact Cut.zero_ok | exact Cert.zero_ok | exact Msg.zero_ok | exact Inbox.zero_ok | exact Record.zero_ok | exact Kept.zero_ok  | exact ⟨trivial⟩)) (by first | exact upd0 | exact upd1 | exact upd2 | exact upd3 | exact upd4 | exact upd5 | exact upd6 | exact upd7 | (repeat (first | exact upd0 | apply Upd.tail | apply Upd.seg))) ?_
        refine Tr.assign rfl rfl rfl ?_
        refine Tr.nil ?_
        refine at_n ?_
        refine Sat.ret ?_
        refine en_r ?_
        refine end_perm (out := (bl25 ++ (out23 ++ (bl2 ++ [])))) (res_cell_tmp rfl rfl rfl Tryz.underlying93 rfl Sz93 (by first | exact mem0 | exact mem1 | exact mem2 | exact mem3 | exact mem4 | exact mem5 | exact mem6 | exact mem7 | (repeat (first | exact List.mem_cons_self | refine List.mem_cons_of_mem _ ?_ | refine mem_seg ?_))) (by first | (simp; done) | exact Inbox.length (by first | assumption | (simp; done) | exact Block.zero_ok | exact Vote.zero_ok | exact Reader.zero_ok | exact Cut.zero_ok | exact Cert.zero_ok | exact Msg.zero_ok | exact Inbox.zero_ok | exact Record.zero_ok | exact Kept.zero_ok  | exact ⟨trivial⟩))) (pm_seg (by repeat (first | exact sg_here | exact sg_end | apply sg_there | apply sg_seg)) (pm_seg (by repeat (first | exact sg_here | exact sg_end | apply sg_there | apply sg_seg)) (pm_seg (by repeat (first | exact sg_here | exact sg_end | apply sg_there | apply sg_seg)) pm_nil))) ?_
        refine ⟨⟨s25⟩, (by rw [he]; try rfl), fun W2 hl => ?_⟩
        rw [show pushD ds l = ds ++ [l] from if_pos he]
        exact ⟨_, (hos.snoc hac25 rfl hoi).seq (hl.sub (by intro b hb; simp only [List.mem_append] at hb ⊢; first | (rcases hb with hb | hb <;> simp [hb]; done) | (simp [hb]; done))) (hl.sub (by intro b hb; simp only [List.mem_append] at hb ⊢; first | (rcases hb with hb | hb <;> simp [hb]; done) | (simp [hb]; done))) (by omega)⟩

set_option maxRecDepth 100000 in
set_option maxHeartbeats 4000000 in
theorem sync_pop (X : Inbox) (ds : List (List UInt8)) : Meets Tryz.prog 46 [agg X.cells] [] (fun W => ListsAt W X.fList ds) (Popped ds) := by
  intro W hW
  have hn := lists_n hW
  refine calls_of (hp0 := []) Tryz.func46 rfl 24 Tryz.ntmps46 rfl (HRep.nil _) ?_
  refine Sat.seq ?_
  -- region 0
  refine Sat.region ?_
  refine Tr.boxA rfl rfl ?_
  intro n1 hn1 hf1
  refine Tr.assign rfl rfl rfl ?_
  refine Tr.alloc (cs := Inbox.zero.cells) rfl Inbox.zr rfl ?_
  intro n3 hn3 hf3
  refine Tr.assign rfl rfl rfl ?_
  refine Tr.nil ?_
  refine at_n ?_
  refine Sat.seq ?_
  refine Sat.seq ?_
  -- region 1
  refine Sat.region ?_
  refine Tr.loadAll rfl rfl rfl Tryz.underlying93 rfl Sz93 (by first | exact mem0 | exact mem1 | exact mem2 | exact mem3 | exact mem4 | exact mem5 | exact mem6 | exact mem7 | (repeat (first | exact List.mem_cons_self | refine List.mem_cons_of_mem _ ?_ | refine mem_seg ?_))) (Inbox.length (by first | assumption | (simp; done) | exact Block.zero_ok | exact Vote.zero_ok | exact Reader.zero_ok | exact Cut.zero_ok | exact Cert.zero_ok | exact Msg.zero_ok | exact Inbox.zero_ok | exact Record.zero_ok | exact Kept.zero_ok  | exact ⟨trivial⟩)) ?_
  refine Tr.callV rfl rfl rfl rfl Body139 (good_inbox X ds) (fun w h => lists_ext h rfl hW) ?_
  refine Tr.not rfl rfl rfl ?_
  refine Tr.nil ?_
  refine at_n ?_
  refine Sat.cond rfl (fun hc0 => ?_) (fun hc0 => ?_)
  ·
    have hgf : goodI ds = false := by simpa using hc0
    refine Sat.seq ?_
    -- region 2
    refine Sat.region ?_
    refine Tr.build (cs := Inbox.zero.cells) rfl rfl rfl (fun w => by kernel_rfl) ?_
    refine Tr.assign rfl rfl rfl ?_
    refine Tr.storeAll rfl rfl rfl rfl (Inbox.isCell (by first | assumption | (simp; done) | exact Block.zero_ok | exact Vote.zero_ok | exact Reader.zero_ok | exact Cut.zero_ok | exact Cert.zero_ok | exact Msg.zero_ok | exact Inbox.zero_ok | exact Record.zero_ok | exact Kept.zero_ok  | exact ⟨trivial⟩)) Sz93 (Inbox.length (by first | assumption | (simp; done) | exact Block.zero_ok | exact Vote.zero_ok | exact Reader.zero_ok | exact Cut.zero_ok | exact Cert.zero_ok | exact Msg.zero_ok | exact Inbox.zero_ok | exact Record.zero_ok | exact Kept.zero_ok  | exact ⟨trivial⟩)) (by first | exact mem0 | exact mem1 | exact mem2 | exact mem3 | exact mem4 | exact mem5 | exact mem6 | exact mem7 | (repeat (first | exact List.mem_cons_self | refine List.mem_cons_of_mem _ ?_ | refine mem_seg ?_))) (Inbox.length (by first | assumption | (simp; done) | exact Block.zero_ok | exact Vote.zero_ok | exact Reader.zero_ok | exact Cut.zero_ok | exact Cert.zero_ok | exact Msg.zero_ok | exact Inbox.zero_ok | exact Record.zero_ok | exact Kept.zero_ok  | exact ⟨trivial⟩)) (by first | exact upd0 | exact upd1 | exact upd2 | exact upd3 | exact upd4 | exact upd5 | exact upd6 | exact upd7 | (repeat (first | exact upd0 | apply Upd.tail | apply Upd.seg))) ?_
    refine Tr.assign rfl rfl rfl ?_
    refine Tr.nil ?_
    refine at_n ?_
    refine Sat.ret ?_
    refine at_r ?_
    refine en_r ?_
    refine end_perm (out := []) (res_tmp_cell_tmp rfl rfl rfl rfl Tryz.underlying93 rfl Sz93 (by first | exact mem0 | exact mem1 | exact mem2 | exact mem3 | exact mem4 | exact mem5 | exact mem6 | exact mem7 | (repeat (first | exact List.mem_cons_self | refine List.mem_cons_of_mem _ ?_ | refine mem_seg ?_))) (by first | (simp; done) | exact Inbox.length (by first | assumption | (simp; done) | exact Block.zero_ok | exact Vote.zero_ok | exact Reader.zero_ok | exact Cut.zero_ok | exact Cert.zero_ok | exact Msg.zero_ok | exact Inbox.zero_ok | exact Record.zero_ok | exact Kept.zero_ok  | exact ⟨trivial⟩))) pm_nil ?_
    have he : popE ds = 2 := by rw [popE, if_neg (by rw [hgf]; decide)]
    exact ⟨Sl.nil, Inbox.zero, (by rw [he]; try rfl), by rw [show popB ds = [] from if_neg (by rw [he]; decide)]; rfl, by rw [show popD ds = [] from if_neg (by rw [he]; decide)]; rfl, fun W2 _ => by rw [show popD ds = [] from if_neg (by rw [he]; decide), show popB ds = [] from if_neg (by rw [he]; decide)]; exact ⟨bytes_nil, lists_nil⟩⟩
  ·
    have hgt : goodI ds = true := by simpa using hc0
    have hgd := good_iff.1 hgt
    refine Sat.skip ?_
    refine at_n ?_
    refine Sat.seq ?_
    refine Sat.seq ?_
    -- region 3
    refine Sat.region ?_
    refine Tr.fld rfl rfl rfl Tryz.underlying93 rfl Sz91 (by decide) _ rfl ?_
    refine Tr.load1 rfl rfl rfl Tryz.underlying91 rfl (by first | exact mem0 | exact mem1 | exact mem2 | exact mem3 | exact mem4 | exact mem5 | exact mem6 | exact mem7 | (repeat (first | exact List.mem_cons_self | refine List.mem_cons_of_mem _ ?_ | refine mem_seg ?_))) (by first | exact Inbox.get_fList (by first | assumption | (simp; done) | exact Block.zero_ok | exact Vote.zero_ok | exact Reader.zero_ok | exact Cut.zero_ok | exact Cert.zero_ok | exact Msg.zero_ok | exact Inbox.zero_ok | exact Record.zero_ok | exact Kept.zero_ok  | exact ⟨trivial⟩) | exact (by first | rfl | exact get_words (by first | omega | (simp; done) | (simp; omega)) | exact get_bytes (by first | omega | (simp; done) | (simp; omega)) | exact get_ints (by first | omega | (simp; done) | (simp; omega)))) ?_
    refine Tr.lenSl rfl rfl rfl Tryz.underlying91 ?_
    refine Tr.eqi rfl rfl rfl rfl rfl ?_
    refine Tr.nil ?_
    refine at_n ?_
    first
      | refine Sat.condP rfl (fun hc1 => ?_) (fun hc1 => ?_)
      | refine Sat.condNP rfl (fun hc1 => ?_) (fun hc1 => ?_)
      | refine Sat.cond rfl (fun hc1 => ?_) (fun hc1 => ?_)
    ·
      refine Sat.seq ?_
      -- region 4
      refine Sat.region ?_
      refine Tr.build (cs := Inbox.zero.cells) rfl rfl rfl (fun w => by kernel_rfl) ?_
      refine Tr.assign rfl rfl rfl ?_
      refine Tr.storeAll rfl rfl rfl rfl (Inbox.isCell (by first | assumption | (simp; done) | exact Block.zero_ok | exact Vote.zero_ok | exact Reader.zero_ok | exact Cut.zero_ok | exact Cert.zero_ok | exact Msg.zero_ok | exact Inbox.zero_ok | exact Record.zero_ok | exact Kept.zero_ok  | exact ⟨trivial⟩)) Sz93 (Inbox.length (by first | assumption | (simp; done) | exact Block.zero_ok | exact Vote.zero_ok | exact Reader.zero_ok | exact Cut.zero_ok | exact Cert.zero_ok | exact Msg.zero_ok | exact Inbox.zero_ok | exact Record.zero_ok | exact Kept.zero_ok  | exact ⟨trivial⟩)) (by first | exact mem0 | exact mem1 | exact mem2 | exact mem3 | exact mem4 | exact mem5 | exact mem6 | exact mem7 | (repeat (first | exact List.mem_cons_self | refine List.mem_cons_of_mem _ ?_ | refine mem_seg ?_))) (Inbox.length (by first | assumption | (simp; done) | exact Block.zero_ok | exact Vote.zero_ok | exact Reader.zero_ok | exact Cut.zero_ok | exact Cert.zero_ok | exact Msg.zero_ok | exact Inbox.zero_ok | exact Record.zero_ok | exact Kept.zero_ok  | exact ⟨trivial⟩)) (by first | exact upd0 | exact upd1 | exact upd2 | exact upd3 | exact upd4 | exact upd5 | exact upd6 | exact upd7 | (repeat (first | exact upd0 | apply Upd.tail | apply Upd.seg))) ?_
      refine Tr.assign rfl rfl rfl ?_
      refine Tr.nil ?_
      refine at_n ?_
      refine Sat.ret ?_
      refine at_r ?_
      refine en_r ?_
      refine end_perm (out := []) (res_tmp_cell_tmp rfl rfl rfl rfl Tryz.underlying93 rfl Sz93 (by first | exact mem0 | exact mem1 | exact mem2 | exact mem3 | exact mem4 | exact mem5 | exact mem6 | exact mem7 | (repeat (first | exact List.mem_cons_self | refine List.mem_cons_of_mem _ ?_ | refine mem_seg ?_))) (by first | (simp; done) | exact Inbox.length (by first | assumption | (simp; done) | exact Block.zero_ok | exact Vote.zero_ok | exact Reader.zero_ok | exact Cut.zero_ok | exact Cert.zero_ok | exact Msg.zero_ok | exact Inbox.zero_ok | exact Record.zero_ok | exact Kept.zero_ok  | exact ⟨trivial⟩))) pm_nil ?_
      have he : popE ds = 6 := by rw [popE, if_pos hgt, if_pos (by omega)]
      exact ⟨Sl.nil, Inbox.zero, (by rw [he]; try rfl), by rw [show popB ds = [] from if_neg (by rw [he]; decide)]; rfl, by rw [show popD ds = [] from if_neg (by rw [he]; decide)]; rfl, fun W2 _ => by rw [show popD ds = [] from if_neg (by rw [he]; decide), show popB ds = [] from if_neg (by rw [he]; decide)]; exact ⟨bytes_nil, lists_nil⟩⟩
    ·
      have hsm : ∀ d ∈ ds, d.length ≤ 90000 := fun d hd => by have := hgd.2 d hd; omega
      have he : popE ds = 0 := by rw [popE, if_pos hgt, if_neg (by omega)]
      obtain ⟨rs, hs⟩ := hW
      obtain ⟨b, o, r, d, hsp, hr, hd, his, hlen, hsee⟩ := hs.at (by decide) (show 0 < X.fList.n by omega)
      have hW : ListsAt W X.fList ds := ⟨rs, hs⟩
      refine Sat.skip ?_
      refine at_n ?_
      refine Sat.seq ?_
      -- region 5
      refine Sat.withK (sp_v (sp_k sp_n)) rfl ?_
      refine Sat.draw [(0, 0), (0, 1), (0, 2), (1, 3), (0, 5), (0, 6), (0, 7), (4, 4), (4, 8), (0, 9), (0, 10), (4, 11), (0, 12)] Mixed (by kernel_rfl) ?_
      refine Tr.fld rfl rfl rfl Tryz.underlying93 rfl Sz91 (by decide) _ rfl ?_
      refine Tr.kload1 rfl rfl rfl Tryz.underlying91 rfl (by first | exact mem0 | exact mem1 | exact mem2 | exact mem3 | exact mem4 | exact mem5 | exact mem6 | exact mem7 | (repeat (first | exact List.mem_cons_self | refine List.mem_cons_of_mem _ ?_ | refine mem_seg ?_))) (by first | exact Inbox.get_fList (by first | assumption | (simp; done) | exact Block.zero_ok | exact Vote.zero_ok | exact Reader.zero_ok | exact Cut.zero_ok | exact Cert.zero_ok | exact Msg.zero_ok | exact Inbox.zero_ok | exact Record.zero_ok | exact Kept.zero_ok  | exact ⟨trivial⟩) | exact (by first | rfl | exact get_words (by first | omega | (simp; done) | (simp; omega)) | exact get_bytes (by first | omega | (simp; done) | (simp; omega)) | exact get_ints (by first | omega | (simp; done) | (simp; omega)))) ?_
      refine Tr.idxSlP 1 rfl rfl rfl hsp rfl Tryz.underlying91 Sz58 0 rfl (by omega) ?_
      refine Tr.loadE rfl rfl rfl Tryz.underlying58 rfl (by first | (simp; done) | (simp; exact hW.2.2) | (simp [Cx.with]; done) | (simp [Cx.with]; omega)) (hsee 0 _ rfl) ?_
      refine Tr.fld rfl rfl rfl Tryz.underlying93 rfl Sz91 (by decide) _ rfl ?_
      refine Tr.kload1 rfl rfl rfl Tryz.underlying91 rfl (by first | exact mem0 | exact mem1 | exact mem2 | exact mem3 | exact mem4 | exact mem5 | exact mem6 | exact mem7 | (repeat (first | exact List.mem_cons_self | refine List.mem_cons_of_mem _ ?_ | refine mem_seg ?_))) (by first | exact Inbox.get_fList (by first | assumption | (simp; done) | exact Block.zero_ok | exact Vote.zero_ok | exact Reader.zero_ok | exact Cut.zero_ok | exact Cert.zero_ok | exact Msg.zero_ok | exact Inbox.zero_ok | exact Record.zero_ok | exact Kept.zero_ok  | exact ⟨trivial⟩) | exact (by first | rfl | exact get_words (by first | omega | (simp; done) | (simp; omega)) | exact get_bytes (by first | omega | (simp; done) | (simp; omega)) | exact get_ints (by first | omega | (simp; done) | (simp; omega)))) ?_
      refine Tr.sliceLoP 1 rfl rfl rfl hsp rfl rfl (by omega) hs.cap Tryz.underlying91 Sz58 ?_
      refine Tr.call4 rfl rfl rfl rfl rfl Body141 (bclone r d (by have := his.len; have := hgd.2 d (List.mem_of_getElem? hd); omega)) (fun w h => bytes_ext h rfl his) ?_
      rintro v18 out18 ⟨s18, rfl, hac18⟩
      have hsd := hgd.2 d (List.mem_of_getElem? hd)
      have hrl := his.len
      have hoi : ∀ W2, Lies out18 W2 → BytesAt W2 s18 d := fun W2 hl => acc_bytes hac18 hl hrl (by omega)
      refine Tr.call4 rfl rfl rfl rfl rfl Body140 (sync_copies ⟨some ⟨b, if X.fList.c = 1 then o else o + 1 * 1, none⟩, X.fList.n - 1, X.fList.c - 1⟩ ds.tail (by simp only []; omega) (fun d hd => hsm d (List.mem_of_mem_tail hd))) (fun w h => lists_ext h rfl (lists_tail hW hsp (by omega))) ?_
      rintro v22 out22 ⟨s22, bl, bl2, rs2, rfl, rfl, hos⟩
      simp only [List.append_assoc, List.cons_append, List.nil_append]
      refine Tr.build (cs := (⟨s22⟩ : Inbox).cells) rfl rfl rfl (fun w => by kernel_rfl) ?_
      refine Tr.assign rfl rfl rfl ?_
      refine Tr.storeAll rfl rfl rfl rfl (Inbox.isCell (by first | assumption | (simp; done) | exact Block.zero_ok | exact Vote.zero_ok | exact Reader.zero_ok | exact Cut.zero_ok | exact Cert.zero_ok | exact Msg.zero_ok | exact Inbox.zero_ok | exact Record.zero_ok | exact Kept.zero_ok  | exact ⟨trivial⟩)) Sz93 (Inbox.length (by first | assumption | (simp; done) | exact Block.zero_ok | exact Vote.zero_ok | exact Reader.zero_ok | exact Cut.zero_ok | exact Cert.zero_ok | exact Msg.zero_ok | exact Inbox.zero_ok | exact Record.zero_ok | exact Kept.zero_ok  | exact ⟨trivial⟩)) (by first | exact mem0 | exact mem1 | exact mem2 | exact mem3 | exact mem4 | exact mem5 | exact mem6 | exact mem7 | (repeat (first | exact List.mem_cons_self | refine List.mem_cons_of_mem _ ?_ | refine mem_seg ?_))) (Inbox.length (by first | assumption | (simp; done) | exact Block.zero_ok | exact Vote.zero_ok | exact Reader.zero_ok | exact Cut.zero_ok | exact Cert.zero_ok | exact Msg.zero_ok | exact Inbox.zero_ok | exact Record.zero_ok | exact Kept.zero_ok  | exact ⟨trivial⟩)) (by first | exact upd0 | exact upd1 | exact upd2 | exact upd3 | exact upd4 | exact upd5 | exact upd6 | exact upd7 | (repeat (first | exact upd0 | apply Upd.tail | apply Upd.seg))) ?_
      refine Tr.assign rfl rfl rfl ?_
      refine Tr.nil ?_
      refine at_n ?_
      refine Sat.ret ?_
      refine en_r ?_
      simp only [List.cons_append, List.nil_append, List.append_assoc]
      refine end_perm (out := (bl ++ (bl2 ++ (out18 ++ [])))) (res_tmp_cell_tmp rfl rfl rfl rfl Tryz.underlying93 rfl Sz93 (by first | exact mem0 | exact mem1 | exact mem2 | exact mem3 | exact mem4 | exact mem5 | exact mem6 | exact mem7 | (repeat (first | exact List.mem_cons_self | refine List.mem_cons_of_mem _ ?_ | refine mem_seg ?_))) (by first | (simp; done) | exact Inbox.length (by first | assumption | (simp; done) | exact Block.zero_ok | exact Vote.zero_ok | exact Reader.zero_ok | exact Cut.zero_ok | exact Cert.zero_ok | exact Msg.zero_ok | exact Inbox.zero_ok | exact Record.zero_ok | exact Kept.zero_ok  | exact ⟨trivial⟩))) (pm_seg (by repeat (first | exact sg_here | exact sg_end | apply sg_there | apply sg_seg)) (pm_seg (by repeat (first | exact sg_here | exact sg_end | apply sg_there | apply sg_seg)) (pm_seg (by repeat (first | exact sg_here | exact sg_end | apply sg_there | apply sg_seg)) pm_nil))) ?_
      have hpb : popB ds = d := (if_pos he).trans (by cases ds; simp at hd; simpa using hd)
      refine ⟨s18, ⟨s22⟩, (by rw [he]; try rfl), by rw [hpb, hac18.num]; exact hrl, by rw [show popD ds = ds.tail from if_pos he, List.length_tail]; show s22.n = _; rw [hos.acc.num, hn], fun W2 hl => ?_⟩
      rw [show popD ds = ds.tail from if_pos he, hpb]
      refine ⟨?_, ⟨_, hos.seq (hl.sub (by intro b hb; simp only [List.mem_append] at hb ⊢; first | (rcases hb with hb | hb <;> simp [hb]; done) | (simp [hb]; done))) (hl.sub (by intro b hb; simp only [List.mem_append] at hb ⊢; first | (rcases hb with hb | hb <;> simp [hb]; done) | (simp [hb]; done))) (by simp only []; omega)⟩⟩
      exact hoi W2 (hl.sub (by intro b hb; simp only [List.mem_append] at hb ⊢; first | (rcases hb with hb | hb <;> simp [hb]; done) | (simp [hb]; done)))

end Go.Proofs.YtejjamifnombhaaGreat
end

section
namespace Go.Proofs.YtejjamifnombhaaGreat
open Go Hw
set_option linter.unusedVariables false
set_option linter.unusedSimpArgs false

set_option maxRecDepth 100000 in
set_option maxHeartbeats 1000000 in
theorem oct_clamp1  : Meets Tryz.prog 196 [i64 1] [] (fun _ => True) (fun v out => v = i64 1 ∧ out = []) := by
  intro W hW
  refine calls_of (hp0 := []) Tryz.func196 rfl 6 Tryz.ntmps196 rfl (HRep.nil _) ?_
  refine Sat.seq ?_
  -- region 0
  refine Sat.region ?_
  refine Tr.assign rfl rfl rfl ?_
  refine Tr.nil ?_
  refine at_n ?_
  refine Sat.seq ?_
  -- region 1
  refine Sat.region ?_
  refine Tr.move rfl rfl rfl ?_
  refine Tr.min2 rfl rfl rfl rfl (rfl) ?_
  refine Tr.max2 rfl rfl rfl rfl (rfl) ?_
  refine Tr.assign rfl rfl rfl ?_
  refine Tr.nil ?_
  refine at_n ?_
  refine Sat.ret ?_
  refine en_r ?_
  refine ⟨_, [], res_tmp rfl rfl, (by simp), (by simp), ?_, rfl⟩
  rfl


set_option maxRecDepth 100000 in
set_option maxHeartbeats 2000000 in
theorem rd_word_more (n q N cp at' : Nat) (xs : List UInt8) (hx : xs.length = N) (hat : at' ≤ N) (hN : N ≤ cp) (hbig : N ≤ 1000000) (hk : N < at' + 1) : Meets Tryz.prog 97 [ptr n 0, i64 1] [n] (fun W => BlkOk W (RB n q N cp (at') (0)) ∧ Sees W q 0 (bytesV xs) ∧ q ≠ n) (fun v out => v = u64 0 ∧ out = [RB n q N cp (at') (5)]) := by
  intro W hW
  refine calls_of (hp0 := [RB n q N cp (at') (0)]) Tryz.func97 rfl 36 Tryz.ntmps97 rfl (HRep.one hW.1) ?_
  refine Sat.seq ?_
  -- region 0
  refine Sat.region ?_
  refine Tr.assign rfl rfl (show evIn _ _ = some (u64 0) from rfl) ?_
  refine Tr.nil ?_
  refine at_n ?_
  refine Sat.seq ?_
  -- region 1
  refine Sat.region ?_
  refine Tr.move rfl rfl rfl ?_
  refine Tr.move rfl rfl rfl ?_
  refine Tr.callV rfl rfl rfl rfl Body196 (oct_clamp1) (fun _ _ => trivial) ?_
  refine Tr.conv rfl rfl rfl Tryz.underlying3 Tryz.underlying48 (cv_i64_u64 _) ?_
  rw [show wordOf 1 = 1 from rfl]
  refine Tr.callL (L := [RB n q N cp (at') (0)]) rfl rfl rfl rfl rfl Body195 (rd_take_more n q N cp at' 1 hat hN hbig hk) rem_here (by intro m hm; exact ⟨_, List.mem_singleton.2 rfl, (List.mem_singleton.1 hm).symm⟩) (fun w h => own_blk h (by first | exact mem0 | exact mem1 | exact mem2 | exact mem3 | exact mem4 | exact mem5 | exact mem6 | exact mem7 | (repeat (first | exact List.mem_cons_self | refine List.mem_cons_of_mem _ ?_ | refine mem_seg ?_)))) ?_
  rintro v2 out2 ⟨rfl, rfl⟩
  refine Tr.move rfl rfl rfl ?_
  refine Tr.extract rfl rfl rfl rfl ?_
  refine Tr.extract rfl rfl rfl rfl ?_
  refine Tr.assign rfl rfl rfl ?_
  refine Tr.assign rfl rfl rfl ?_
  refine Tr.nil ?_
  refine at_n ?_
  refine Sat.seq ?_
  refine Sat.seq ?_
  -- region 2
  refine Sat.region ?_
  refine Tr.move rfl rfl rfl ?_
  refine Tr.not rfl rfl rfl ?_
  refine Tr.nil ?_
  refine at_n ?_
  refine Sat.cond_t rfl (rfl) ?_
  refine Sat.seq ?_
  -- region 3
  refine Sat.region ?_
  refine Tr.assign rfl rfl (show evIn _ _ = some (u64 0) from rfl) ?_
  refine Tr.nil ?_
  refine at_n ?_
  refine Sat.ret ?_
  refine at_r ?_
  refine en_r ?_
  refine ⟨_, [RB n q N cp (at') (5)], res_tmp rfl rfl, (by intro b hb; rw [List.mem_singleton.1 hb]; exact mem0), nodup1, ?_⟩
  exact ⟨rfl, rfl⟩

set_option maxRecDepth 100000 in
set_option maxHeartbeats 4000000 in
theorem sync_read_nil  : Meets Tryz.prog 29 [.slice none 0 0] [] (fun _ => True) (fun v out => v = .tuple #[agg Msg.zero.cells, i64 4] ∧ out = []) := by
  intro W hW
  refine calls_of (hp0 := []) Tryz.func29 rfl 118 Tryz.ntmps29 rfl (HRep.nil _) ?_
  refine Sat.seq ?_
  -- region 0
  refine Sat.region ?_
  refine Tr.alloc (cs := Msg.zero.cells) rfl Msg.zr rfl ?_
  intro n2 hn2 hf2
  refine Tr.assign rfl rfl rfl ?_
  refine Tr.nil ?_
  refine at_n ?_
  refine Sat.seq ?_
  -- region 1
  refine Sat.region ?_
  refine Tr.move rfl rfl rfl ?_
  refine Tr.call4 rfl rfl rfl rfl rfl Body96 (oct_Read none 0 0 [] rfl (fun _ => rfl) (by decide)) (fun _ _ => SeesP.nil) ?_
  rintro v9 out9 ⟨n9, q9, cp9, rfl, hcp9, rfl⟩
  refine Tr.nd (fun hnd => ?_)
  have hne : q9 ≠ n9 := by intro e; simp [RB, e] at hnd
  clear hnd
  refine Tr.assign rfl rfl rfl ?_
  refine Tr.nil ?_
  refine at_n ?_
  refine Sat.seq ?_
  -- region 2
  refine Sat.region ?_
  refine Tr.move rfl rfl rfl ?_
  refine Tr.callL (L := [RB n9 q9 0 cp9 0 0]) rfl rfl rfl rfl rfl Body97 (rd_word_more n9 q9 0 cp9 0 [] rfl (Nat.le_refl _) (Nat.zero_le _) (by decide) (by decide)) (pm_cons (by repeat (first | exact rem_here | apply rem_there | apply rem_seg)) pm_nil) (lent_ok rfl) (fun w h => ⟨own_blk h (by first | exact mem0 | exact mem1 | exact mem2 | exact mem3 | exact mem4 | exact mem5 | exact mem6 | exact mem7 | (repeat (first | exact List.mem_cons_self | refine List.mem_cons_of_mem _ ?_ | refine mem_seg ?_))), sees_own h (by first | exact mem0 | exact mem1 | exact mem2 | exact mem3 | exact mem4 | exact mem5 | exact mem6 | exact mem7 | (repeat (first | exact List.mem_cons_self | refine List.mem_cons_of_mem _ ?_ | refine mem_seg ?_))), hne⟩) ?_
  rintro v11 out11 ⟨rfl, rfl⟩
  refine Tr.conv rfl rfl rfl Tryz.underlying48 Tryz.underlying3 (cv_u64_i64 (by decide)) ?_
  refine Tr.build (cs := (mz 0 0).cells) rfl rfl rfl (fun w => by kernel_rfl) ?_
  refine Tr.alloc (cs := Msg.zero.cells) rfl Msg.zr rfl ?_
  intro n5 hn5 hf5
  refine Tr.storeAll rfl rfl rfl rfl (Msg.isCell (by first | assumption | (simp; done) | exact Block.zero_ok | exact Vote.zero_ok | exact Reader.zero_ok | exact Cut.zero_ok | exact Cert.zero_ok | exact Msg.zero_ok | exact Inbox.zero_ok | exact Record.zero_ok | exact Kept.zero_ok  | exact ⟨trivial⟩)) Sz57 (Msg.length (by first | assumption | (simp; done) | exact Block.zero_ok | exact Vote.zero_ok | exact Reader.zero_ok | exact Cut.zero_ok | exact Cert.zero_ok | exact Msg.zero_ok | exact Inbox.zero_ok | exact Record.zero_ok | exact Kept.zero_ok  | exact ⟨trivial⟩)) (by first | exact mem0 | exact mem1 | exact mem2 | exact mem3 | exact mem4 | exact mem5 | exact mem6 | exact mem7 | (repeat (first | exact List.mem_cons_self | refine List.mem_cons_of_mem _ ?_ | refine mem_seg ?_))) (Msg.length (by first | assumption | (simp; done) | exact Block.zero_ok | exact Vote.zero_ok | exact Reader.zero_ok | exact Cut.zero_ok | exact Cert.zero_ok | exact Msg.zero_ok | exact Inbox.zero_ok | exact Record.zero_ok | exact Kept.zero_ok  | exact ⟨trivial⟩)) (by first | exact upd0 | exact upd1 | exact upd2 | exact upd3 | exact upd4 | exact upd5 | exact upd6 | exact upd7 | (repeat (first | exact upd0 | apply Upd.tail | apply Upd.seg))) ?_
  refine Tr.nil ?_
  refine at_n ?_
  refine Sat.seq ?_
  -- region 3
  refine Sat.region ?_
  refine Tr.fld rfl rfl rfl Tryz.underlying57 rfl Sz3 (by decide) _ rfl ?_
  refine Tr.load1 rfl rfl rfl Tryz.underlying3 rfl (by first | exact mem0 | exact mem1 | exact mem2 | exact mem3 | exact mem4 | exact mem5 | exact mem6 | exact mem7 | (repeat (first | exact List.mem_cons_self | refine List.mem_cons_of_mem _ ?_ | refine mem_seg ?_))) (by first | exact Msg.get_fKind (by first | assumption | (simp; done) | exact Block.zero_ok | exact Vote.zero_ok | exact Reader.zero_ok | exact Cut.zero_ok | exact Cert.zero_ok | exact Msg.zero_ok | exact Inbox.zero_ok | exact Record.zero_ok | exact Kept.zero_ok  | exact ⟨trivial⟩) | exact (by first | rfl | exact get_words (by first | omega | (simp; done) | (simp; omega)) | exact get_bytes (by first | omega | (simp; done) | (simp; omega)) | exact get_ints (by first | omega | (simp; done) | (simp; omega)))) ?_
  refine Tr.callV rfl rfl rfl rfl Body98 (sync_parts 0) (fun _ _ => trivial) ?_
  refine Tr.assign rfl rfl rfl ?_
  refine Tr.nil ?_
  refine at_n ?_
  refine Sat.seq ?_
  -- region 4
  refine Sat.region ?_
  refine Tr.move rfl rfl rfl ?_
  refine Tr.nei rfl rfl rfl rfl (show (!decide _) = false from congrArg not (decide_eq_true (by decide))) ?_
  refine Tr.assign rfl rfl rfl ?_
  refine Tr.nil ?_
  refine at_n ?_
  refine Sat.seq ?_
  refine Sat.seq ?_
  -- region 5
  refine Sat.region ?_
  refine Tr.move rfl rfl rfl ?_
  refine Tr.move rfl rfl rfl ?_
  refine Tr.skp rfl rfl ?_
  refine Tr.skp rfl rfl ?_
  refine Tr.skp rfl rfl ?_
  refine Tr.pick rfl rfl rfl rfl rfl rfl ?_
  refine Tr.nil ?_
  refine at_n ?_
  refine Sat.cond_f rfl rfl ?_
  refine Sat.skip ?_
  refine at_n ?_
  refine Sat.seq ?_
  refine Sat.seq ?_
  -- region 7
  refine Sat.region ?_
  refine Tr.move rfl rfl rfl ?_
  refine Tr.move rfl rfl rfl ?_
  refine Tr.skp rfl rfl ?_
  refine Tr.skp rfl rfl ?_
  refine Tr.skp rfl rfl ?_
  refine Tr.pick rfl rfl rfl rfl rfl rfl ?_
  refine Tr.nil ?_
  refine at_n ?_
  refine Sat.cond_f rfl rfl ?_
  refine Sat.skip ?_
  refine at_n ?_
  refine Sat.seq ?_
  refine Sat.seq ?_
  -- region 9
  refine Sat.region ?_
  refine Tr.move rfl rfl rfl ?_
  refine Tr.move rfl rfl rfl ?_
  refine Tr.skp rfl rfl ?_
  refine Tr.skp rfl rfl ?_
  refine Tr.skp rfl rfl ?_
  refine Tr.pick rfl rfl rfl rfl rfl rfl ?_
  refine Tr.nil ?_
  refine at_n ?_
  refine Sat.cond_f rfl rfl ?_
  refine Sat.skip ?_
  refine at_n ?_
  refine Sat.seq ?_
  refine Sat.seq ?_
  -- region 11
  refine Sat.region ?_
  refine Tr.move rfl rfl rfl ?_
  refine Tr.move rfl rfl rfl ?_
  refine Tr.skp rfl rfl ?_
  refine Tr.skp rfl rfl ?_
  refine Tr.skp rfl rfl ?_
  refine Tr.pick rfl rfl rfl rfl rfl rfl ?_
  refine Tr.nil ?_
  refine at_n ?_
  refine Sat.cond_f rfl rfl ?_
  refine Sat.skip ?_
  refine at_n ?_
  refine Sat.seq ?_
  refine Sat.seq ?_
  -- region 13
  refine Sat.region ?_
  refine Tr.move rfl rfl rfl ?_
  refine Tr.move rfl rfl rfl ?_
  refine Tr.skp rfl rfl ?_
  refine Tr.skp rfl rfl ?_
  refine Tr.skp rfl rfl ?_
  refine Tr.pick rfl rfl rfl rfl rfl rfl ?_
  refine Tr.nil ?_
  refine at_n ?_
  refine Sat.cond_f rfl rfl ?_
  refine Sat.skip ?_
  refine at_n ?_
  refine Sat.seq ?_
  refine Sat.seq ?_
  -- region 15
  refine Sat.region ?_
  refine Tr.move rfl rfl rfl ?_
  refine Tr.move rfl rfl rfl ?_
  refine Tr.skp rfl rfl ?_
  refine Tr.skp rfl rfl ?_
  refine Tr.skp rfl rfl ?_
  refine Tr.pick rfl rfl rfl rfl rfl rfl ?_
  refine Tr.nil ?_
  refine at_n ?_
  refine Sat.cond_f rfl rfl ?_
  refine Sat.skip ?_
  refine at_n ?_
  refine Sat.seq ?_
  refine Sat.seq ?_
  -- region 17
  refine Sat.region ?_
  refine Tr.move rfl rfl rfl ?_
  refine Tr.move rfl rfl rfl ?_
  refine Tr.skp rfl rfl ?_
  refine Tr.skp rfl rfl ?_
  refine Tr.skp rfl rfl ?_
  refine Tr.pick rfl rfl rfl rfl rfl rfl ?_
  refine Tr.nil ?_
  refine at_n ?_
  refine Sat.cond_f rfl rfl ?_
  refine Sat.skip ?_
  refine at_n ?_
  refine Sat.seq ?_
  refine Sat.seq ?_
  -- region 19
  refine Sat.region ?_
  refine Tr.move rfl rfl rfl ?_
  refine Tr.not rfl rfl rfl ?_
  refine Tr.move rfl rfl rfl ?_
  refine Tr.skp rfl rfl ?_
  refine Tr.skp rfl rfl ?_
  refine Tr.skp rfl rfl ?_
  refine Tr.pick rfl rfl rfl rfl rfl rfl ?_
  refine Tr.move rfl rfl rfl ?_
  refine Tr.skp rfl rfl ?_
  refine Tr.skp rfl rfl ?_
  refine Tr.skp rfl rfl ?_
  refine Tr.pick rfl rfl rfl rfl rfl rfl ?_
  refine Tr.nil ?_
  refine at_n ?_
  refine Sat.cond_t rfl rfl ?_
  refine Sat.seq ?_
  -- region 20
  refine Sat.region ?_
  refine Tr.build (cs := Msg.zero.cells) rfl rfl rfl (fun w => by kernel_rfl) ?_
  refine Tr.storeAll rfl rfl rfl rfl (Msg.isCell (by first | assumption | (simp; done) | exact Block.zero_ok | exact Vote.zero_ok | exact Reader.zero_ok | exact Cut.zero_ok | exact Cert.zero_ok | exact Msg.zero_ok | exact Inbox.zero_ok | exact Record.zero_ok | exact Kept.zero_ok  | exact ⟨trivial⟩)) Sz57 (Msg.length (by first | assumption | (simp; done) | exact Block.zero_ok | exact Vote.zero_ok | exact Reader.zero_ok | exact Cut.zero_ok | exact Cert.zero_ok | exact Msg.zero_ok | exact Inbox.zero_ok | exact Record.zero_ok | exact Kept.zero_ok  | exact ⟨trivial⟩)) (by first | exact mem0 | exact mem1 | exact mem2 | exact mem3 | exact mem4 | exact mem5 | exact mem6 | exact mem7 | (repeat (first | exact List.mem_cons_self | refine List.mem_cons_of_mem _ ?_ | refine mem_seg ?_))) (Msg.length (by first | assumption | (simp; done) | exact Block.zero_ok | exact Vote.zero_ok | exact Reader.zero_ok | exact Cut.zero_ok | exact Cert.zero_ok | exact Msg.zero_ok | exact Inbox.zero_ok | exact Record.zero_ok | exact Kept.zero_ok  | exact ⟨trivial⟩)) (by first | exact upd0 | exact upd1 | exact upd2 | exact upd3 | exact upd4 | exact upd5 | exact upd6 | exact upd7 | (repeat (first | exact upd0 | apply Upd.tail | apply Upd.seg))) ?_
  refine Tr.assign rfl rfl rfl ?_
  refine Tr.nil ?_
  refine at_n ?_
  refine Sat.ret ?_
  refine at_r ?_
  refine en_r ?_
  refine ⟨_, [], res_cell_tmp rfl rfl rfl Tryz.underlying57 rfl Sz57 (by first | exact mem0 | exact mem1 | exact mem2 | exact mem3 | exact mem4 | exact mem5 | exact mem6 | exact mem7 | (repeat (first | exact List.mem_cons_self | refine List.mem_cons_of_mem _ ?_ | refine mem_seg ?_))) (by first | (simp; done) | exact Msg.length (by first | assumption | (simp; done) | exact Block.zero_ok | exact Vote.zero_ok | exact Reader.zero_ok | exact Cut.zero_ok | exact Cert.zero_ok | exact Msg.zero_ok | exact Inbox.zero_ok | exact Record.zero_ok | exact Kept.zero_ok  | exact ⟨trivial⟩)), (by simp), (by simp), ?_, rfl⟩
  rfl

end Go.Proofs.YtejjamifnombhaaGreat
end

section
namespace Go.Proofs.YtejjamifnombhaaGreat
open Go Hw
set_option linter.unusedVariables false
set_option linter.unusedSimpArgs false


theorem lists_made {w : World} {b n : Nat} (hm : n ≤ 100) (hs : Sees w b 0 (List.replicate n (.slice none 0 0))) : ListsAt w ⟨some ⟨b, 0, none⟩, n, n⟩ (List.replicate n []) :=
  ⟨List.replicate n Sl.nil, by simp, by simp, fun j r d hr hd => by
    obtain ⟨_, rfl⟩ := List.getElem?_eq_some_iff.1 hr
    obtain ⟨_, rfl⟩ := List.getElem?_eq_some_iff.1 hd
    simp only [List.getElem_replicate]
    exact bytes_nil, fun r _ => rfl, Nat.le_refl _, by
    have e : ((List.replicate n Sl.nil).map LC).flatten = List.replicate n (.slice none 0 0) := by
      clear hs hm
      induction n with
      | zero => rfl
      | succ n ih => rw [List.replicate_succ, List.map_cons, List.flatten_cons, ih]; rfl
    rw [e]; exact SeesP.of hs, (by show n ≤ maxLen; unfold maxLen; omega), fun e => by cases e⟩
theorem own_bytes {w : World} {C : Cx} {hp : List Blk} {q : Nat} {l : List UInt8} {n : Nat} {T : TypeId} {m : Nat} (h : HRep C hp w) (hb : (⟨q, bytesV l, T, m⟩ : Blk) ∈ hp) (hl : l.length = n) (hn : n ≤ 1000000) : BytesAt w ⟨some ⟨q, 0, none⟩, n, n⟩ l :=
  ⟨hl, Nat.le_refl _, SeesP.of (sees_own h hb), by simp only [maxLen]; omega, fun e => by cases e⟩
theorem ex_push1 : pushE [] [97] = 0 := by decide
theorem ex_push2 : pushE [[97]] [98] = 0 := by decide
theorem ex_pop : popE [[97], [98]] = 0 := by decide
theorem ex_pop0 : popE [] = 6 := by decide
theorem ex_long {d : List UInt8} (h : d.length = 16385) : pushE [] d = 3 := by
  have h : goodI [] = true := by decide
  rw [pushE, if_pos h, if_pos (by omega)]
theorem ex_full : pushE (List.replicate 64 []) [] = 7 := by decide
def dcz : DCert := ⟨⟨0, List.replicate 32 0, []⟩, []⟩
theorem dcz_is {W : World} : CertIs W Cert.zero dcz := ⟨Cert.zero_ok, ⟨Cut.zero_ok, rfl, rfl, rows_none⟩, ⟨[], SeqIs.none⟩⟩
theorem dcz_check : dcz.check = 2 := cert_bad1 (by simp [DCert.head, dcz])
theorem mz_from0 : (dz 6 0).check = 2 := msg_bad (by unfold DMsg.bad; decide)
theorem mz_from1 : (dz 6 1).check = 0 := msg_good (by unfold DMsg.bad; decide)


set_option maxRecDepth 100000 in
set_option maxHeartbeats 8000000 in
theorem law_syncnames  : Meets Tryz.prog 7 [] [] (fun _ => True) (fun v out => v = .bool true ∧ out = []) := by
  intro W hW
  obtain ⟨big, hbig⟩ : ∃ l : List UInt8, l = List.replicate 16385 0 := ⟨_, rfl⟩
  have hbigl : big.length = 16385 := by rw [hbig, List.length_replicate]
  refine calls_of (hp0 := []) Tryz.func7 rfl 116 Tryz.ntmps7 rfl (HRep.nil _) ?_
  refine Sat.seq ?_
  -- region 0
  refine Sat.region ?_
  refine Tr.assign rfl rfl rfl ?_
  refine Tr.nil ?_
  refine at_n ?_
  refine Sat.seq ?_
  -- region 1
  refine Sat.region ?_
  refine Tr.build (cs := Inbox.zero.cells) rfl rfl rfl (fun w => by kernel_rfl) ?_
  refine Tr.mkRow (z := u8 0) [u8 97] (bytesV [97]) rfl rfl rfl Tryz.underlying58 Sz5 Zr5 rfl rfl (by intro v hv; rw [List.mem_singleton.1 hv]; rfl) (by decide) rfl ?_
  intro q17
  refine Tr.constB rfl rfl rfl rfl Tryz.underlying58 Tryz.underlying5 (by first | exact mem0 | exact mem1 | exact mem2 | exact mem3 | exact mem4 | exact mem5 | exact mem6 | exact mem7 | (repeat (first | exact List.mem_cons_self | refine List.mem_cons_of_mem _ ?_ | refine mem_seg ?_))) ?_
  refine Tr.call4 rfl rfl rfl rfl rfl Body45 (sync_push Inbox.zero [] ⟨some ⟨q17, 0, none⟩, 1, 1⟩ [97]) (fun w h => ⟨lists_nil, (own_bytes (q := q17) (l := [97]) h (by first | exact mem0 | exact mem1 | exact mem2 | exact mem3 | exact mem4 | exact mem5 | exact mem6 | exact mem7 | (repeat (first | exact List.mem_cons_self | refine List.mem_cons_of_mem _ ?_ | refine mem_seg ?_))) rfl (by omega))⟩) ?_
  rintro v19 out19 ⟨X19, rfl, h19⟩
  have h19 : ∀ W2, Lies out19 W2 → ListsAt W2 X19.fList [[97]] := h19
  refine Tr.move rfl rfl rfl ?_
  refine Tr.extract rfl rfl rfl rfl ?_
  refine Tr.extract rfl rfl rfl rfl ?_
  refine Tr.alloc (cs := Inbox.zero.cells) rfl Inbox.zr rfl ?_
  intro n1 hn1 hf1
  refine Tr.storeAll rfl rfl rfl rfl (Inbox.isCell (by first | assumption | (simp; done) | exact Block.zero_ok | exact Vote.zero_ok | exact Reader.zero_ok | exact Cut.zero_ok | exact Cert.zero_ok | exact Msg.zero_ok | exact Inbox.zero_ok | exact Record.zero_ok | exact Kept.zero_ok  | exact ⟨trivial⟩)) Sz93 (Inbox.length (by first | assumption | (simp; done) | exact Block.zero_ok | exact Vote.zero_ok | exact Reader.zero_ok | exact Cut.zero_ok | exact Cert.zero_ok | exact Msg.zero_ok | exact Inbox.zero_ok | exact Record.zero_ok | exact Kept.zero_ok  | exact ⟨trivial⟩)) (by first | exact mem0 | exact mem1 | exact mem2 | exact mem3 | exact mem4 | exact mem5 | exact mem6 | exact mem7 | (repeat (first | exact List.mem_cons_self | refine List.mem_cons_of_mem _ ?_ | refine mem_seg ?_))) (Inbox.length (by first | assumption | (simp; done) | exact Block.zero_ok | exact Vote.zero_ok | exact Reader.zero_ok | exact Cut.zero_ok | exact Cert.zero_ok | exact Msg.zero_ok | exact Inbox.zero_ok | exact Record.zero_ok | exact Kept.zero_ok  | exact ⟨trivial⟩)) (by first | exact upd0 | exact upd1 | exact upd2 | exact upd3 | exact upd4 | exact upd5 | exact upd6 | exact upd7 | (repeat (first | exact upd0 | apply Upd.tail | apply Upd.seg))) ?_
  refine Tr.assign rfl rfl rfl ?_
  refine Tr.nil ?_
  refine at_n ?_
  refine Sat.seq ?_
  -- region 2
  refine Sat.region ?_
  refine Tr.loadAll rfl rfl rfl Tryz.underlying93 rfl Sz93 (by first | exact mem0 | exact mem1 | exact mem2 | exact mem3 | exact mem4 | exact mem5 | exact mem6 | exact mem7 | (repeat (first | exact List.mem_cons_self | refine List.mem_cons_of_mem _ ?_ | refine mem_seg ?_))) (Inbox.length (by first | assumption | (simp; done) | exact Block.zero_ok | exact Vote.zero_ok | exact Reader.zero_ok | exact Cut.zero_ok | exact Cert.zero_ok | exact Msg.zero_ok | exact Inbox.zero_ok | exact Record.zero_ok | exact Kept.zero_ok  | exact ⟨trivial⟩)) ?_
  refine Tr.mkRow (z := u8 0) [u8 98] (bytesV [98]) rfl rfl rfl Tryz.underlying58 Sz5 Zr5 rfl rfl (by intro v hv; rw [List.mem_singleton.1 hv]; rfl) (by decide) rfl ?_
  intro q24
  refine Tr.constB rfl rfl rfl rfl Tryz.underlying58 Tryz.underlying5 (by first | exact mem0 | exact mem1 | exact mem2 | exact mem3 | exact mem4 | exact mem5 | exact mem6 | exact mem7 | (repeat (first | exact List.mem_cons_self | refine List.mem_cons_of_mem _ ?_ | refine mem_seg ?_))) ?_
  refine Tr.call4 rfl rfl rfl rfl rfl Body45 (sync_push X19 [[97]] ⟨some ⟨q24, 0, none⟩, 1, 1⟩ [98]) (fun w h => ⟨h19 w (Lies.of h (by repeat (first | exact in_here | exact in_all | refine in_there ?_ | refine in_seg ?_))), (own_bytes (q := q24) (l := [98]) h (by first | exact mem0 | exact mem1 | exact mem2 | exact mem3 | exact mem4 | exact mem5 | exact mem6 | exact mem7 | (repeat (first | exact List.mem_cons_self | refine List.mem_cons_of_mem _ ?_ | refine mem_seg ?_))) rfl (by omega))⟩) ?_
  rintro v26 out26 ⟨X26, rfl, h26⟩
  have h26 : ∀ W2, Lies out26 W2 → ListsAt W2 X26.fList [[97], [98]] := h26
  refine Tr.move rfl rfl rfl ?_
  refine Tr.extract rfl rfl rfl rfl ?_
  refine Tr.extract rfl rfl rfl rfl ?_
  refine Tr.storeAll rfl rfl rfl rfl (Inbox.isCell (by first | assumption | (simp; done) | exact Block.zero_ok | exact Vote.zero_ok | exact Reader.zero_ok | exact Cut.zero_ok | exact Cert.zero_ok | exact Msg.zero_ok | exact Inbox.zero_ok | exact Record.zero_ok | exact Kept.zero_ok  | exact ⟨trivial⟩)) Sz93 (Inbox.length (by first | assumption | (simp; done) | exact Block.zero_ok | exact Vote.zero_ok | exact Reader.zero_ok | exact Cut.zero_ok | exact Cert.zero_ok | exact Msg.zero_ok | exact Inbox.zero_ok | exact Record.zero_ok | exact Kept.zero_ok  | exact ⟨trivial⟩)) (by first | exact mem0 | exact mem1 | exact mem2 | exact mem3 | exact mem4 | exact mem5 | exact mem6 | exact mem7 | (repeat (first | exact List.mem_cons_self | refine List.mem_cons_of_mem _ ?_ | refine mem_seg ?_))) (Inbox.length (by first | assumption | (simp; done) | exact Block.zero_ok | exact Vote.zero_ok | exact Reader.zero_ok | exact Cut.zero_ok | exact Cert.zero_ok | exact Msg.zero_ok | exact Inbox.zero_ok | exact Record.zero_ok | exact Kept.zero_ok  | exact ⟨trivial⟩)) (by first | exact upd0 | exact upd1 | exact upd2 | exact upd3 | exact upd4 | exact upd5 | exact upd6 | exact upd7 | (repeat (first | exact upd0 | apply Upd.tail | apply Upd.seg))) ?_
  refine Tr.assign rfl rfl rfl ?_
  refine Tr.nil ?_
  refine at_n ?_
  refine Sat.seq ?_
  -- region 3
  refine Sat.region ?_
  refine Tr.loadAll rfl rfl rfl Tryz.underlying93 rfl Sz93 (by first | exact mem0 | exact mem1 | exact mem2 | exact mem3 | exact mem4 | exact mem5 | exact mem6 | exact mem7 | (repeat (first | exact List.mem_cons_self | refine List.mem_cons_of_mem _ ?_ | refine mem_seg ?_))) (Inbox.length (by first | assumption | (simp; done) | exact Block.zero_ok | exact Vote.zero_ok | exact Reader.zero_ok | exact Cut.zero_ok | exact Cert.zero_ok | exact Msg.zero_ok | exact Inbox.zero_ok | exact Record.zero_ok | exact Kept.zero_ok  | exact ⟨trivial⟩)) ?_
  refine Tr.call4 rfl rfl rfl rfl rfl Body46 (sync_pop X26 [[97], [98]]) (fun w h => h26 w (Lies.of h (by repeat (first | exact in_here | exact in_all | refine in_there ?_ | refine in_seg ?_)))) ?_
  rintro v31 out31 ⟨s31, X31, rfl, hl31, hx31, h31⟩
  refine Tr.move rfl rfl rfl ?_
  refine Tr.extract rfl rfl rfl rfl ?_
  refine Tr.extract rfl rfl rfl rfl ?_
  refine Tr.extract rfl rfl rfl rfl ?_
  refine Tr.assign rfl rfl rfl ?_
  refine Tr.storeAll rfl rfl rfl rfl (Inbox.isCell (by first | assumption | (simp; done) | exact Block.zero_ok | exact Vote.zero_ok | exact Reader.zero_ok | exact Cut.zero_ok | exact Cert.zero_ok | exact Msg.zero_ok | exact Inbox.zero_ok | exact Record.zero_ok | exact Kept.zero_ok  | exact ⟨trivial⟩)) Sz93 (Inbox.length (by first | assumption | (simp; done) | exact Block.zero_ok | exact Vote.zero_ok | exact Reader.zero_ok | exact Cut.zero_ok | exact Cert.zero_ok | exact Msg.zero_ok | exact Inbox.zero_ok | exact Record.zero_ok | exact Kept.zero_ok  | exact ⟨trivial⟩)) (by first | exact mem0 | exact mem1 | exact mem2 | exact mem3 | exact mem4 | exact mem5 | exact mem6 | exact mem7 | (repeat (first | exact List.mem_cons_self | refine List.mem_cons_of_mem _ ?_ | refine mem_seg ?_))) (Inbox.length (by first | assumption | (simp; done) | exact Block.zero_ok | exact Vote.zero_ok | exact Reader.zero_ok | exact Cut.zero_ok | exact Cert.zero_ok | exact Msg.zero_ok | exact Inbox.zero_ok | exact Record.zero_ok | exact Kept.zero_ok  | exact ⟨trivial⟩)) (by first | exact upd0 | exact upd1 | exact upd2 | exact upd3 | exact upd4 | exact upd5 | exact upd6 | exact upd7 | (repeat (first | exact upd0 | apply Upd.tail | apply Upd.seg))) ?_
  refine Tr.assign rfl rfl rfl ?_
  refine Tr.nil ?_
  refine at_n ?_
  refine Sat.seq ?_
  -- region 4
  refine Sat.region ?_
  refine Tr.build (cs := Inbox.zero.cells) rfl rfl rfl (fun w => by kernel_rfl) ?_
  refine Tr.call4 rfl rfl rfl rfl rfl Body46 (sync_pop Inbox.zero []) (fun w h => lists_nil) ?_
  rintro v37 out37 ⟨s37, X37, rfl, hl37, hx37, h37⟩
  refine Tr.move rfl rfl rfl ?_
  refine Tr.extract rfl rfl rfl rfl ?_
  refine Tr.extract rfl rfl rfl rfl ?_
  refine Tr.extract rfl rfl rfl rfl ?_
  refine Tr.alloc (cs := Inbox.zero.cells) rfl Inbox.zr rfl ?_
  intro n7 hn7 hf7
  refine Tr.assign rfl rfl rfl ?_
  refine Tr.storeAll rfl rfl rfl rfl (Inbox.isCell (by first | assumption | (simp; done) | exact Block.zero_ok | exact Vote.zero_ok | exact Reader.zero_ok | exact Cut.zero_ok | exact Cert.zero_ok | exact Msg.zero_ok | exact Inbox.zero_ok | exact Record.zero_ok | exact Kept.zero_ok  | exact ⟨trivial⟩)) Sz93 (Inbox.length (by first | assumption | (simp; done) | exact Block.zero_ok | exact Vote.zero_ok | exact Reader.zero_ok | exact Cut.zero_ok | exact Cert.zero_ok | exact Msg.zero_ok | exact Inbox.zero_ok | exact Record.zero_ok | exact Kept.zero_ok  | exact ⟨trivial⟩)) (by first | exact mem0 | exact mem1 | exact mem2 | exact mem3 | exact mem4 | exact mem5 | exact mem6 | exact mem7 | (repeat (first | exact List.mem_cons_self | refine List.mem_cons_of_mem _ ?_ | refine mem_seg ?_))) (Inbox.length (by first | assumption | (simp; done) | exact Block.zero_ok | exact Vote.zero_ok | exact Reader.zero_ok | exact Cut.zero_ok | exact Cert.zero_ok | exact Msg.zero_ok | exact Inbox.zero_ok | exact Record.zero_ok | exact Kept.zero_ok  | exact ⟨trivial⟩)) (by first | exact upd0 | exact upd1 | exact upd2 | exact upd3 | exact upd4 | exact upd5 | exact upd6 | exact upd7 | (repeat (first | exact upd0 | apply Upd.tail | apply Upd.seg))) ?_
  refine Tr.assign rfl rfl rfl ?_
  refine Tr.nil ?_
  refine at_n ?_
  refine Sat.seq ?_
  -- region 5
  refine Sat.region ?_
  refine Tr.build (cs := Inbox.zero.cells) rfl rfl rfl (fun w => by kernel_rfl) ?_
  refine Tr.mkSlice (z := u8 0) (by' := 1) 16385 rfl rfl rfl rfl Tryz.underlying58 Sz5 Zr5 (by unfold By; kernel_rfl) rfl (by omega) (by omega) (by omega) ?_
  intro q43
  rw [show blk q43 (List.replicate 16385 (u8 0)) 5 = ⟨q43, bytesV big, 5, 16385 * 1⟩ by rw [hbig, bytesV, List.map_replicate, blk, List.length_replicate, Nat.mul_one]]
  refine Tr.call4 rfl rfl rfl rfl rfl Body45 (sync_push Inbox.zero [] ⟨some ⟨q43, 0, none⟩, 16385, 16385⟩ big) (fun w h => ⟨lists_nil, (own_bytes (q := q43) (l := big) h (by first | exact mem0 | exact mem1 | exact mem2 | exact mem3 | exact mem4 | exact mem5 | exact mem6 | exact mem7 | (repeat (first | exact List.mem_cons_self | refine List.mem_cons_of_mem _ ?_ | refine mem_seg ?_))) hbigl (by omega))⟩) ?_
  rintro v44 out44 ⟨X44, rfl, h44⟩
  refine Tr.move rfl rfl rfl ?_
  refine Tr.extract rfl rfl rfl rfl ?_
  refine Tr.extract rfl rfl rfl rfl ?_
  refine Tr.alloc (cs := Inbox.zero.cells) rfl Inbox.zr rfl ?_
  intro n9 hn9 hf9
  refine Tr.storeAll rfl rfl rfl rfl (Inbox.isCell (by first | assumption | (simp; done) | exact Block.zero_ok | exact Vote.zero_ok | exact Reader.zero_ok | exact Cut.zero_ok | exact Cert.zero_ok | exact Msg.zero_ok | exact Inbox.zero_ok | exact Record.zero_ok | exact Kept.zero_ok  | exact ⟨trivial⟩)) Sz93 (Inbox.length (by first | assumption | (simp; done) | exact Block.zero_ok | exact Vote.zero_ok | exact Reader.zero_ok | exact Cut.zero_ok | exact Cert.zero_ok | exact Msg.zero_ok | exact Inbox.zero_ok | exact Record.zero_ok | exact Kept.zero_ok  | exact ⟨trivial⟩)) (by first | exact mem0 | exact mem1 | exact mem2 | exact mem3 | exact mem4 | exact mem5 | exact mem6 | exact mem7 | (repeat (first | exact List.mem_cons_self | refine List.mem_cons_of_mem _ ?_ | refine mem_seg ?_))) (Inbox.length (by first | assumption | (simp; done) | exact Block.zero_ok | exact Vote.zero_ok | exact Reader.zero_ok | exact Cut.zero_ok | exact Cert.zero_ok | exact Msg.zero_ok | exact Inbox.zero_ok | exact Record.zero_ok | exact Kept.zero_ok  | exact ⟨trivial⟩)) (by first | exact upd0 | exact upd1 | exact upd2 | exact upd3 | exact upd4 | exact upd5 | exact upd6 | exact upd7 | (repeat (first | exact upd0 | apply Upd.tail | apply Upd.seg))) ?_
  refine Tr.assign rfl rfl rfl ?_
  refine Tr.nil ?_
  refine at_n ?_
  refine Sat.seq ?_
  -- region 6
  refine Sat.region ?_
  refine Tr.mkSlice (z := .slice none 0 0) (by' := 24) 64 rfl rfl rfl rfl Tryz.underlying91 Sz58 Zr58 (by unfold By; kernel_rfl) rfl (by omega) (by omega) (by omega) ?_
  intro q48
  refine Tr.build (cs := (⟨⟨some ⟨q48, 0, none⟩, 64, 64⟩⟩ : Inbox).cells) rfl rfl rfl (fun w => by kernel_rfl) ?_
  refine Tr.call4 rfl rfl rfl rfl rfl Body45 (sync_push ⟨⟨some ⟨q48, 0, none⟩, 64, 64⟩⟩ (List.replicate 64 []) Sl.nil []) (fun w h => ⟨lists_made (by decide) (sees_own h (by first | exact mem0 | exact mem1 | exact mem2 | exact mem3 | exact mem4 | exact mem5 | exact mem6 | exact mem7 | (repeat (first | exact List.mem_cons_self | refine List.mem_cons_of_mem _ ?_ | refine mem_seg ?_)))), bytes_nil⟩) ?_
  rintro v50 out50 ⟨X50, rfl, h50⟩
  refine Tr.move rfl rfl rfl ?_
  refine Tr.extract rfl rfl rfl rfl ?_
  refine Tr.extract rfl rfl rfl rfl ?_
  refine Tr.alloc (cs := Inbox.zero.cells) rfl Inbox.zr rfl ?_
  intro n11 hn11 hf11
  refine Tr.storeAll rfl rfl rfl rfl (Inbox.isCell (by first | assumption | (simp; done) | exact Block.zero_ok | exact Vote.zero_ok | exact Reader.zero_ok | exact Cut.zero_ok | exact Cert.zero_ok | exact Msg.zero_ok | exact Inbox.zero_ok | exact Record.zero_ok | exact Kept.zero_ok  | exact ⟨trivial⟩)) Sz93 (Inbox.length (by first | assumption | (simp; done) | exact Block.zero_ok | exact Vote.zero_ok | exact Reader.zero_ok | exact Cut.zero_ok | exact Cert.zero_ok | exact Msg.zero_ok | exact Inbox.zero_ok | exact Record.zero_ok | exact Kept.zero_ok  | exact ⟨trivial⟩)) (by first | exact mem0 | exact mem1 | exact mem2 | exact mem3 | exact mem4 | exact mem5 | exact mem6 | exact mem7 | (repeat (first | exact List.mem_cons_self | refine List.mem_cons_of_mem _ ?_ | refine mem_seg ?_))) (Inbox.length (by first | assumption | (simp; done) | exact Block.zero_ok | exact Vote.zero_ok | exact Reader.zero_ok | exact Cut.zero_ok | exact Cert.zero_ok | exact Msg.zero_ok | exact Inbox.zero_ok | exact Record.zero_ok | exact Kept.zero_ok  | exact ⟨trivial⟩)) (by first | exact upd0 | exact upd1 | exact upd2 | exact upd3 | exact upd4 | exact upd5 | exact upd6 | exact upd7 | (repeat (first | exact upd0 | apply Upd.tail | apply Upd.seg))) ?_
  refine Tr.assign rfl rfl rfl ?_
  refine Tr.nil ?_
  refine at_n ?_
  refine Sat.seq ?_
  -- region 7
  refine Sat.region ?_
  refine Tr.callV rfl rfl rfl rfl Body29 (sync_read_nil) (fun _ _ => trivial) ?_
  refine Tr.move rfl rfl rfl ?_
  refine Tr.extract rfl rfl rfl rfl ?_
  refine Tr.extract rfl rfl rfl rfl ?_
  refine Tr.alloc (cs := Msg.zero.cells) rfl Msg.zr rfl ?_
  intro n13 hn13 hf13
  refine Tr.storeAll rfl rfl rfl rfl (Msg.isCell (by first | assumption | (simp; done) | exact Block.zero_ok | exact Vote.zero_ok | exact Reader.zero_ok | exact Cut.zero_ok | exact Cert.zero_ok | exact Msg.zero_ok | exact Inbox.zero_ok | exact Record.zero_ok | exact Kept.zero_ok  | exact ⟨trivial⟩)) Sz57 (Msg.length (by first | assumption | (simp; done) | exact Block.zero_ok | exact Vote.zero_ok | exact Reader.zero_ok | exact Cut.zero_ok | exact Cert.zero_ok | exact Msg.zero_ok | exact Inbox.zero_ok | exact Record.zero_ok | exact Kept.zero_ok  | exact ⟨trivial⟩)) (by first | exact mem0 | exact mem1 | exact mem2 | exact mem3 | exact mem4 | exact mem5 | exact mem6 | exact mem7 | (repeat (first | exact List.mem_cons_self | refine List.mem_cons_of_mem _ ?_ | refine mem_seg ?_))) (Msg.length (by first | assumption | (simp; done) | exact Block.zero_ok | exact Vote.zero_ok | exact Reader.zero_ok | exact Cut.zero_ok | exact Cert.zero_ok | exact Msg.zero_ok | exact Inbox.zero_ok | exact Record.zero_ok | exact Kept.zero_ok  | exact ⟨trivial⟩)) (by first | exact upd0 | exact upd1 | exact upd2 | exact upd3 | exact upd4 | exact upd5 | exact upd6 | exact upd7 | (repeat (first | exact upd0 | apply Upd.tail | apply Upd.seg))) ?_
  refine Tr.assign rfl rfl rfl ?_
  refine Tr.nil ?_
  refine at_n ?_
  refine Sat.seq ?_
  -- region 8
  refine Sat.region ?_
  refine Tr.callV rfl rfl rfl rfl Body26 (law25_lives) (fun _ _ => trivial) ?_
  refine Tr.move rfl rfl rfl ?_
  refine Tr.move rfl rfl rfl ?_
  refine Tr.eqi rfl rfl rfl rfl (decide_eq_true (ex_push1)) ?_
  refine Tr.pick rfl rfl rfl rfl rfl rfl ?_
  refine Tr.move rfl rfl rfl ?_
  refine Tr.move rfl rfl rfl ?_
  refine Tr.eqi rfl rfl rfl rfl (decide_eq_true (ex_push2)) ?_
  refine Tr.pick rfl rfl rfl rfl rfl rfl ?_
  refine Tr.move rfl rfl rfl ?_
  refine Tr.move rfl rfl rfl ?_
  refine Tr.eqi rfl rfl rfl rfl (decide_eq_true (ex_pop)) ?_
  refine Tr.pick rfl rfl rfl rfl rfl rfl ?_
  refine Tr.move rfl rfl rfl ?_
  refine Tr.move rfl rfl rfl ?_
  refine Tr.toStr rfl rfl rfl Tryz.underlying58 Tryz.underlying5 Tryz.underlying9 (fun w h => (h31 w (Lies.of h (by repeat (first | exact in_here | exact in_all | refine in_there ?_ | refine in_seg ?_)))).1.see) hl31 ?_
  refine Tr.eql_str rfl rfl rfl rfl (decide_eq_true (rfl)) ?_
  refine Tr.pick rfl rfl rfl rfl rfl rfl ?_
  refine Tr.move rfl rfl rfl ?_
  refine Tr.fld rfl rfl rfl Tryz.underlying93 rfl Sz91 (by decide) _ rfl ?_
  refine Tr.load1 rfl rfl rfl Tryz.underlying91 rfl (by first | exact mem0 | exact mem1 | exact mem2 | exact mem3 | exact mem4 | exact mem5 | exact mem6 | exact mem7 | (repeat (first | exact List.mem_cons_self | refine List.mem_cons_of_mem _ ?_ | refine mem_seg ?_))) (by first | exact Inbox.get_fList (by first | assumption | (simp; done) | exact Block.zero_ok | exact Vote.zero_ok | exact Reader.zero_ok | exact Cut.zero_ok | exact Cert.zero_ok | exact Msg.zero_ok | exact Inbox.zero_ok | exact Record.zero_ok | exact Kept.zero_ok  | exact ⟨trivial⟩) | exact (by first | rfl | exact get_words (by first | omega | (simp; done) | (simp; omega)) | exact get_bytes (by first | omega | (simp; done) | (simp; omega)) | exact get_ints (by first | omega | (simp; done) | (simp; omega)))) ?_
  refine Tr.lenSl rfl rfl rfl Tryz.underlying91 ?_
  refine Tr.eqi rfl rfl rfl rfl (decide_eq_true (by rw [hx31]; rfl)) ?_
  refine Tr.pick rfl rfl rfl rfl rfl rfl ?_
  refine Tr.move rfl rfl rfl ?_
  refine Tr.move rfl rfl rfl ?_
  refine Tr.eqi rfl rfl rfl rfl (decide_eq_true (ex_pop0)) ?_
  refine Tr.pick rfl rfl rfl rfl rfl rfl ?_
  refine Tr.move rfl rfl rfl ?_
  refine Tr.move rfl rfl rfl ?_
  refine Tr.eqi rfl rfl rfl rfl (decide_eq_true (ex_long hbigl)) ?_
  refine Tr.pick rfl rfl rfl rfl rfl rfl ?_
  refine Tr.move rfl rfl rfl ?_
  refine Tr.move rfl rfl rfl ?_
  refine Tr.eqi rfl rfl rfl rfl (decide_eq_true (ex_full)) ?_
  refine Tr.pick rfl rfl rfl rfl rfl rfl ?_
  refine Tr.move rfl rfl rfl ?_
  refine Tr.move rfl rfl rfl ?_
  refine Tr.eqi rfl rfl rfl rfl (decide_eq_true (rfl)) ?_
  refine Tr.pick rfl rfl rfl rfl rfl rfl ?_
  refine Tr.move rfl rfl rfl ?_
  refine Tr.build (cs := (mz 6 0).cells) rfl rfl rfl (fun w => by kernel_rfl) ?_
  refine Tr.callV rfl rfl rfl rfl Body37 (msg_check (mz 6 0) (dz 6 0)) (fun w h => mz_is 6 0 rfl) ?_
  refine Tr.eqi rfl rfl rfl rfl (decide_eq_true (mz_from0)) ?_
  refine Tr.pick rfl rfl rfl rfl rfl rfl ?_
  refine Tr.move rfl rfl rfl ?_
  refine Tr.build (cs := (mz 6 1).cells) rfl rfl rfl (fun w => by kernel_rfl) ?_
  refine Tr.callV rfl rfl rfl rfl Body37 (msg_check (mz 6 1) (dz 6 1)) (fun w h => mz_is 6 1 rfl) ?_
  refine Tr.eqi rfl rfl rfl rfl (decide_eq_true (mz_from1)) ?_
  refine Tr.pick rfl rfl rfl rfl rfl rfl ?_
  refine Tr.move rfl rfl rfl ?_
  refine Tr.build (cs := Cert.zero.cells) rfl rfl rfl (fun w => by kernel_rfl) ?_
  refine Tr.callV rfl rfl rfl rfl Body34 (cert_check Cert.zero dcz) (fun w h => dcz_is) ?_
  refine Tr.eqi rfl rfl rfl rfl (decide_eq_true (dcz_check)) ?_
  refine Tr.pick rfl rfl rfl rfl rfl rfl ?_
  refine Tr.move rfl rfl rfl ?_
  refine Tr.pick rfl rfl rfl rfl rfl rfl ?_
  refine Tr.move rfl rfl rfl ?_
  refine Tr.pick rfl rfl rfl rfl rfl rfl ?_
  refine Tr.assign rfl rfl rfl ?_
  refine Tr.nil ?_
  refine at_n ?_
  refine Sat.ret ?_
  refine en_r ?_
  refine ⟨_, [], res_tmp rfl rfl, (by simp), (by simp), ?_, rfl⟩
  rfl

end Go.Proofs.YtejjamifnombhaaGreat
end

section
namespace Go.Proofs.YtejjamifnombhaaGreat
open Go Go.ChangeShapes Go.WideShapes Go.ChangeAt Go.RowKit
set_option linter.unusedVariables false

theorem ownSNamess : ownKnob Tryz.prog.godebug = none := by kernel_rfl
theorem walkSNames (w : World) : Calls Tryz.prog 7 #[] w fun e w' => e = .returned (.bool true) ∧ Below w.heap.size w w' :=
  (law_syncnames w trivial).mono fun e w' ⟨v, out, he, ⟨hv, ho⟩, hr⟩ => ⟨by rw [he, hv], Hw.Keeps.below hr.keeps⟩

set_option maxRecDepth 100000 in
theorem liftedSNames (os : Os) (started : os.Started) (H : Type) (enc : TypeId × Value → H) :
    ReturnsInHanded {} Tryz.checked os 7 .any (Rows.syncNamesSpec.pre6 enc Tryz.prog Tryz.f7 Rows.syncNamesRow.domain false) (Rows.syncNamesSpec.post enc Tryz.prog Tryz.f7 false true false false) := by
  refine returnsInHanded_of_change (C := Tryz.checked) ownSNamess started (by kernel_rfl) Tryz.func7
    (ChangeSpec.witness6 (enc := enc) (C := Tryz.checked) false ⟨#[], #[], []⟩ 8 (by kernel_rfl) (by kernel_rfl) (by kernel_rfl) (by kernel_rfl)) ?_
  intro W base args ds gs before hval0 hW hcnd _
  have hW' := hW
  obtain ⟨p, q, hA0, hV, rfl, hfz, hnd⟩ := hW
  have hA : DataW.TrodAll enc Tryz.prog W 0 (fun _ => true) true Tryz.f7.params.toList args.toList ds p := hA0
  rw [Tryz.params7] at hA
  obtain ⟨hargs, rfl, rfl⟩ := trodAll_nil hA
  obtain rfl : args = #[] := by cases args; simp_all
  obtain ⟨rfl, rfl⟩ := trodVars_none hV
  clear hA0 hval0
  refine (walkSNames W).mono fun e W' ⟨he, bel⟩ => ?_
  subst he
  exact ⟨_, rfl, _, _, _, [], _, [], hW', trodAll_mk1 (shut_bool Tryz.underlying4 _), trodAll_mk0, rfl, bel.frame _, fun h => by cases h⟩

theorem syncNames_holds : Rows.SyncNamesSaid :=
  OpenClaim.holds_of_wide 7 Tryz.f7 rfl rfl rfl rfl rfl rfl rfl ⟨rfl, rfl, rfl, rfl, rfl⟩ rfl rfl rfl rfl rfl (by kernel_rfl) Tryz.func7 (by kernel_rfl)
    (of_decide_eq_true (by kernel_rfl)) (by unfold Func.isWrapper; first | (rw [if_pos (by decide +kernel)]; kernel_rfl) | (rw [if_neg (by decide +kernel)]; exact ⟨rfl, rfl⟩))
    (fun os started H enc _ => liftedSNames os started H enc)

end Go.Proofs.YtejjamifnombhaaGreat
end
