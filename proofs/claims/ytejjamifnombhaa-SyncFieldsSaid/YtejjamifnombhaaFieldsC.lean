/- headwaterlaw25.SyncFields returns true at every input, and all that it reads reads behind the call as before. Conditions: none beyond the given statement's own. -/
import Derived.WalkKit
import Derived.Orders
import Derived.Deep.LoopGhost
import Derived.IntWalk
import Derived.Laws.StructEq
import Derived.ArgAppend
import Derived.Deep.AppendSrc
import Derived.Lib.Bytealg
import Derived.Lib.BytesEntry
import Derived.Laws.IdiomStrings
import Derived.WideKeyArr2
import Derived.ProofKit
import Derived.OpenShut
import Derived.Deep.Slices
import Derived.Laws.Pointers
import Derived.Laws.Cover3
import Derived.LaidEqlPtr
import Derived.LoopN
import Derived.RangeFuncLeaves
import Derived.RangeFuncSeq
import Derived.OrdersIn
import Derived.Test.YtejjamifnombhaaRows
import Derived.KernelRfl
import Derived.Laws.Externs
import Derived.ChangeOld
import Derived.Below
import Derived.Test.YtejjamifnombhaaFieldsC4
section
namespace Go.Proofs.Ytejjamifnombhaa
open Go Hw
set_option linter.unusedVariables false
set_option linter.unusedSimpArgs false


theorem dec_imp {p q : Prop} [Decidable p] [Decidable q] (h : p ↔ q) : (decide p != decide q) = false := by simp [h]
theorem dec_impT {p q : Prop} [Decidable p] (h : p ↔ q) (hq : q) : (decide p != true) = false := by simp [h.2 hq]
theorem owned_votes {W : World} {s : Sl} {vs ds : List Vote} {q c : Nat} (hv : SeqIs Vote.cells 132 VoteIs W s vs ds) (h : s.n ≤ c) (hn : s.n ≤ 1000000) : ∀ W2, Lies [⟨q, (vs.map Vote.cells).flatten, 72, c * 132⟩] W2 → VotesAt W2 ⟨some ⟨q, 0, none⟩, s.n, c⟩ ds := fun W2 hl =>
  ⟨vs, acc_seq (Acc.some (E := 72) h hv.flat) hl hv.nr hv.nd hv.len hn fun i r d hr hd => (by
    have := hv.is i r d hr hd
    exact ⟨this.ok, this.eq, this.wf⟩)⟩
theorem dec_eqT {p q : Prop} [Decidable p] [Decidable q] (h : p ↔ q) : (decide p == decide q) = true := by simp [h]


set_option maxRecDepth 100000 in
set_option maxHeartbeats 8000000 in
theorem law_fields (m o : Msg) (D E : DMsg) : Meets Try.prog 4 [agg m.cells, agg o.cells] [] (fun W => MsgIs W m D ∧ MsgIs W o E) (fun v out => v = .bool true ∧ out = []) := by
  intro W hW
  have hm := hW.1.ok
  have ho := hW.2.ok
  have hK := hW.1.fKind
  obtain ⟨vs, hvs⟩ := hW.2.fVotes
  have hl := hW.1.len
  have hlo := hW.2.len
  refine calls_of (hp0 := []) Try.func4 rfl 141 Try.ntmps4 rfl (HRep.nil _) ?_
  refine Sat.seq ?_
  -- region 0
  refine Sat.region ?_
  refine Tr.boxA rfl rfl ?_
  intro n2 hn2 hf2
  refine Tr.boxA rfl rfl ?_
  intro n3 hn3 hf3
  refine Tr.assign rfl rfl rfl ?_
  refine Tr.nil ?_
  refine at_n ?_
  refine Sat.seq ?_
  refine Sat.seq ?_
  -- region 1
  refine Sat.region ?_
  refine Tr.callV rfl rfl rfl rfl Body16 (law25_lives) (fun _ _ => trivial) ?_
  refine Tr.not rfl rfl rfl ?_
  refine Tr.nil ?_
  refine at_n ?_
  refine Sat.cond_f rfl (rfl) ?_
  refine Sat.skip ?_
  refine at_n ?_
  refine Sat.seq ?_
  refine Sat.seq ?_
  -- region 3
  refine Sat.region ?_
  refine Tr.loadAll rfl rfl rfl Try.underlying49 rfl Sz49 (by first | exact mem0 | exact mem1 | exact mem2 | exact mem3 | exact mem4 | exact mem5 | exact mem6 | exact mem7 | (repeat (first | exact List.mem_cons_self | refine List.mem_cons_of_mem _ ?_ | refine mem_seg ?_))) (Msg.length (by first | assumption | (simp; done) | exact Block.zero_ok | exact Vote.zero_ok | exact Reader.zero_ok | exact Cut.zero_ok | exact Cert.zero_ok | exact Msg.zero_ok | exact Inbox.zero_ok | exact Record.zero_ok | exact Kept.zero_ok  | exact hm | exact ho | exact oka | exact okb | exact okc | exact okd | exact oke | exact okf | exact ⟨trivial⟩)) ?_
  refine Tr.callB rfl rfl rfl rfl Body17 (light_msg m D) (fun w h => hW.1.ext h rfl) (fun hs3_10 => ?_) (fun hs3_10 => ?_)
  ·
    first | have hs3_1 := of_decide_eq_true hs3_10 | have hs3_1 := of_decide_eq_false hs3_10 | have hs3_1 := nd_t hs3_10 | have hs3_1 := nd_f hs3_10 | have hs3_1 := hs3_10
    refine Tr.not rfl rfl rfl ?_
    refine Tr.move rfl rfl rfl ?_
    refine Tr.loadAll rfl rfl rfl Try.underlying49 rfl Sz49 (by first | exact mem0 | exact mem1 | exact mem2 | exact mem3 | exact mem4 | exact mem5 | exact mem6 | exact mem7 | (repeat (first | exact List.mem_cons_self | refine List.mem_cons_of_mem _ ?_ | refine mem_seg ?_))) (Msg.length (by first | assumption | (simp; done) | exact Block.zero_ok | exact Vote.zero_ok | exact Reader.zero_ok | exact Cut.zero_ok | exact Cert.zero_ok | exact Msg.zero_ok | exact Inbox.zero_ok | exact Record.zero_ok | exact Kept.zero_ok  | exact hm | exact ho | exact oka | exact okb | exact okc | exact okd | exact oke | exact okf | exact ⟨trivial⟩)) ?_
    refine Tr.callB rfl rfl rfl rfl Body17 (light_msg o E) (fun w h => hW.2.ext h rfl) (fun hs3_50 => ?_) (fun hs3_50 => ?_)
    ·
      first | have hs3_5 := of_decide_eq_true hs3_50 | have hs3_5 := of_decide_eq_false hs3_50 | have hs3_5 := nd_t hs3_50 | have hs3_5 := nd_f hs3_50 | have hs3_5 := hs3_50
      refine Tr.not rfl rfl rfl ?_
      refine Tr.pick rfl rfl rfl rfl rfl rfl ?_
      refine Tr.move rfl rfl rfl ?_
      refine Tr.loadAll rfl rfl rfl Try.underlying49 rfl Sz49 (by first | exact mem0 | exact mem1 | exact mem2 | exact mem3 | exact mem4 | exact mem5 | exact mem6 | exact mem7 | (repeat (first | exact List.mem_cons_self | refine List.mem_cons_of_mem _ ?_ | refine mem_seg ?_))) (Msg.length (by first | assumption | (simp; done) | exact Block.zero_ok | exact Vote.zero_ok | exact Reader.zero_ok | exact Cut.zero_ok | exact Cert.zero_ok | exact Msg.zero_ok | exact Inbox.zero_ok | exact Record.zero_ok | exact Kept.zero_ok  | exact hm | exact ho | exact oka | exact okb | exact okc | exact okd | exact oke | exact okf | exact ⟨trivial⟩)) ?_
      refine Tr.callV rfl rfl rfl rfl Body18 (msg_check m D) (fun w h => hW.1.ext h rfl) ?_
      refine two (fun r hr k => Tr.nei rfl rfl rfl rfl hr k) (fun hs3_110 => ?_) (fun hs3_110 => ?_)
      ·
        first | have hs3_11 := of_decide_eq_true hs3_110 | have hs3_11 := of_decide_eq_false hs3_110 | have hs3_11 := nd_t hs3_110 | have hs3_11 := nd_f hs3_110 | have hs3_11 := hs3_110
        refine Tr.pick rfl rfl rfl rfl rfl rfl ?_
        refine Tr.nil ?_
        refine at_n ?_
        refine Sat.cond_t rfl rfl ?_
        refine Sat.seq ?_
        -- region 4
        refine Sat.region ?_
        refine Tr.assign rfl rfl rfl ?_
        refine Tr.nil ?_
        refine at_n ?_
        refine Sat.ret ?_
        refine at_r ?_
        refine en_r ?_
        refine ⟨_, [], res_tmp rfl rfl, (by simp), (by simp), ?_, rfl⟩
        first
          | rfl
          | simp_all
      ·
        first | have hs3_11 := of_decide_eq_true hs3_110 | have hs3_11 := of_decide_eq_false hs3_110 | have hs3_11 := nd_t hs3_110 | have hs3_11 := nd_f hs3_110 | have hs3_11 := hs3_110
        refine Tr.pick rfl rfl rfl rfl rfl rfl ?_
        refine Tr.nil ?_
        refine at_n ?_
        refine Sat.cond_f rfl rfl ?_
        refine Sat.skip ?_
        refine at_n ?_
        refine Sat.seq ?_
        -- region 5
        refine Sat.region ?_
        have hlD : D.light = true := hs3_1
        have hlE : E.light = true := hs3_5
        have hcD : D.check = 0 := hs3_11
        have hsmE := light_small hlE
        have g1 := hlo.blocks
        have g2 := hlo.certs
        have g3 := hlo.cuts
        have g4 := hlo.votes
        have f3 := hsmE.nB
        have f4 := hsmE.votes
        have f5 := hsmE.nC
        have f6 := hsmE.nE
        refine Tr.fld rfl rfl rfl Try.underlying49 rfl Sz3 (by decide) _ rfl ?_
        refine Tr.load1 rfl rfl rfl Try.underlying3 rfl (by first | exact mem0 | exact mem1 | exact mem2 | exact mem3 | exact mem4 | exact mem5 | exact mem6 | exact mem7 | (repeat (first | exact List.mem_cons_self | refine List.mem_cons_of_mem _ ?_ | refine mem_seg ?_))) (by first | exact Msg.get_fKind (by first | assumption | (simp; done) | exact Block.zero_ok | exact Vote.zero_ok | exact Reader.zero_ok | exact Cut.zero_ok | exact Cert.zero_ok | exact Msg.zero_ok | exact Inbox.zero_ok | exact Record.zero_ok | exact Kept.zero_ok  | exact hm | exact ho | exact oka | exact okb | exact okc | exact okd | exact oke | exact okf | exact ⟨trivial⟩) | exact (by first | rfl | exact get_words (by first | omega | (simp; done) | (simp; omega)) | exact get_bytes (by first | omega | (simp; done) | (simp; omega)) | exact get_ints (by first | omega | (simp; done) | (simp; omega)))) ?_
        refine Tr.assign rfl rfl rfl ?_
        refine Tr.nil ?_
        refine at_n ?_
        refine Sat.seq ?_
        -- region 6
        refine Sat.drawK (sp_k (sp_k sp_n)) rfl [(0, 0), (0, 2), (0, 4), (3, 1), (3, 3), (3, 5), (2, 6), (2, 7), (2, 8)] [(4, 9), (4, 10), (4, 11)] Mixed (by kernel_rfl) (by kernel_rfl) ?_
        refine Tr.kloadAll rfl rfl rfl Try.underlying49 rfl Sz49 (by first | exact mem0 | exact mem1 | exact mem2 | exact mem3 | exact mem4 | exact mem5 | exact mem6 | exact mem7 | (repeat (first | exact List.mem_cons_self | refine List.mem_cons_of_mem _ ?_ | refine mem_seg ?_))) (Msg.length (by first | assumption | (simp; done) | exact Block.zero_ok | exact Vote.zero_ok | exact Reader.zero_ok | exact Cut.zero_ok | exact Cert.zero_ok | exact Msg.zero_ok | exact Inbox.zero_ok | exact Record.zero_ok | exact Kept.zero_ok  | exact hm | exact ho | exact oka | exact okb | exact okc | exact okd | exact oke | exact okf | exact ⟨trivial⟩)) ?_
        refine Tr.kloadAll rfl rfl rfl Try.underlying49 rfl Sz49 (by first | exact mem0 | exact mem1 | exact mem2 | exact mem3 | exact mem4 | exact mem5 | exact mem6 | exact mem7 | (repeat (first | exact List.mem_cons_self | refine List.mem_cons_of_mem _ ?_ | refine mem_seg ?_))) (Msg.length (by first | assumption | (simp; done) | exact Block.zero_ok | exact Vote.zero_ok | exact Reader.zero_ok | exact Cut.zero_ok | exact Cert.zero_ok | exact Msg.zero_ok | exact Inbox.zero_ok | exact Record.zero_ok | exact Kept.zero_ok  | exact hm | exact ho | exact oka | exact okb | exact okc | exact okd | exact oke | exact okf | exact ⟨trivial⟩)) ?_
        refine Tr.kloadAll rfl rfl rfl Try.underlying49 rfl Sz49 (by first | exact mem0 | exact mem1 | exact mem2 | exact mem3 | exact mem4 | exact mem5 | exact mem6 | exact mem7 | (repeat (first | exact List.mem_cons_self | refine List.mem_cons_of_mem _ ?_ | refine mem_seg ?_))) (Msg.length (by first | assumption | (simp; done) | exact Block.zero_ok | exact Vote.zero_ok | exact Reader.zero_ok | exact Cut.zero_ok | exact Cert.zero_ok | exact Msg.zero_ok | exact Inbox.zero_ok | exact Record.zero_ok | exact Kept.zero_ok  | exact hm | exact ho | exact oka | exact okb | exact okc | exact okd | exact oke | exact okf | exact ⟨trivial⟩)) ?_
        refine Tr.call rfl rfl rfl rfl Body19 (kit_own_msg m D hlD) (OwnedMsg.loose _) (fun w h => hW.1.ext h rfl) ?_
        rintro v30 out30 ⟨a, oka, rfl, ha⟩
        refine Tr.call rfl rfl rfl rfl Body19 (kit_own_msg m D hlD) (OwnedMsg.loose _) (fun w h => hW.1.ext h rfl) ?_
        rintro v32 out32 ⟨b, okb, rfl, hb⟩
        refine Tr.call rfl rfl rfl rfl Body19 (kit_own_msg m D hlD) (OwnedMsg.loose _) (fun w h => hW.1.ext h rfl) ?_
        rintro v34 out34 ⟨c, okc, rfl, hc⟩
        refine Tr.alloc (cs := Msg.zero.cells) rfl Msg.zr rfl ?_
        intro n6 hn6 hf6
        refine Tr.alloc (cs := Msg.zero.cells) rfl Msg.zr rfl ?_
        intro n7 hn7 hf7
        refine Tr.alloc (cs := Msg.zero.cells) rfl Msg.zr rfl ?_
        intro n8 hn8 hf8
        refine Tr.nil ?_
        refine Tr.storeAll rfl rfl rfl rfl (Msg.isCell (by first | assumption | (simp; done) | exact Block.zero_ok | exact Vote.zero_ok | exact Reader.zero_ok | exact Cut.zero_ok | exact Cert.zero_ok | exact Msg.zero_ok | exact Inbox.zero_ok | exact Record.zero_ok | exact Kept.zero_ok  | exact hm | exact ho | exact oka | exact okb | exact okc | exact okd | exact oke | exact okf | exact ⟨trivial⟩)) Sz49 (Msg.length (by first | assumption | (simp; done) | exact Block.zero_ok | exact Vote.zero_ok | exact Reader.zero_ok | exact Cut.zero_ok | exact Cert.zero_ok | exact Msg.zero_ok | exact Inbox.zero_ok | exact Record.zero_ok | exact Kept.zero_ok  | exact hm | exact ho | exact oka | exact okb | exact okc | exact okd | exact oke | exact okf | exact ⟨trivial⟩)) (by first | exact mem0 | exact mem1 | exact mem2 | exact mem3 | exact mem4 | exact mem5 | exact mem6 | exact mem7 | (repeat (first | exact List.mem_cons_self | refine List.mem_cons_of_mem _ ?_ | refine mem_seg ?_))) (Msg.length (by first | assumption | (simp; done) | exact Block.zero_ok | exact Vote.zero_ok | exact Reader.zero_ok | exact Cut.zero_ok | exact Cert.zero_ok | exact Msg.zero_ok | exact Inbox.zero_ok | exact Record.zero_ok | exact Kept.zero_ok  | exact hm | exact ho | exact oka | exact okb | exact okc | exact okd | exact oke | exact okf | exact ⟨trivial⟩)) (by first | exact upd0 | exact upd1 | exact upd2 | exact upd3 | exact upd4 | exact upd5 | exact upd6 | exact upd7 | (repeat (first | exact upd0 | apply Upd.tail | apply Upd.seg))) ?_
        refine Tr.storeAll rfl rfl rfl rfl (Msg.isCell (by first | assumption | (simp; done) | exact Block.zero_ok | exact Vote.zero_ok | exact Reader.zero_ok | exact Cut.zero_ok | exact Cert.zero_ok | exact Msg.zero_ok | exact Inbox.zero_ok | exact Record.zero_ok | exact Kept.zero_ok  | exact hm | exact ho | exact oka | exact okb | exact okc | exact okd | exact oke | exact okf | exact ⟨trivial⟩)) Sz49 (Msg.length (by first | assumption | (simp; done) | exact Block.zero_ok | exact Vote.zero_ok | exact Reader.zero_ok | exact Cut.zero_ok | exact Cert.zero_ok | exact Msg.zero_ok | exact Inbox.zero_ok | exact Record.zero_ok | exact Kept.zero_ok  | exact hm | exact ho | exact oka | exact okb | exact okc | exact okd | exact oke | exact okf | exact ⟨trivial⟩)) (by first | exact mem0 | exact mem1 | exact mem2 | exact mem3 | exact mem4 | exact mem5 | exact mem6 | exact mem7 | (repeat (first | exact List.mem_cons_self | refine List.mem_cons_of_mem _ ?_ | refine mem_seg ?_))) (Msg.length (by first | assumption | (simp; done) | exact Block.zero_ok | exact Vote.zero_ok | exact Reader.zero_ok | exact Cut.zero_ok | exact Cert.zero_ok | exact Msg.zero_ok | exact Inbox.zero_ok | exact Record.zero_ok | exact Kept.zero_ok  | exact hm | exact ho | exact oka | exact okb | exact okc | exact okd | exact oke | exact okf | exact ⟨trivial⟩)) (by first | exact upd0 | exact upd1 | exact upd2 | exact upd3 | exact upd4 | exact upd5 | exact upd6 | exact upd7 | (repeat (first | exact upd0 | apply Upd.tail | apply Upd.seg))) ?_
        refine Tr.storeAll rfl rfl rfl rfl (Msg.isCell (by first | assumption | (simp; done) | exact Block.zero_ok | exact Vote.zero_ok | exact Reader.zero_ok | exact Cut.zero_ok | exact Cert.zero_ok | exact Msg.zero_ok | exact Inbox.zero_ok | exact Record.zero_ok | exact Kept.zero_ok  | exact hm | exact ho | exact oka | exact okb | exact okc | exact okd | exact oke | exact okf | exact ⟨trivial⟩)) Sz49 (Msg.length (by first | assumption | (simp; done) | exact Block.zero_ok | exact Vote.zero_ok | exact Reader.zero_ok | exact Cut.zero_ok | exact Cert.zero_ok | exact Msg.zero_ok | exact Inbox.zero_ok | exact Record.zero_ok | exact Kept.zero_ok  | exact hm | exact ho | exact oka | exact okb | exact okc | exact okd | exact oke | exact okf | exact ⟨trivial⟩)) (by first | exact mem0 | exact mem1 | exact mem2 | exact mem3 | exact mem4 | exact mem5 | exact mem6 | exact mem7 | (repeat (first | exact List.mem_cons_self | refine List.mem_cons_of_mem _ ?_ | refine mem_seg ?_))) (Msg.length (by first | assumption | (simp; done) | exact Block.zero_ok | exact Vote.zero_ok | exact Reader.zero_ok | exact Cut.zero_ok | exact Cert.zero_ok | exact Msg.zero_ok | exact Inbox.zero_ok | exact Record.zero_ok | exact Kept.zero_ok  | exact hm | exact ho | exact oka | exact okb | exact okc | exact okd | exact oke | exact okf | exact ⟨trivial⟩)) (by first | exact upd0 | exact upd1 | exact upd2 | exact upd3 | exact upd4 | exact upd5 | exact upd6 | exact upd7 | (repeat (first | exact upd0 | apply Upd.tail | apply Upd.seg))) ?_
        refine Tr.nil ?_
        refine at_n ?_
        refine Sat.seq ?_
        -- region 7
        refine Sat.region ?_
        refine Tr.fld rfl rfl rfl Try.underlying49 rfl Sz24 (by decide) _ rfl ?_
        refine Tr.store1 rfl rfl rfl (show evIn _ _ = some (u64 5) from rfl) rfl Sz24 (by first | exact mem0 | exact mem1 | exact mem2 | exact mem3 | exact mem4 | exact mem5 | exact mem6 | exact mem7 | (repeat (first | exact List.mem_cons_self | refine List.mem_cons_of_mem _ ?_ | refine mem_seg ?_))) (by rw [Msg.length (by first | assumption | (simp; done) | exact Block.zero_ok | exact Vote.zero_ok | exact Reader.zero_ok | exact Cut.zero_ok | exact Cert.zero_ok | exact Msg.zero_ok | exact Inbox.zero_ok | exact Record.zero_ok | exact Kept.zero_ok  | exact hm | exact ho | exact oka | exact okb | exact okc | exact okd | exact oke | exact okf | exact ⟨trivial⟩)]; decide) (Msg.set_fHeight (by first | assumption | (simp; done) | exact Block.zero_ok | exact Vote.zero_ok | exact Reader.zero_ok | exact Cut.zero_ok | exact Cert.zero_ok | exact Msg.zero_ok | exact Inbox.zero_ok | exact Record.zero_ok | exact Kept.zero_ok  | exact hm | exact ho | exact oka | exact okb | exact okc | exact okd | exact oke | exact okf | exact ⟨trivial⟩) _) (by first | exact upd0 | exact upd1 | exact upd2 | exact upd3 | exact upd4 | exact upd5 | exact upd6 | exact upd7 | (repeat (first | exact upd0 | apply Upd.tail | apply Upd.seg))) ?_
        refine Tr.nil ?_
        refine at_n ?_
        refine Sat.seq ?_
        -- region 8
        refine Sat.region ?_
        refine Tr.build (cs := bytesV (1 :: List.replicate 31 0)) rfl rfl rfl (fun w => by kernel_rfl) ?_
        refine Tr.build (cs := bytesV (2 :: List.replicate 31 0)) rfl rfl rfl (fun w => by kernel_rfl) ?_
        refine Tr.mkRow (z := agg (bytesV (List.replicate 32 0))) [agg (bytesV (1 :: List.replicate 31 0)), agg (bytesV (2 :: List.replicate 31 0))] (flatB [(1 :: List.replicate 31 0), (2 :: List.replicate 31 0)]) rfl rfl rfl Try.underlying26 Sz25 Zr25 rfl rfl (by intro v hv; simp at hv; first | (rcases hv with rfl | rfl <;> rfl) | (subst hv; rfl)) (by decide) (by rfl) ?_
        intro q38
        refine Tr.fld rfl rfl rfl Try.underlying49 rfl Sz26 (by decide) _ rfl ?_
        refine Tr.store1 rfl rfl rfl rfl rfl Sz26 (by first | exact mem0 | exact mem1 | exact mem2 | exact mem3 | exact mem4 | exact mem5 | exact mem6 | exact mem7 | (repeat (first | exact List.mem_cons_self | refine List.mem_cons_of_mem _ ?_ | refine mem_seg ?_))) (by rw [Msg.length (by first | assumption | (simp; done) | exact Block.zero_ok | exact Vote.zero_ok | exact Reader.zero_ok | exact Cut.zero_ok | exact Cert.zero_ok | exact Msg.zero_ok | exact Inbox.zero_ok | exact Record.zero_ok | exact Kept.zero_ok  | exact hm | exact ho | exact oka | exact okb | exact okc | exact okd | exact oke | exact okf | exact ⟨trivial⟩)]; decide) (by first | exact Msg.set_fHeads (by first | assumption | (simp; done) | exact Block.zero_ok | exact Vote.zero_ok | exact Reader.zero_ok | exact Cut.zero_ok | exact Cert.zero_ok | exact Msg.zero_ok | exact Inbox.zero_ok | exact Record.zero_ok | exact Kept.zero_ok  | exact hm | exact ho | exact oka | exact okb | exact okc | exact okd | exact oke | exact okf | exact ⟨trivial⟩) _ | exact Msg.setS_fHeads (by first | assumption | (simp; done) | exact Block.zero_ok | exact Vote.zero_ok | exact Reader.zero_ok | exact Cut.zero_ok | exact Cert.zero_ok | exact Msg.zero_ok | exact Inbox.zero_ok | exact Record.zero_ok | exact Kept.zero_ok  | exact hm | exact ho | exact oka | exact okb | exact okc | exact okd | exact oke | exact okf | exact ⟨trivial⟩) _ _ _) (by first | exact upd0 | exact upd1 | exact upd2 | exact upd3 | exact upd4 | exact upd5 | exact upd6 | exact upd7 | (repeat (first | exact upd0 | apply Upd.tail | apply Upd.seg))) ?_
        refine Tr.nil ?_
        refine at_n ?_
        refine Sat.seq ?_
        -- region 9
        refine Sat.region ?_
        refine Tr.build (cs := bytesV (3 :: List.replicate 31 0)) rfl rfl rfl (fun w => by kernel_rfl) ?_
        refine Tr.mkRow (z := agg (bytesV (List.replicate 32 0))) [agg (bytesV (3 :: List.replicate 31 0))] (flatB [(3 :: List.replicate 31 0)]) rfl rfl rfl Try.underlying26 Sz25 Zr25 rfl rfl (by intro v hv; simp at hv; first | (rcases hv with rfl | rfl <;> rfl) | (subst hv; rfl)) (by decide) (by rfl) ?_
        intro q41
        refine Tr.fld rfl rfl rfl Try.underlying49 rfl Sz26 (by decide) _ rfl ?_
        refine Tr.store1 rfl rfl rfl rfl rfl Sz26 (by first | exact mem0 | exact mem1 | exact mem2 | exact mem3 | exact mem4 | exact mem5 | exact mem6 | exact mem7 | (repeat (first | exact List.mem_cons_self | refine List.mem_cons_of_mem _ ?_ | refine mem_seg ?_))) (by rw [Msg.length (by first | assumption | (simp; done) | exact Block.zero_ok | exact Vote.zero_ok | exact Reader.zero_ok | exact Cut.zero_ok | exact Cert.zero_ok | exact Msg.zero_ok | exact Inbox.zero_ok | exact Record.zero_ok | exact Kept.zero_ok  | exact hm | exact ho | exact oka | exact okb | exact okc | exact okd | exact oke | exact okf | exact ⟨trivial⟩)]; decide) (by first | exact Msg.set_fWant (by first | assumption | (simp; done) | exact Block.zero_ok | exact Vote.zero_ok | exact Reader.zero_ok | exact Cut.zero_ok | exact Cert.zero_ok | exact Msg.zero_ok | exact Inbox.zero_ok | exact Record.zero_ok | exact Kept.zero_ok  | exact hm | exact ho | exact oka | exact okb | exact okc | exact okd | exact oke | exact okf | exact ⟨trivial⟩) _ | exact Msg.setS_fWant (by first | assumption | (simp; done) | exact Block.zero_ok | exact Vote.zero_ok | exact Reader.zero_ok | exact Cut.zero_ok | exact Cert.zero_ok | exact Msg.zero_ok | exact Inbox.zero_ok | exact Record.zero_ok | exact Kept.zero_ok  | exact hm | exact ho | exact oka | exact okb | exact okc | exact okd | exact oke | exact okf | exact ⟨trivial⟩) _ _ _) (by first | exact upd0 | exact upd1 | exact upd2 | exact upd3 | exact upd4 | exact upd5 | exact upd6 | exact upd7 | (repeat (first | exact upd0 | apply Upd.tail | apply Upd.seg))) ?_
        refine Tr.nil ?_
        refine at_n ?_
        refine Sat.join (ι := Unit) (fun _u => ⟨[(2, ptr n2 0), (3, ptr n3 0), (5, i64 m.fKind)], [⟨n3, o.cells, 49, o.cells.length⟩, ⟨n2, m.cells, 49, m.cells.length⟩]⟩) (fun _u => True) ?_ ?_
        ·
          refine Sat.seq ?_
          -- region 10
          refine Sat.region ?_
          refine Tr.loadAll rfl rfl rfl Try.underlying49 rfl Sz49 (by first | exact mem0 | exact mem1 | exact mem2 | exact mem3 | exact mem4 | exact mem5 | exact mem6 | exact mem7 | (repeat (first | exact List.mem_cons_self | refine List.mem_cons_of_mem _ ?_ | refine mem_seg ?_))) (Msg.length (by first | assumption | (simp; done) | exact Block.zero_ok | exact Vote.zero_ok | exact Reader.zero_ok | exact Cut.zero_ok | exact Cert.zero_ok | exact Msg.zero_ok | exact Inbox.zero_ok | exact Record.zero_ok | exact Kept.zero_ok  | exact hm | exact ho | exact oka | exact okb | exact okc | exact okd | exact oke | exact okf | exact ⟨trivial⟩)) ?_
          refine Tr.callV rfl rfl rfl rfl Body18 (msg_check { a with fHeight := 5 } (D.setH 5)) (fun w h => (ha w (Lies.of h (by repeat (first | exact in_here | exact in_all | refine in_there ?_ | refine in_seg ?_)))).setH 5) ?_
          refine Tr.eqi rfl rfl rfl rfl rfl ?_
          refine Tr.move rfl rfl rfl ?_
          refine two (fun r hr k => Tr.eqi rfl rfl rfl rfl hr k) (fun hs10_40 => ?_) (fun hs10_40 => ?_)
          ·
            first | have hs10_4 := of_decide_eq_true hs10_40 | have hs10_4 := of_decide_eq_false hs10_40 | have hs10_4 := nd_t hs10_40 | have hs10_4 := nd_f hs10_40 | have hs10_4 := hs10_40
            refine Tr.move rfl rfl rfl ?_
            refine Tr.skp rfl rfl ?_
            refine Tr.skp rfl rfl ?_
            refine Tr.pick rfl rfl rfl rfl rfl rfl ?_
            refine Tr.neb (r := false) rfl rfl rfl rfl Try.underlying4 (by first
                  | exact dec_imp ((ok_setH hcD).trans (by omega))
                  | exact dec_impT (ok_setH hcD) (by omega)) ?_
            refine Tr.move rfl rfl rfl ?_
            refine Tr.loadAll rfl rfl rfl Try.underlying49 rfl Sz49 (by first | exact mem0 | exact mem1 | exact mem2 | exact mem3 | exact mem4 | exact mem5 | exact mem6 | exact mem7 | (repeat (first | exact List.mem_cons_self | refine List.mem_cons_of_mem _ ?_ | refine mem_seg ?_))) (Msg.length (by first | assumption | (simp; done) | exact Block.zero_ok | exact Vote.zero_ok | exact Reader.zero_ok | exact Cut.zero_ok | exact Cert.zero_ok | exact Msg.zero_ok | exact Inbox.zero_ok | exact Record.zero_ok | exact Kept.zero_ok  | exact hm | exact ho | exact oka | exact okb | exact okc | exact okd | exact oke | exact okf | exact ⟨trivial⟩)) ?_
            refine Tr.callV rfl rfl rfl rfl Body18 (msg_check { b with fHeads := ⟨some ⟨q38, 0, none⟩, 2, 2⟩ } (D.setHeads [(1 :: List.replicate 31 0), (2 :: List.replicate 31 0)])) (fun w h => (hb w (Lies.of h (by repeat (first | exact in_here | exact in_all | refine in_there ?_ | refine in_seg ?_)))).setHeads (own_rowsF h (by first | exact mem0 | exact mem1 | exact mem2 | exact mem3 | exact mem4 | exact mem5 | exact mem6 | exact mem7 | (repeat (first | exact List.mem_cons_self | refine List.mem_cons_of_mem _ ?_ | refine mem_seg ?_))) rfl (by intro l hl; simp at hl; first | (rcases hl with rfl | rfl <;> rfl) | (subst hl; rfl)) (by decide) (by decide))) ?_
            refine Tr.eqi rfl rfl rfl rfl rfl ?_
            refine Tr.move rfl rfl rfl ?_
            refine two (fun r hr k => Tr.eqi rfl rfl rfl rfl hr k) (fun hs10_150 => ?_) (fun hs10_150 => ?_)
            ·
              first | have hs10_15 := of_decide_eq_true hs10_150 | have hs10_15 := of_decide_eq_false hs10_150 | have hs10_15 := nd_t hs10_150 | have hs10_15 := nd_f hs10_150 | have hs10_15 := hs10_150
              refine Tr.move rfl rfl rfl ?_
              refine Tr.skp rfl rfl ?_
              refine Tr.skp rfl rfl ?_
              refine Tr.pick rfl rfl rfl rfl rfl rfl ?_
              refine Tr.neb (r := false) rfl rfl rfl rfl Try.underlying4 (by first
                    | exact dec_imp ((ok_setHeads hcD).trans (by omega))
                    | exact dec_impT (ok_setHeads hcD) (by omega)) ?_
              refine Tr.pick rfl rfl rfl rfl rfl rfl ?_
              refine Tr.move rfl rfl rfl ?_
              refine Tr.loadAll rfl rfl rfl Try.underlying49 rfl Sz49 (by first | exact mem0 | exact mem1 | exact mem2 | exact mem3 | exact mem4 | exact mem5 | exact mem6 | exact mem7 | (repeat (first | exact List.mem_cons_self | refine List.mem_cons_of_mem _ ?_ | refine mem_seg ?_))) (Msg.length (by first | assumption | (simp; done) | exact Block.zero_ok | exact Vote.zero_ok | exact Reader.zero_ok | exact Cut.zero_ok | exact Cert.zero_ok | exact Msg.zero_ok | exact Inbox.zero_ok | exact Record.zero_ok | exact Kept.zero_ok  | exact hm | exact ho | exact oka | exact okb | exact okc | exact okd | exact oke | exact okf | exact ⟨trivial⟩)) ?_
              refine Tr.callV rfl rfl rfl rfl Body18 (msg_check { c with fWant := ⟨some ⟨q41, 0, none⟩, 1, 1⟩ } (D.setWant [(3 :: List.replicate 31 0)])) (fun w h => (hc w (Lies.of h (by repeat (first | exact in_here | exact in_all | refine in_there ?_ | refine in_seg ?_)))).setWant (own_rowsF h (by first | exact mem0 | exact mem1 | exact mem2 | exact mem3 | exact mem4 | exact mem5 | exact mem6 | exact mem7 | (repeat (first | exact List.mem_cons_self | refine List.mem_cons_of_mem _ ?_ | refine mem_seg ?_))) rfl (by intro l hl; simp at hl; first | (rcases hl with rfl | rfl <;> rfl) | (subst hl; rfl)) (by decide) (by decide))) ?_
              refine Tr.eqi rfl rfl rfl rfl rfl ?_
              refine Tr.move rfl rfl rfl ?_
              refine Tr.eqi rfl rfl rfl rfl rfl ?_
              refine Tr.neb (r := false) rfl rfl rfl rfl Try.underlying4 (by first
                    | exact dec_imp ((ok_setWant hcD).trans (by omega))) ?_
              refine Tr.pick rfl rfl rfl rfl rfl rfl ?_
              refine Tr.nil ?_
              refine at_n ?_
              refine Sat.cond_f rfl rfl ?_
              refine Sat.skip ?_
              refine at_n ?_
              refine ⟨(), trivial, weak_perm (wk1 rfl (wk1 rfl (wk1 rfl wk0))) (pm_cons (by repeat (first | exact rem_here | apply rem_there | apply rem_seg)) (pm_cons (by repeat (first | exact rem_here | apply rem_there | apply rem_seg)) pm_nil))⟩
            ·
              first | have hs10_15 := of_decide_eq_true hs10_150 | have hs10_15 := of_decide_eq_false hs10_150 | have hs10_15 := nd_t hs10_150 | have hs10_15 := nd_f hs10_150 | have hs10_15 := hs10_150
              refine Tr.move rfl rfl rfl ?_
              refine Tr.move rfl rfl rfl ?_
              refine Tr.eqi rfl rfl rfl rfl rfl ?_
              refine Tr.pick rfl rfl rfl rfl rfl rfl ?_
              refine Tr.neb (r := false) rfl rfl rfl rfl Try.underlying4 (by first
                    | exact dec_imp ((ok_setHeads hcD).trans (by omega))
                    | exact dec_impT (ok_setHeads hcD) (by omega)) ?_
              refine Tr.pick rfl rfl rfl rfl rfl rfl ?_
              refine Tr.move rfl rfl rfl ?_
              refine Tr.loadAll rfl rfl rfl Try.underlying49 rfl Sz49 (by first | exact mem0 | exact mem1 | exact mem2 | exact mem3 | exact mem4 | exact mem5 | exact mem6 | exact mem7 | (repeat (first | exact List.mem_cons_self | refine List.mem_cons_of_mem _ ?_ | refine mem_seg ?_))) (Msg.length (by first | assumption | (simp; done) | exact Block.zero_ok | exact Vote.zero_ok | exact Reader.zero_ok | exact Cut.zero_ok | exact Cert.zero_ok | exact Msg.zero_ok | exact Inbox.zero_ok | exact Record.zero_ok | exact Kept.zero_ok  | exact hm | exact ho | exact oka | exact okb | exact okc | exact okd | exact oke | exact okf | exact ⟨trivial⟩)) ?_
              refine Tr.callV rfl rfl rfl rfl Body18 (msg_check { c with fWant := ⟨some ⟨q41, 0, none⟩, 1, 1⟩ } (D.setWant [(3 :: List.replicate 31 0)])) (fun w h => (hc w (Lies.of h (by repeat (first | exact in_here | exact in_all | refine in_there ?_ | refine in_seg ?_)))).setWant (own_rowsF h (by first | exact mem0 | exact mem1 | exact mem2 | exact mem3 | exact mem4 | exact mem5 | exact mem6 | exact mem7 | (repeat (first | exact List.mem_cons_self | refine List.mem_cons_of_mem _ ?_ | refine mem_seg ?_))) rfl (by intro l hl; simp at hl; first | (rcases hl with rfl | rfl <;> rfl) | (subst hl; rfl)) (by decide) (by decide))) ?_
              refine Tr.eqi rfl rfl rfl rfl rfl ?_
              refine Tr.move rfl rfl rfl ?_
              refine Tr.eqi rfl rfl rfl rfl rfl ?_
              refine Tr.neb (r := false) rfl rfl rfl rfl Try.underlying4 (by first
                    | exact dec_imp ((ok_setWant hcD).trans (by omega))) ?_
              refine Tr.pick rfl rfl rfl rfl rfl rfl ?_
              refine Tr.nil ?_
              refine at_n ?_
              refine Sat.cond_f rfl rfl ?_
              refine Sat.skip ?_
              refine at_n ?_
              refine ⟨(), trivial, weak_perm (wk1 rfl (wk1 rfl (wk1 rfl wk0))) (pm_cons (by repeat (first | exact rem_here | apply rem_there | apply rem_seg)) (pm_cons (by repeat (first | exact rem_here | apply rem_there | apply rem_seg)) pm_nil))⟩
          ·
            first | have hs10_4 := of_decide_eq_true hs10_40 | have hs10_4 := of_decide_eq_false hs10_40 | have hs10_4 := nd_t hs10_40 | have hs10_4 := nd_f hs10_40 | have hs10_4 := hs10_40
            refine Tr.move rfl rfl rfl ?_
            refine Tr.move rfl rfl rfl ?_
            refine Tr.eqi rfl rfl rfl rfl rfl ?_
            refine Tr.pick rfl rfl rfl rfl rfl rfl ?_
            refine Tr.neb (r := false) rfl rfl rfl rfl Try.underlying4 (by first
                  | exact dec_imp ((ok_setH hcD).trans (by omega))
                  | exact dec_impT (ok_setH hcD) (by omega)) ?_
            refine Tr.move rfl rfl rfl ?_
            refine Tr.loadAll rfl rfl rfl Try.underlying49 rfl Sz49 (by first | exact mem0 | exact mem1 | exact mem2 | exact mem3 | exact mem4 | exact mem5 | exact mem6 | exact mem7 | (repeat (first | exact List.mem_cons_self | refine List.mem_cons_of_mem _ ?_ | refine mem_seg ?_))) (Msg.length (by first | assumption | (simp; done) | exact Block.zero_ok | exact Vote.zero_ok | exact Reader.zero_ok | exact Cut.zero_ok | exact Cert.zero_ok | exact Msg.zero_ok | exact Inbox.zero_ok | exact Record.zero_ok | exact Kept.zero_ok  | exact hm | exact ho | exact oka | exact okb | exact okc | exact okd | exact oke | exact okf | exact ⟨trivial⟩)) ?_
            refine Tr.callV rfl rfl rfl rfl Body18 (msg_check { b with fHeads := ⟨some ⟨q38, 0, none⟩, 2, 2⟩ } (D.setHeads [(1 :: List.replicate 31 0), (2 :: List.replicate 31 0)])) (fun w h => (hb w (Lies.of h (by repeat (first | exact in_here | exact in_all | refine in_there ?_ | refine in_seg ?_)))).setHeads (own_rowsF h (by first | exact mem0 | exact mem1 | exact mem2 | exact mem3 | exact mem4 | exact mem5 | exact mem6 | exact mem7 | (repeat (first | exact List.mem_cons_self | refine List.mem_cons_of_mem _ ?_ | refine mem_seg ?_))) rfl (by intro l hl; simp at hl; first | (rcases hl with rfl | rfl <;> rfl) | (subst hl; rfl)) (by decide) (by decide))) ?_
            refine Tr.eqi rfl rfl rfl rfl rfl ?_
            refine Tr.move rfl rfl rfl ?_
            refine two (fun r hr k => Tr.eqi rfl rfl rfl rfl hr k) (fun hs10_150 => ?_) (fun hs10_150 => ?_)
            ·
              first | have hs10_15 := of_decide_eq_true hs10_150 | have hs10_15 := of_decide_eq_false hs10_150 | have hs10_15 := nd_t hs10_150 | have hs10_15 := nd_f hs10_150 | have hs10_15 := hs10_150
              refine Tr.move rfl rfl rfl ?_
              refine Tr.skp rfl rfl ?_
              refine Tr.skp rfl rfl ?_
              refine Tr.pick rfl rfl rfl rfl rfl rfl ?_
              refine Tr.neb (r := false) rfl rfl rfl rfl Try.underlying4 (by first
                    | exact dec_imp ((ok_setHeads hcD).trans (by omega))
                    | exact dec_impT (ok_setHeads hcD) (by omega)) ?_
              refine Tr.pick rfl rfl rfl rfl rfl rfl ?_
              refine Tr.move rfl rfl rfl ?_
              refine Tr.loadAll rfl rfl rfl Try.underlying49 rfl Sz49 (by first | exact mem0 | exact mem1 | exact mem2 | exact mem3 | exact mem4 | exact mem5 | exact mem6 | exact mem7 | (repeat (first | exact List.mem_cons_self | refine List.mem_cons_of_mem _ ?_ | refine mem_seg ?_))) (Msg.length (by first | assumption | (simp; done) | exact Block.zero_ok | exact Vote.zero_ok | exact Reader.zero_ok | exact Cut.zero_ok | exact Cert.zero_ok | exact Msg.zero_ok | exact Inbox.zero_ok | exact Record.zero_ok | exact Kept.zero_ok  | exact hm | exact ho | exact oka | exact okb | exact okc | exact okd | exact oke | exact okf | exact ⟨trivial⟩)) ?_
              refine Tr.callV rfl rfl rfl rfl Body18 (msg_check { c with fWant := ⟨some ⟨q41, 0, none⟩, 1, 1⟩ } (D.setWant [(3 :: List.replicate 31 0)])) (fun w h => (hc w (Lies.of h (by repeat (first | exact in_here | exact in_all | refine in_there ?_ | refine in_seg ?_)))).setWant (own_rowsF h (by first | exact mem0 | exact mem1 | exact mem2 | exact mem3 | exact mem4 | exact mem5 | exact mem6 | exact mem7 | (repeat (first | exact List.mem_cons_self | refine List.mem_cons_of_mem _ ?_ | refine mem_seg ?_))) rfl (by intro l hl; simp at hl; first | (rcases hl with rfl | rfl <;> rfl) | (subst hl; rfl)) (by decide) (by decide))) ?_
              refine Tr.eqi rfl rfl rfl rfl rfl ?_
              refine Tr.move rfl rfl rfl ?_
              refine Tr.eqi rfl rfl rfl rfl rfl ?_
              refine Tr.neb (r := false) rfl rfl rfl rfl Try.underlying4 (by first
                    | exact dec_imp ((ok_setWant hcD).trans (by omega))) ?_
              refine Tr.pick rfl rfl rfl rfl rfl rfl ?_
              refine Tr.nil ?_
              refine at_n ?_
              refine Sat.cond_f rfl rfl ?_
              refine Sat.skip ?_
              refine at_n ?_
              refine ⟨(), trivial, weak_perm (wk1 rfl (wk1 rfl (wk1 rfl wk0))) (pm_cons (by repeat (first | exact rem_here | apply rem_there | apply rem_seg)) (pm_cons (by repeat (first | exact rem_here | apply rem_there | apply rem_seg)) pm_nil))⟩
            ·
              first | have hs10_15 := of_decide_eq_true hs10_150 | have hs10_15 := of_decide_eq_false hs10_150 | have hs10_15 := nd_t hs10_150 | have hs10_15 := nd_f hs10_150 | have hs10_15 := hs10_150
              refine Tr.move rfl rfl rfl ?_
              refine Tr.move rfl rfl rfl ?_
              refine Tr.eqi rfl rfl rfl rfl rfl ?_
              refine Tr.pick rfl rfl rfl rfl rfl rfl ?_
              refine Tr.neb (r := false) rfl rfl rfl rfl Try.underlying4 (by first
                    | exact dec_imp ((ok_setHeads hcD).trans (by omega))
                    | exact dec_impT (ok_setHeads hcD) (by omega)) ?_
              refine Tr.pick rfl rfl rfl rfl rfl rfl ?_
              refine Tr.move rfl rfl rfl ?_
              refine Tr.loadAll rfl rfl rfl Try.underlying49 rfl Sz49 (by first | exact mem0 | exact mem1 | exact mem2 | exact mem3 | exact mem4 | exact mem5 | exact mem6 | exact mem7 | (repeat (first | exact List.mem_cons_self | refine List.mem_cons_of_mem _ ?_ | refine mem_seg ?_))) (Msg.length (by first | assumption | (simp; done) | exact Block.zero_ok | exact Vote.zero_ok | exact Reader.zero_ok | exact Cut.zero_ok | exact Cert.zero_ok | exact Msg.zero_ok | exact Inbox.zero_ok | exact Record.zero_ok | exact Kept.zero_ok  | exact hm | exact ho | exact oka | exact okb | exact okc | exact okd | exact oke | exact okf | exact ⟨trivial⟩)) ?_
              refine Tr.callV rfl rfl rfl rfl Body18 (msg_check { c with fWant := ⟨some ⟨q41, 0, none⟩, 1, 1⟩ } (D.setWant [(3 :: List.replicate 31 0)])) (fun w h => (hc w (Lies.of h (by repeat (first | exact in_here | exact in_all | refine in_there ?_ | refine in_seg ?_)))).setWant (own_rowsF h (by first | exact mem0 | exact mem1 | exact mem2 | exact mem3 | exact mem4 | exact mem5 | exact mem6 | exact mem7 | (repeat (first | exact List.mem_cons_self | refine List.mem_cons_of_mem _ ?_ | refine mem_seg ?_))) rfl (by intro l hl; simp at hl; first | (rcases hl with rfl | rfl <;> rfl) | (subst hl; rfl)) (by decide) (by decide))) ?_
              refine Tr.eqi rfl rfl rfl rfl rfl ?_
              refine Tr.move rfl rfl rfl ?_
              refine Tr.eqi rfl rfl rfl rfl rfl ?_
              refine Tr.neb (r := false) rfl rfl rfl rfl Try.underlying4 (by first
                    | exact dec_imp ((ok_setWant hcD).trans (by omega))) ?_
              refine Tr.pick rfl rfl rfl rfl rfl rfl ?_
              refine Tr.nil ?_
              refine at_n ?_
              refine Sat.cond_f rfl rfl ?_
              refine Sat.skip ?_
              refine at_n ?_
              refine ⟨(), trivial, weak_perm (wk1 rfl (wk1 rfl (wk1 rfl wk0))) (pm_cons (by repeat (first | exact rem_here | apply rem_there | apply rem_seg)) (pm_cons (by repeat (first | exact rem_here | apply rem_there | apply rem_seg)) pm_nil))⟩
        ·
          intro _u hj
          skip
          refine Sat.seq ?_
          refine Sat.seq ?_
          -- region 12
          refine Sat.region ?_
          refine Tr.loadAll rfl rfl rfl Try.underlying49 rfl Sz49 (by first | exact mem0 | exact mem1 | exact mem2 | exact mem3 | exact mem4 | exact mem5 | exact mem6 | exact mem7 | (repeat (first | exact List.mem_cons_self | refine List.mem_cons_of_mem _ ?_ | refine mem_seg ?_))) (Msg.length (by first | assumption | (simp; done) | exact Block.zero_ok | exact Vote.zero_ok | exact Reader.zero_ok | exact Cut.zero_ok | exact Cert.zero_ok | exact Msg.zero_ok | exact Inbox.zero_ok | exact Record.zero_ok | exact Kept.zero_ok  | exact hm | exact ho | exact oka | exact okb | exact okc | exact okd | exact oke | exact okf | exact ⟨trivial⟩)) ?_
          refine Tr.callV rfl rfl rfl rfl Body18 (msg_check o E) (fun w h => hW.2.ext h rfl) ?_
          refine Tr.nei rfl rfl rfl rfl rfl ?_
          refine Tr.nil ?_
          refine at_n ?_
          first
            | refine Sat.condP rfl (fun hc3 => ?_) (fun hc3 => ?_)
            | refine Sat.condNP rfl (fun hc3 => ?_) (fun hc3 => ?_)
            | refine Sat.cond rfl (fun hc3 => ?_) (fun hc3 => ?_)
          ·
            refine Sat.seq ?_
            -- region 13
            refine Sat.region ?_
            refine Tr.assign rfl rfl rfl ?_
            refine Tr.nil ?_
            refine at_n ?_
            refine Sat.ret ?_
            refine at_r ?_
            refine en_r ?_
            refine ⟨_, [], res_tmp rfl rfl, (by simp), (by simp), ?_, rfl⟩
            first
              | rfl
              | simp_all
          ·
            have hcE : E.check = 0 := by omega
            refine Sat.skip ?_
            refine at_n ?_
            refine Sat.seq ?_
            -- region 14
            refine Sat.region ?_
            refine Tr.loadAll rfl rfl rfl Try.underlying49 rfl Sz49 (by first | exact mem0 | exact mem1 | exact mem2 | exact mem3 | exact mem4 | exact mem5 | exact mem6 | exact mem7 | (repeat (first | exact List.mem_cons_self | refine List.mem_cons_of_mem _ ?_ | refine mem_seg ?_))) (Msg.length (by first | assumption | (simp; done) | exact Block.zero_ok | exact Vote.zero_ok | exact Reader.zero_ok | exact Cut.zero_ok | exact Cert.zero_ok | exact Msg.zero_ok | exact Inbox.zero_ok | exact Record.zero_ok | exact Kept.zero_ok  | exact hm | exact ho | exact oka | exact okb | exact okc | exact okd | exact oke | exact okf | exact ⟨trivial⟩)) ?_
            refine Tr.call rfl rfl rfl rfl Body19 (kit_own_msg m D hlD) (OwnedMsg.loose _) (fun w h => hW.1.ext h rfl) ?_
            rintro v77 out77 ⟨d, okd, rfl, hd⟩
            refine Tr.alloc (cs := Msg.zero.cells) rfl Msg.zr rfl ?_
            intro n9 hn9 hf9
            refine Tr.storeAll rfl rfl rfl rfl (Msg.isCell (by first | assumption | (simp; done) | exact Block.zero_ok | exact Vote.zero_ok | exact Reader.zero_ok | exact Cut.zero_ok | exact Cert.zero_ok | exact Msg.zero_ok | exact Inbox.zero_ok | exact Record.zero_ok | exact Kept.zero_ok  | exact hm | exact ho | exact oka | exact okb | exact okc | exact okd | exact oke | exact okf | exact ⟨trivial⟩)) Sz49 (Msg.length (by first | assumption | (simp; done) | exact Block.zero_ok | exact Vote.zero_ok | exact Reader.zero_ok | exact Cut.zero_ok | exact Cert.zero_ok | exact Msg.zero_ok | exact Inbox.zero_ok | exact Record.zero_ok | exact Kept.zero_ok  | exact hm | exact ho | exact oka | exact okb | exact okc | exact okd | exact oke | exact okf | exact ⟨trivial⟩)) (by first | exact mem0 | exact mem1 | exact mem2 | exact mem3 | exact mem4 | exact mem5 | exact mem6 | exact mem7 | (repeat (first | exact List.mem_cons_self | refine List.mem_cons_of_mem _ ?_ | refine mem_seg ?_))) (Msg.length (by first | assumption | (simp; done) | exact Block.zero_ok | exact Vote.zero_ok | exact Reader.zero_ok | exact Cut.zero_ok | exact Cert.zero_ok | exact Msg.zero_ok | exact Inbox.zero_ok | exact Record.zero_ok | exact Kept.zero_ok  | exact hm | exact ho | exact oka | exact okb | exact okc | exact okd | exact oke | exact okf | exact ⟨trivial⟩)) (by first | exact upd0 | exact upd1 | exact upd2 | exact upd3 | exact upd4 | exact upd5 | exact upd6 | exact upd7 | (repeat (first | exact upd0 | apply Upd.tail | apply Upd.seg))) ?_
            refine Tr.nil ?_
            refine at_n ?_
            refine Sat.seq ?_
            -- region 15
            refine Sat.region ?_
            refine Tr.fld rfl rfl rfl Try.underlying49 rfl Sz34 (by decide) _ rfl ?_
            refine Tr.load1 rfl rfl rfl Try.underlying34 rfl (by first | exact mem0 | exact mem1 | exact mem2 | exact mem3 | exact mem4 | exact mem5 | exact mem6 | exact mem7 | (repeat (first | exact List.mem_cons_self | refine List.mem_cons_of_mem _ ?_ | refine mem_seg ?_))) (by first | exact Msg.get_fBlocks (by first | assumption | (simp; done) | exact Block.zero_ok | exact Vote.zero_ok | exact Reader.zero_ok | exact Cut.zero_ok | exact Cert.zero_ok | exact Msg.zero_ok | exact Inbox.zero_ok | exact Record.zero_ok | exact Kept.zero_ok  | exact hm | exact ho | exact oka | exact okb | exact okc | exact okd | exact oke | exact okf | exact ⟨trivial⟩) | exact (by first | rfl | exact get_words (by first | omega | (simp; done) | (simp; omega)) | exact get_bytes (by first | omega | (simp; done) | (simp; omega)) | exact get_ints (by first | omega | (simp; done) | (simp; omega)))) ?_
            refine Tr.call4 rfl rfl rfl rfl rfl Body20 (kit_own_blocks o.fBlocks E.dBlocks (by omega) hsmE.blocks) (fun w h => Blocks_ext h rfl hW.2.fBlocks) ?_
            rintro v80 out80 ⟨sB, bB, bB2, rB, rfl, rfl, hoB⟩
            simp only [List.append_assoc, List.cons_append, List.nil_append]
            refine Tr.fld rfl rfl rfl Try.underlying49 rfl Sz34 (by decide) _ rfl ?_
            refine Tr.store1 rfl rfl rfl rfl rfl Sz34 (by first | exact mem0 | exact mem1 | exact mem2 | exact mem3 | exact mem4 | exact mem5 | exact mem6 | exact mem7 | (repeat (first | exact List.mem_cons_self | refine List.mem_cons_of_mem _ ?_ | refine mem_seg ?_))) (by rw [Msg.length (by first | assumption | (simp; done) | exact Block.zero_ok | exact Vote.zero_ok | exact Reader.zero_ok | exact Cut.zero_ok | exact Cert.zero_ok | exact Msg.zero_ok | exact Inbox.zero_ok | exact Record.zero_ok | exact Kept.zero_ok  | exact hm | exact ho | exact oka | exact okb | exact okc | exact okd | exact oke | exact okf | exact ⟨trivial⟩)]; decide) (by first | exact Msg.set_fBlocks (by first | assumption | (simp; done) | exact Block.zero_ok | exact Vote.zero_ok | exact Reader.zero_ok | exact Cut.zero_ok | exact Cert.zero_ok | exact Msg.zero_ok | exact Inbox.zero_ok | exact Record.zero_ok | exact Kept.zero_ok  | exact hm | exact ho | exact oka | exact okb | exact okc | exact okd | exact oke | exact okf | exact ⟨trivial⟩) _ | exact Msg.setS_fBlocks (by first | assumption | (simp; done) | exact Block.zero_ok | exact Vote.zero_ok | exact Reader.zero_ok | exact Cut.zero_ok | exact Cert.zero_ok | exact Msg.zero_ok | exact Inbox.zero_ok | exact Record.zero_ok | exact Kept.zero_ok  | exact hm | exact ho | exact oka | exact okb | exact okc | exact okd | exact oke | exact okf | exact ⟨trivial⟩) _ _ _) (by first | exact upd0 | exact upd1 | exact upd2 | exact upd3 | exact upd4 | exact upd5 | exact upd6 | exact upd7 | (repeat (first | exact upd0 | apply Upd.tail | apply Upd.seg))) ?_
            refine Tr.nil ?_
            refine at_n ?_
            refine Sat.seq ?_
            -- region 16
            refine Sat.region ?_
            refine Tr.loadAll rfl rfl rfl Try.underlying49 rfl Sz49 (by first | exact mem0 | exact mem1 | exact mem2 | exact mem3 | exact mem4 | exact mem5 | exact mem6 | exact mem7 | (repeat (first | exact List.mem_cons_self | refine List.mem_cons_of_mem _ ?_ | refine mem_seg ?_))) (Msg.length (by first | assumption | (simp; done) | exact Block.zero_ok | exact Vote.zero_ok | exact Reader.zero_ok | exact Cut.zero_ok | exact Cert.zero_ok | exact Msg.zero_ok | exact Inbox.zero_ok | exact Record.zero_ok | exact Kept.zero_ok  | exact hm | exact ho | exact oka | exact okb | exact okc | exact okd | exact oke | exact okf | exact ⟨trivial⟩)) ?_
            refine Tr.call rfl rfl rfl rfl Body19 (kit_own_msg m D hlD) (OwnedMsg.loose _) (fun w h => hW.1.ext h rfl) ?_
            rintro v83 out83 ⟨e, oke, rfl, he⟩
            refine Tr.alloc (cs := Msg.zero.cells) rfl Msg.zr rfl ?_
            intro n10 hn10 hf10
            refine Tr.storeAll rfl rfl rfl rfl (Msg.isCell (by first | assumption | (simp; done) | exact Block.zero_ok | exact Vote.zero_ok | exact Reader.zero_ok | exact Cut.zero_ok | exact Cert.zero_ok | exact Msg.zero_ok | exact Inbox.zero_ok | exact Record.zero_ok | exact Kept.zero_ok  | exact hm | exact ho | exact oka | exact okb | exact okc | exact okd | exact oke | exact okf | exact ⟨trivial⟩)) Sz49 (Msg.length (by first | assumption | (simp; done) | exact Block.zero_ok | exact Vote.zero_ok | exact Reader.zero_ok | exact Cut.zero_ok | exact Cert.zero_ok | exact Msg.zero_ok | exact Inbox.zero_ok | exact Record.zero_ok | exact Kept.zero_ok  | exact hm | exact ho | exact oka | exact okb | exact okc | exact okd | exact oke | exact okf | exact ⟨trivial⟩)) (by first | exact mem0 | exact mem1 | exact mem2 | exact mem3 | exact mem4 | exact mem5 | exact mem6 | exact mem7 | (repeat (first | exact List.mem_cons_self | refine List.mem_cons_of_mem _ ?_ | refine mem_seg ?_))) (Msg.length (by first | assumption | (simp; done) | exact Block.zero_ok | exact Vote.zero_ok | exact Reader.zero_ok | exact Cut.zero_ok | exact Cert.zero_ok | exact Msg.zero_ok | exact Inbox.zero_ok | exact Record.zero_ok | exact Kept.zero_ok  | exact hm | exact ho | exact oka | exact okb | exact okc | exact okd | exact oke | exact okf | exact ⟨trivial⟩)) (by first | exact upd0 | exact upd1 | exact upd2 | exact upd3 | exact upd4 | exact upd5 | exact upd6 | exact upd7 | (repeat (first | exact upd0 | apply Upd.tail | apply Upd.seg))) ?_
            refine Tr.nil ?_
            refine at_n ?_
            refine Sat.seq ?_
            -- region 17
            refine Sat.region ?_
            refine Tr.fld rfl rfl rfl Try.underlying49 rfl Sz47 (by decide) _ rfl ?_
            refine Tr.load1 rfl rfl rfl Try.underlying47 rfl (by first | exact mem0 | exact mem1 | exact mem2 | exact mem3 | exact mem4 | exact mem5 | exact mem6 | exact mem7 | (repeat (first | exact List.mem_cons_self | refine List.mem_cons_of_mem _ ?_ | refine mem_seg ?_))) (by first | exact Msg.get_fCerts (by first | assumption | (simp; done) | exact Block.zero_ok | exact Vote.zero_ok | exact Reader.zero_ok | exact Cut.zero_ok | exact Cert.zero_ok | exact Msg.zero_ok | exact Inbox.zero_ok | exact Record.zero_ok | exact Kept.zero_ok  | exact hm | exact ho | exact oka | exact okb | exact okc | exact okd | exact oke | exact okf | exact ⟨trivial⟩) | exact (by first | rfl | exact get_words (by first | omega | (simp; done) | (simp; omega)) | exact get_bytes (by first | omega | (simp; done) | (simp; omega)) | exact get_ints (by first | omega | (simp; done) | (simp; omega)))) ?_
            refine Tr.call4 rfl rfl rfl rfl rfl Body21 (kit_own_certs o.fCerts E.dCerts (by omega) hsmE.certs) (fun w h => Certs_ext h rfl hW.2.fCerts) ?_
            rintro v86 out86 ⟨sE, bE, bE2, rE, rfl, rfl, hoE⟩
            simp only [List.append_assoc, List.cons_append, List.nil_append]
            refine Tr.fld rfl rfl rfl Try.underlying49 rfl Sz47 (by decide) _ rfl ?_
            refine Tr.store1 rfl rfl rfl rfl rfl Sz47 (by first | exact mem0 | exact mem1 | exact mem2 | exact mem3 | exact mem4 | exact mem5 | exact mem6 | exact mem7 | (repeat (first | exact List.mem_cons_self | refine List.mem_cons_of_mem _ ?_ | refine mem_seg ?_))) (by rw [Msg.length (by first | assumption | (simp; done) | exact Block.zero_ok | exact Vote.zero_ok | exact Reader.zero_ok | exact Cut.zero_ok | exact Cert.zero_ok | exact Msg.zero_ok | exact Inbox.zero_ok | exact Record.zero_ok | exact Kept.zero_ok  | exact hm | exact ho | exact oka | exact okb | exact okc | exact okd | exact oke | exact okf | exact ⟨trivial⟩)]; decide) (by first | exact Msg.set_fCerts (by first | assumption | (simp; done) | exact Block.zero_ok | exact Vote.zero_ok | exact Reader.zero_ok | exact Cut.zero_ok | exact Cert.zero_ok | exact Msg.zero_ok | exact Inbox.zero_ok | exact Record.zero_ok | exact Kept.zero_ok  | exact hm | exact ho | exact oka | exact okb | exact okc | exact okd | exact oke | exact okf | exact ⟨trivial⟩) _ | exact Msg.setS_fCerts (by first | assumption | (simp; done) | exact Block.zero_ok | exact Vote.zero_ok | exact Reader.zero_ok | exact Cut.zero_ok | exact Cert.zero_ok | exact Msg.zero_ok | exact Inbox.zero_ok | exact Record.zero_ok | exact Kept.zero_ok  | exact hm | exact ho | exact oka | exact okb | exact okc | exact okd | exact oke | exact okf | exact ⟨trivial⟩) _ _ _) (by first | exact upd0 | exact upd1 | exact upd2 | exact upd3 | exact upd4 | exact upd5 | exact upd6 | exact upd7 | (repeat (first | exact upd0 | apply Upd.tail | apply Upd.seg))) ?_
            refine Tr.nil ?_
            refine at_n ?_
            refine Sat.join (ι := Unit) (fun _u => ⟨[(2, ptr n2 0), (3, ptr n3 0), (5, i64 m.fKind)], [⟨n3, o.cells, 49, o.cells.length⟩, ⟨n2, m.cells, 49, m.cells.length⟩]⟩) (fun _u => True) ?_ ?_
            ·
              refine Sat.seq ?_
              -- region 18
              refine Sat.region ?_
              refine Tr.fld rfl rfl rfl Try.underlying49 rfl Sz34 (by decide) _ rfl ?_
              refine Tr.load1 rfl rfl rfl Try.underlying34 rfl (by first | exact mem0 | exact mem1 | exact mem2 | exact mem3 | exact mem4 | exact mem5 | exact mem6 | exact mem7 | (repeat (first | exact List.mem_cons_self | refine List.mem_cons_of_mem _ ?_ | refine mem_seg ?_))) (by first | exact Msg.get_fBlocks (by first | assumption | (simp; done) | exact Block.zero_ok | exact Vote.zero_ok | exact Reader.zero_ok | exact Cut.zero_ok | exact Cert.zero_ok | exact Msg.zero_ok | exact Inbox.zero_ok | exact Record.zero_ok | exact Kept.zero_ok  | exact hm | exact ho | exact oka | exact okb | exact okc | exact okd | exact oke | exact okf | exact ⟨trivial⟩) | exact (by first | rfl | exact get_words (by first | omega | (simp; done) | (simp; omega)) | exact get_bytes (by first | omega | (simp; done) | (simp; omega)) | exact get_ints (by first | omega | (simp; done) | (simp; omega)))) ?_
              refine Tr.lenSl rfl rfl rfl Try.underlying34 ?_
              refine two (fun r hr k => Tr.gtr rfl rfl rfl rfl hr k) (fun hs18_30 => ?_) (fun hs18_30 => ?_)
              ·
                first | have hs18_3 := of_decide_eq_true hs18_30 | have hs18_3 := of_decide_eq_false hs18_30 | have hs18_3 := nd_t hs18_30 | have hs18_3 := nd_f hs18_30 | have hs18_3 := hs18_30
                refine Tr.move rfl rfl rfl ?_
                refine Tr.loadAll rfl rfl rfl Try.underlying49 rfl Sz49 (by first | exact mem0 | exact mem1 | exact mem2 | exact mem3 | exact mem4 | exact mem5 | exact mem6 | exact mem7 | (repeat (first | exact List.mem_cons_self | refine List.mem_cons_of_mem _ ?_ | refine mem_seg ?_))) (Msg.length (by first | assumption | (simp; done) | exact Block.zero_ok | exact Vote.zero_ok | exact Reader.zero_ok | exact Cut.zero_ok | exact Cert.zero_ok | exact Msg.zero_ok | exact Inbox.zero_ok | exact Record.zero_ok | exact Kept.zero_ok  | exact hm | exact ho | exact oka | exact okb | exact okc | exact okd | exact oke | exact okf | exact ⟨trivial⟩)) ?_
                refine Tr.callV rfl rfl rfl rfl Body18 (msg_check { d with fBlocks := sB } (D.setB E.dBlocks)) (fun w h => (hd w (Lies.of h (by repeat (first | exact in_here | exact in_all | refine in_there ?_ | refine in_seg ?_)))).setB ⟨_, hoB.seq (Lies.of h (by repeat (first | exact in_here | exact in_all | refine in_there ?_ | refine in_seg ?_))) (Lies.of h (by repeat (first | exact in_here | exact in_all | refine in_there ?_ | refine in_seg ?_))) (by omega)⟩) ?_
                refine Tr.eqi rfl rfl rfl rfl rfl ?_
                refine Tr.move rfl rfl rfl ?_
                refine Tr.eqi rfl rfl rfl rfl rfl ?_
                refine Tr.neb (r := false) rfl rfl rfl rfl Try.underlying4 (by first
                      | exact dec_imp ((ok_setB hcD hcE (by omega)).trans (by omega))) ?_
                refine Tr.pick rfl rfl rfl rfl rfl rfl ?_
                refine Tr.move rfl rfl rfl ?_
                refine Tr.fld rfl rfl rfl Try.underlying49 rfl Sz47 (by decide) _ rfl ?_
                refine Tr.load1 rfl rfl rfl Try.underlying47 rfl (by first | exact mem0 | exact mem1 | exact mem2 | exact mem3 | exact mem4 | exact mem5 | exact mem6 | exact mem7 | (repeat (first | exact List.mem_cons_self | refine List.mem_cons_of_mem _ ?_ | refine mem_seg ?_))) (by first | exact Msg.get_fCerts (by first | assumption | (simp; done) | exact Block.zero_ok | exact Vote.zero_ok | exact Reader.zero_ok | exact Cut.zero_ok | exact Cert.zero_ok | exact Msg.zero_ok | exact Inbox.zero_ok | exact Record.zero_ok | exact Kept.zero_ok  | exact hm | exact ho | exact oka | exact okb | exact okc | exact okd | exact oke | exact okf | exact ⟨trivial⟩) | exact (by first | rfl | exact get_words (by first | omega | (simp; done) | (simp; omega)) | exact get_bytes (by first | omega | (simp; done) | (simp; omega)) | exact get_ints (by first | omega | (simp; done) | (simp; omega)))) ?_
                refine Tr.lenSl rfl rfl rfl Try.underlying47 ?_
                refine two (fun r hr k => Tr.gtr rfl rfl rfl rfl hr k) (fun hs18_160 => ?_) (fun hs18_160 => ?_)
                ·
                  first | have hs18_16 := of_decide_eq_true hs18_160 | have hs18_16 := of_decide_eq_false hs18_160 | have hs18_16 := nd_t hs18_160 | have hs18_16 := nd_f hs18_160 | have hs18_16 := hs18_160
                  refine Tr.move rfl rfl rfl ?_
                  refine Tr.loadAll rfl rfl rfl Try.underlying49 rfl Sz49 (by first | exact mem0 | exact mem1 | exact mem2 | exact mem3 | exact mem4 | exact mem5 | exact mem6 | exact mem7 | (repeat (first | exact List.mem_cons_self | refine List.mem_cons_of_mem _ ?_ | refine mem_seg ?_))) (Msg.length (by first | assumption | (simp; done) | exact Block.zero_ok | exact Vote.zero_ok | exact Reader.zero_ok | exact Cut.zero_ok | exact Cert.zero_ok | exact Msg.zero_ok | exact Inbox.zero_ok | exact Record.zero_ok | exact Kept.zero_ok  | exact hm | exact ho | exact oka | exact okb | exact okc | exact okd | exact oke | exact okf | exact ⟨trivial⟩)) ?_
                  refine Tr.callV rfl rfl rfl rfl Body18 (msg_check { e with fCerts := sE } (D.setE E.dCerts)) (fun w h => (he w (Lies.of h (by repeat (first | exact in_here | exact in_all | refine in_there ?_ | refine in_seg ?_)))).setE ⟨_, hoE.seq (Lies.of h (by repeat (first | exact in_here | exact in_all | refine in_there ?_ | refine in_seg ?_))) (Lies.of h (by repeat (first | exact in_here | exact in_all | refine in_there ?_ | refine in_seg ?_))) (by omega)⟩) ?_
                  refine Tr.eqi rfl rfl rfl rfl rfl ?_
                  refine Tr.move rfl rfl rfl ?_
                  refine Tr.eqi rfl rfl rfl rfl rfl ?_
                  refine Tr.neb (r := false) rfl rfl rfl rfl Try.underlying4 (by first
                        | exact dec_imp ((ok_setE hcD hcE (by omega)).trans (by omega))) ?_
                  refine Tr.pick rfl rfl rfl rfl rfl rfl ?_
                  refine Tr.pick rfl rfl rfl rfl rfl rfl ?_
                  refine Tr.nil ?_
                  refine at_n ?_
                  refine Sat.cond_f rfl rfl ?_
                  refine Sat.skip ?_
                  refine at_n ?_
                  refine ⟨(), trivial, weak_perm (wk1 rfl (wk1 rfl (wk1 rfl wk0))) (pm_cons (by repeat (first | exact rem_here | apply rem_there | apply rem_seg)) (pm_cons (by repeat (first | exact rem_here | apply rem_there | apply rem_seg)) pm_nil))⟩
                ·
                  first | have hs18_16 := of_decide_eq_true hs18_160 | have hs18_16 := of_decide_eq_false hs18_160 | have hs18_16 := nd_t hs18_160 | have hs18_16 := nd_f hs18_160 | have hs18_16 := hs18_160
                  refine Tr.move rfl rfl rfl ?_
                  refine Tr.skp rfl rfl ?_
                  refine Tr.skp rfl rfl ?_
                  refine Tr.skp rfl rfl ?_
                  refine Tr.skp rfl rfl ?_
                  refine Tr.skp rfl rfl ?_
                  refine Tr.skp rfl rfl ?_
                  refine Tr.pick rfl rfl rfl rfl rfl rfl ?_
                  refine Tr.pick rfl rfl rfl rfl rfl rfl ?_
                  refine Tr.nil ?_
                  refine at_n ?_
                  refine Sat.cond_f rfl rfl ?_
                  refine Sat.skip ?_
                  refine at_n ?_
                  refine ⟨(), trivial, weak_perm (wk1 rfl (wk1 rfl (wk1 rfl wk0))) (pm_cons (by repeat (first | exact rem_here | apply rem_there | apply rem_seg)) (pm_cons (by repeat (first | exact rem_here | apply rem_there | apply rem_seg)) pm_nil))⟩
              ·
                first | have hs18_3 := of_decide_eq_true hs18_30 | have hs18_3 := of_decide_eq_false hs18_30 | have hs18_3 := nd_t hs18_30 | have hs18_3 := nd_f hs18_30 | have hs18_3 := hs18_30
                refine Tr.move rfl rfl rfl ?_
                refine Tr.skp rfl rfl ?_
                refine Tr.skp rfl rfl ?_
                refine Tr.skp rfl rfl ?_
                refine Tr.skp rfl rfl ?_
                refine Tr.skp rfl rfl ?_
                refine Tr.skp rfl rfl ?_
                refine Tr.pick rfl rfl rfl rfl rfl rfl ?_
                refine Tr.move rfl rfl rfl ?_
                refine Tr.fld rfl rfl rfl Try.underlying49 rfl Sz47 (by decide) _ rfl ?_
                refine Tr.load1 rfl rfl rfl Try.underlying47 rfl (by first | exact mem0 | exact mem1 | exact mem2 | exact mem3 | exact mem4 | exact mem5 | exact mem6 | exact mem7 | (repeat (first | exact List.mem_cons_self | refine List.mem_cons_of_mem _ ?_ | refine mem_seg ?_))) (by first | exact Msg.get_fCerts (by first | assumption | (simp; done) | exact Block.zero_ok | exact Vote.zero_ok | exact Reader.zero_ok | exact Cut.zero_ok | exact Cert.zero_ok | exact Msg.zero_ok | exact Inbox.zero_ok | exact Record.zero_ok | exact Kept.zero_ok  | exact hm | exact ho | exact oka | exact okb | exact okc | exact okd | exact oke | exact okf | exact ⟨trivial⟩) | exact (by first | rfl | exact get_words (by first | omega | (simp; done) | (simp; omega)) | exact get_bytes (by first | omega | (simp; done) | (simp; omega)) | exact get_ints (by first | omega | (simp; done) | (simp; omega)))) ?_
                refine Tr.lenSl rfl rfl rfl Try.underlying47 ?_
                refine two (fun r hr k => Tr.gtr rfl rfl rfl rfl hr k) (fun hs18_160 => ?_) (fun hs18_160 => ?_)
                ·
                  first | have hs18_16 := of_decide_eq_true hs18_160 | have hs18_16 := of_decide_eq_false hs18_160 | have hs18_16 := nd_t hs18_160 | have hs18_16 := nd_f hs18_160 | have hs18_16 := hs18_160
                  refine Tr.move rfl rfl rfl ?_
                  refine Tr.loadAll rfl rfl rfl Try.underlying49 rfl Sz49 (by first | exact mem0 | exact mem1 | exact mem2 | exact mem3 | exact mem4 | exact mem5 | exact mem6 | exact mem7 | (repeat (first | exact List.mem_cons_self | refine List.mem_cons_of_mem _ ?_ | refine mem_seg ?_))) (Msg.length (by first | assumption | (simp; done) | exact Block.zero_ok | exact Vote.zero_ok | exact Reader.zero_ok | exact Cut.zero_ok | exact Cert.zero_ok | exact Msg.zero_ok | exact Inbox.zero_ok | exact Record.zero_ok | exact Kept.zero_ok  | exact hm | exact ho | exact oka | exact okb | exact okc | exact okd | exact oke | exact okf | exact ⟨trivial⟩)) ?_
                  refine Tr.callV rfl rfl rfl rfl Body18 (msg_check { e with fCerts := sE } (D.setE E.dCerts)) (fun w h => (he w (Lies.of h (by repeat (first | exact in_here | exact in_all | refine in_there ?_ | refine in_seg ?_)))).setE ⟨_, hoE.seq (Lies.of h (by repeat (first | exact in_here | exact in_all | refine in_there ?_ | refine in_seg ?_))) (Lies.of h (by repeat (first | exact in_here | exact in_all | refine in_there ?_ | refine in_seg ?_))) (by omega)⟩) ?_
                  refine Tr.eqi rfl rfl rfl rfl rfl ?_
                  refine Tr.move rfl rfl rfl ?_
                  refine Tr.eqi rfl rfl rfl rfl rfl ?_
                  refine Tr.neb (r := false) rfl rfl rfl rfl Try.underlying4 (by first
                        | exact dec_imp ((ok_setE hcD hcE (by omega)).trans (by omega))) ?_
                  refine Tr.pick rfl rfl rfl rfl rfl rfl ?_
                  refine Tr.pick rfl rfl rfl rfl rfl rfl ?_
                  refine Tr.nil ?_
                  refine at_n ?_
                  refine Sat.cond_f rfl rfl ?_
                  refine Sat.skip ?_
                  refine at_n ?_
                  refine ⟨(), trivial, weak_perm (wk1 rfl (wk1 rfl (wk1 rfl wk0))) (pm_cons (by repeat (first | exact rem_here | apply rem_there | apply rem_seg)) (pm_cons (by repeat (first | exact rem_here | apply rem_there | apply rem_seg)) pm_nil))⟩
                ·
                  first | have hs18_16 := of_decide_eq_true hs18_160 | have hs18_16 := of_decide_eq_false hs18_160 | have hs18_16 := nd_t hs18_160 | have hs18_16 := nd_f hs18_160 | have hs18_16 := hs18_160
                  refine Tr.move rfl rfl rfl ?_
                  refine Tr.skp rfl rfl ?_
                  refine Tr.skp rfl rfl ?_
                  refine Tr.skp rfl rfl ?_
                  refine Tr.skp rfl rfl ?_
                  refine Tr.skp rfl rfl ?_
                  refine Tr.skp rfl rfl ?_
                  refine Tr.pick rfl rfl rfl rfl rfl rfl ?_
                  refine Tr.pick rfl rfl rfl rfl rfl rfl ?_
                  refine Tr.nil ?_
                  refine at_n ?_
                  refine Sat.cond_f rfl rfl ?_
                  refine Sat.skip ?_
                  refine at_n ?_
                  refine ⟨(), trivial, weak_perm (wk1 rfl (wk1 rfl (wk1 rfl wk0))) (pm_cons (by repeat (first | exact rem_here | apply rem_there | apply rem_seg)) (pm_cons (by repeat (first | exact rem_here | apply rem_there | apply rem_seg)) pm_nil))⟩
            ·
              intro _u hj
              skip
              refine Sat.seq ?_
              -- region 20
              refine Sat.region ?_
              refine Tr.loadAll rfl rfl rfl Try.underlying49 rfl Sz49 (by first | exact mem0 | exact mem1 | exact mem2 | exact mem3 | exact mem4 | exact mem5 | exact mem6 | exact mem7 | (repeat (first | exact List.mem_cons_self | refine List.mem_cons_of_mem _ ?_ | refine mem_seg ?_))) (Msg.length (by first | assumption | (simp; done) | exact Block.zero_ok | exact Vote.zero_ok | exact Reader.zero_ok | exact Cut.zero_ok | exact Cert.zero_ok | exact Msg.zero_ok | exact Inbox.zero_ok | exact Record.zero_ok | exact Kept.zero_ok  | exact hm | exact ho | exact oka | exact okb | exact okc | exact okd | exact oke | exact okf | exact ⟨trivial⟩)) ?_
              refine Tr.call rfl rfl rfl rfl Body19 (kit_own_msg m D hlD) (OwnedMsg.loose _) (fun w h => hW.1.ext h rfl) ?_
              rintro v115 out115 ⟨f, okf, rfl, hf⟩
              refine Tr.alloc (cs := Msg.zero.cells) rfl Msg.zr rfl ?_
              intro n11 hn11 hf11
              refine Tr.storeAll rfl rfl rfl rfl (Msg.isCell (by first | assumption | (simp; done) | exact Block.zero_ok | exact Vote.zero_ok | exact Reader.zero_ok | exact Cut.zero_ok | exact Cert.zero_ok | exact Msg.zero_ok | exact Inbox.zero_ok | exact Record.zero_ok | exact Kept.zero_ok  | exact hm | exact ho | exact oka | exact okb | exact okc | exact okd | exact oke | exact okf | exact ⟨trivial⟩)) Sz49 (Msg.length (by first | assumption | (simp; done) | exact Block.zero_ok | exact Vote.zero_ok | exact Reader.zero_ok | exact Cut.zero_ok | exact Cert.zero_ok | exact Msg.zero_ok | exact Inbox.zero_ok | exact Record.zero_ok | exact Kept.zero_ok  | exact hm | exact ho | exact oka | exact okb | exact okc | exact okd | exact oke | exact okf | exact ⟨trivial⟩)) (by first | exact mem0 | exact mem1 | exact mem2 | exact mem3 | exact mem4 | exact mem5 | exact mem6 | exact mem7 | (repeat (first | exact List.mem_cons_self | refine List.mem_cons_of_mem _ ?_ | refine mem_seg ?_))) (Msg.length (by first | assumption | (simp; done) | exact Block.zero_ok | exact Vote.zero_ok | exact Reader.zero_ok | exact Cut.zero_ok | exact Cert.zero_ok | exact Msg.zero_ok | exact Inbox.zero_ok | exact Record.zero_ok | exact Kept.zero_ok  | exact hm | exact ho | exact oka | exact okb | exact okc | exact okd | exact oke | exact okf | exact ⟨trivial⟩)) (by first | exact upd0 | exact upd1 | exact upd2 | exact upd3 | exact upd4 | exact upd5 | exact upd6 | exact upd7 | (repeat (first | exact upd0 | apply Upd.tail | apply Upd.seg))) ?_
              refine Tr.nil ?_
              refine at_n ?_
              refine Sat.seq ?_
              -- region 21
              refine Sat.drawK (sp_v (sp_x (sp_k (sp_v sp_n)))) rfl [(0, 1), (0, 2), (0, 4), (0, 5), (2, 0), (4, 3), (0, 7), (4, 6)] [(4, 8), (0, 9), (4, 10)] Mixed (by kernel_rfl) (by kernel_rfl) ?_
              refine Tr.fld rfl rfl rfl Try.underlying49 rfl Sz45 (by decide) _ rfl ?_
              refine Tr.kload1 rfl rfl rfl Try.underlying45 rfl (by first | exact mem0 | exact mem1 | exact mem2 | exact mem3 | exact mem4 | exact mem5 | exact mem6 | exact mem7 | (repeat (first | exact List.mem_cons_self | refine List.mem_cons_of_mem _ ?_ | refine mem_seg ?_))) (by first | exact Msg.get_fVotes (by first | assumption | (simp; done) | exact Block.zero_ok | exact Vote.zero_ok | exact Reader.zero_ok | exact Cut.zero_ok | exact Cert.zero_ok | exact Msg.zero_ok | exact Inbox.zero_ok | exact Record.zero_ok | exact Kept.zero_ok  | exact hm | exact ho | exact oka | exact okb | exact okc | exact okd | exact oke | exact okf | exact ⟨trivial⟩) | exact (by first | rfl | exact get_words (by first | omega | (simp; done) | (simp; omega)) | exact get_bytes (by first | omega | (simp; done) | (simp; omega)) | exact get_ints (by first | omega | (simp; done) | (simp; omega)))) ?_
              refine Tr.fld rfl rfl rfl Try.underlying49 rfl Sz46 (by decide) _ rfl ?_
              refine Tr.kload1 rfl rfl rfl Try.underlying46 rfl (by first | exact mem0 | exact mem1 | exact mem2 | exact mem3 | exact mem4 | exact mem5 | exact mem6 | exact mem7 | (repeat (first | exact List.mem_cons_self | refine List.mem_cons_of_mem _ ?_ | refine mem_seg ?_))) (by first | exact Msg.get_fCuts (by first | assumption | (simp; done) | exact Block.zero_ok | exact Vote.zero_ok | exact Reader.zero_ok | exact Cut.zero_ok | exact Cert.zero_ok | exact Msg.zero_ok | exact Inbox.zero_ok | exact Record.zero_ok | exact Kept.zero_ok  | exact hm | exact ho | exact oka | exact okb | exact okc | exact okd | exact oke | exact okf | exact ⟨trivial⟩) | exact (by first | rfl | exact get_words (by first | omega | (simp; done) | (simp; omega)) | exact get_bytes (by first | omega | (simp; done) | (simp; omega)) | exact get_ints (by first | omega | (simp; done) | (simp; omega)))) ?_
              refine Tr.mkRow2 (z := agg Vote.zero.cells) [] [] rfl rfl Try.underlying45 Sz72 Vote.zr rfl rfl (by intro v hv; cases hv) (by decide) rfl ?_
              intro q116
              refine Tr.appendSl (z := agg Vote.zero.cells) (by' := 160) ((vs.map Vote.cells).flatten) rfl rfl rfl rfl rfl Try.underlying45 Try.underlying45 Sz72 Zr72 (by unfold By; kernel_rfl) rfl (fun w h => seesP_ext h rfl hvs.see) (fun e => by have := hvs.nil e; have := hvs.cap; omega) (votes_cell (seq_votes hvs)) (by repeat (first | exact rem_here | apply rem_there | apply rem_seg)) rfl rfl (by omega) (by omega) (by omega) hvs.flat ?_
              intro q119 c119 hq119
              rw [Nat.zero_add o.fVotes.n]
              refine Tr.fld rfl rfl rfl Try.underlying49 rfl Sz45 (by decide) _ rfl ?_
              refine Tr.call4 rfl rfl rfl rfl rfl Body22 (kit_own_cuts o.fCuts E.dCuts (by omega) hsmE.cuts) (fun w h => Cuts_ext h rfl hW.2.fCuts) ?_
              rintro v122 out122 ⟨sC, bC, bC2, rC, rfl, rfl, hoC⟩
              simp only [List.append_assoc, List.cons_append, List.nil_append]
              refine Tr.nil ?_
              refine Tr.store1 rfl rfl rfl rfl rfl Sz45 (by first | exact mem0 | exact mem1 | exact mem2 | exact mem3 | exact mem4 | exact mem5 | exact mem6 | exact mem7 | (repeat (first | exact List.mem_cons_self | refine List.mem_cons_of_mem _ ?_ | refine mem_seg ?_))) (by rw [Msg.length (by first | assumption | (simp; done) | exact Block.zero_ok | exact Vote.zero_ok | exact Reader.zero_ok | exact Cut.zero_ok | exact Cert.zero_ok | exact Msg.zero_ok | exact Inbox.zero_ok | exact Record.zero_ok | exact Kept.zero_ok  | exact hm | exact ho | exact oka | exact okb | exact okc | exact okd | exact oke | exact okf | exact ⟨trivial⟩)]; decide) (by first | exact Msg.set_fVotes (by first | assumption | (simp; done) | exact Block.zero_ok | exact Vote.zero_ok | exact Reader.zero_ok | exact Cut.zero_ok | exact Cert.zero_ok | exact Msg.zero_ok | exact Inbox.zero_ok | exact Record.zero_ok | exact Kept.zero_ok  | exact hm | exact ho | exact oka | exact okb | exact okc | exact okd | exact oke | exact okf | exact ⟨trivial⟩) _ | exact Msg.setS_fVotes (by first | assumption | (simp; done) | exact Block.zero_ok | exact Vote.zero_ok | exact Reader.zero_ok | exact Cut.zero_ok | exact Cert.zero_ok | exact Msg.zero_ok | exact Inbox.zero_ok | exact Record.zero_ok | exact Kept.zero_ok  | exact hm | exact ho | exact oka | exact okb | exact okc | exact okd | exact oke | exact okf | exact ⟨trivial⟩) _ _ _) (by first | exact upd0 | exact upd1 | exact upd2 | exact upd3 | exact upd4 | exact upd5 | exact upd6 | exact upd7 | (repeat (first | exact upd0 | apply Upd.tail | apply Upd.seg))) ?_
              refine Tr.fld rfl rfl rfl Try.underlying49 rfl Sz46 (by decide) _ rfl ?_
              refine Tr.store1 rfl rfl rfl rfl rfl Sz46 (by first | exact mem0 | exact mem1 | exact mem2 | exact mem3 | exact mem4 | exact mem5 | exact mem6 | exact mem7 | (repeat (first | exact List.mem_cons_self | refine List.mem_cons_of_mem _ ?_ | refine mem_seg ?_))) (by rw [Msg.length (by first | assumption | (simp; done) | exact Block.zero_ok | exact Vote.zero_ok | exact Reader.zero_ok | exact Cut.zero_ok | exact Cert.zero_ok | exact Msg.zero_ok | exact Inbox.zero_ok | exact Record.zero_ok | exact Kept.zero_ok  | exact hm | exact ho | exact oka | exact okb | exact okc | exact okd | exact oke | exact okf | exact ⟨trivial⟩)]; decide) (by first | exact Msg.set_fCuts (by first | assumption | (simp; done) | exact Block.zero_ok | exact Vote.zero_ok | exact Reader.zero_ok | exact Cut.zero_ok | exact Cert.zero_ok | exact Msg.zero_ok | exact Inbox.zero_ok | exact Record.zero_ok | exact Kept.zero_ok  | exact hm | exact ho | exact oka | exact okb | exact okc | exact okd | exact oke | exact okf | exact ⟨trivial⟩) _ | exact Msg.setS_fCuts (by first | assumption | (simp; done) | exact Block.zero_ok | exact Vote.zero_ok | exact Reader.zero_ok | exact Cut.zero_ok | exact Cert.zero_ok | exact Msg.zero_ok | exact Inbox.zero_ok | exact Record.zero_ok | exact Kept.zero_ok  | exact hm | exact ho | exact oka | exact okb | exact okc | exact okd | exact oke | exact okf | exact ⟨trivial⟩) _ _ _) (by first | exact upd0 | exact upd1 | exact upd2 | exact upd3 | exact upd4 | exact upd5 | exact upd6 | exact upd7 | (repeat (first | exact upd0 | apply Upd.tail | apply Upd.seg))) ?_
              refine Tr.nil ?_
              refine at_n ?_
              refine Sat.seq ?_
              -- region 22
              refine Sat.region ?_
              refine Tr.fld rfl rfl rfl Try.underlying49 rfl Sz45 (by decide) _ rfl ?_
              refine Tr.load1 rfl rfl rfl Try.underlying45 rfl (by first | exact mem0 | exact mem1 | exact mem2 | exact mem3 | exact mem4 | exact mem5 | exact mem6 | exact mem7 | (repeat (first | exact List.mem_cons_self | refine List.mem_cons_of_mem _ ?_ | refine mem_seg ?_))) (by first | exact Msg.get_fVotes (by first | assumption | (simp; done) | exact Block.zero_ok | exact Vote.zero_ok | exact Reader.zero_ok | exact Cut.zero_ok | exact Cert.zero_ok | exact Msg.zero_ok | exact Inbox.zero_ok | exact Record.zero_ok | exact Kept.zero_ok  | exact hm | exact ho | exact oka | exact okb | exact okc | exact okd | exact oke | exact okf | exact ⟨trivial⟩) | exact (by first | rfl | exact get_words (by first | omega | (simp; done) | (simp; omega)) | exact get_bytes (by first | omega | (simp; done) | (simp; omega)) | exact get_ints (by first | omega | (simp; done) | (simp; omega)))) ?_
              refine Tr.lenSl rfl rfl rfl Try.underlying45 ?_
              refine Tr.fld rfl rfl rfl Try.underlying49 rfl Sz46 (by decide) _ rfl ?_
              refine Tr.load1 rfl rfl rfl Try.underlying46 rfl (by first | exact mem0 | exact mem1 | exact mem2 | exact mem3 | exact mem4 | exact mem5 | exact mem6 | exact mem7 | (repeat (first | exact List.mem_cons_self | refine List.mem_cons_of_mem _ ?_ | refine mem_seg ?_))) (by first | exact Msg.get_fCuts (by first | assumption | (simp; done) | exact Block.zero_ok | exact Vote.zero_ok | exact Reader.zero_ok | exact Cut.zero_ok | exact Cert.zero_ok | exact Msg.zero_ok | exact Inbox.zero_ok | exact Record.zero_ok | exact Kept.zero_ok  | exact hm | exact ho | exact oka | exact okb | exact okc | exact okd | exact oke | exact okf | exact ⟨trivial⟩) | exact (by first | rfl | exact get_words (by first | omega | (simp; done) | (simp; omega)) | exact get_bytes (by first | omega | (simp; done) | (simp; omega)) | exact get_ints (by first | omega | (simp; done) | (simp; omega)))) ?_
              refine Tr.lenSl rfl rfl rfl Try.underlying46 ?_
              refine Tr.add_i64 rfl rfl rfl rfl (by omega) ?_
              refine two (fun r hr k => Tr.eqi rfl rfl rfl rfl hr k) (fun hs22_70 => ?_) (fun hs22_70 => ?_)
              ·
                first | have hs22_7 := of_decide_eq_true hs22_70 | have hs22_7 := of_decide_eq_false hs22_70 | have hs22_7 := nd_t hs22_70 | have hs22_7 := nd_f hs22_70 | have hs22_7 := hs22_70
                refine Tr.move rfl rfl rfl ?_
                refine Tr.skp rfl rfl ?_
                refine Tr.skp rfl rfl ?_
                refine Tr.skp rfl rfl ?_
                refine Tr.skp rfl rfl ?_
                refine Tr.skp rfl rfl ?_
                refine Tr.skp rfl rfl ?_
                refine Tr.pick rfl rfl rfl rfl rfl rfl ?_
                refine Tr.assign rfl rfl rfl ?_
                refine Tr.nil ?_
                refine at_n ?_
                refine Sat.ret ?_
                refine en_r ?_
                refine ⟨_, [], res_tmp rfl rfl, (by simp), (by simp), ?_, rfl⟩
                first
                  | rfl
                  | simp_all
              ·
                first | have hs22_7 := of_decide_eq_true hs22_70 | have hs22_7 := of_decide_eq_false hs22_70 | have hs22_7 := nd_t hs22_70 | have hs22_7 := nd_f hs22_70 | have hs22_7 := hs22_70
                refine Tr.move rfl rfl rfl ?_
                refine Tr.loadAll rfl rfl rfl Try.underlying49 rfl Sz49 (by first | exact mem0 | exact mem1 | exact mem2 | exact mem3 | exact mem4 | exact mem5 | exact mem6 | exact mem7 | (repeat (first | exact List.mem_cons_self | refine List.mem_cons_of_mem _ ?_ | refine mem_seg ?_))) (Msg.length (by first | assumption | (simp; done) | exact Block.zero_ok | exact Vote.zero_ok | exact Reader.zero_ok | exact Cut.zero_ok | exact Cert.zero_ok | exact Msg.zero_ok | exact Inbox.zero_ok | exact Record.zero_ok | exact Kept.zero_ok  | exact hm | exact ho | exact oka | exact okb | exact okc | exact okd | exact oke | exact okf | exact ⟨trivial⟩)) ?_
                refine Tr.callV rfl rfl rfl rfl Body18 (msg_check { f with fVotes := ⟨some ⟨q119, 0, none⟩, o.fVotes.n, c119⟩, fCuts := sC } (D.setVC E.dVotes E.dCuts)) (fun w h => (hf w (Lies.of h (by repeat (first | exact in_here | exact in_all | refine in_there ?_ | refine in_seg ?_)))).setVC (owned_votes hvs (show o.fVotes.n ≤ c119 by omega) (by omega) w (Lies.of h (by intro b hb; rw [List.mem_singleton.1 hb]; repeat (first | exact List.mem_cons_self | refine List.mem_cons_of_mem _ ?_ | refine mem_seg ?_)))) ⟨_, hoC.seq (Lies.of h (by repeat (first | exact in_here | exact in_all | refine in_there ?_ | refine in_seg ?_))) (Lies.of h (by repeat (first | exact in_here | exact in_all | refine in_there ?_ | refine in_seg ?_))) (by omega)⟩) ?_
                refine Tr.eqi rfl rfl rfl rfl rfl ?_
                refine Tr.move rfl rfl rfl ?_
                refine Tr.eqi rfl rfl rfl rfl rfl ?_
                refine Tr.eqb (r := true) rfl rfl rfl rfl Try.underlying4 (dec_eqT ((ok_setVC hcD hcE (by omega)).trans (by omega))) ?_
                refine Tr.pick rfl rfl rfl rfl rfl rfl ?_
                refine Tr.assign rfl rfl rfl ?_
                refine Tr.nil ?_
                refine at_n ?_
                refine Sat.ret ?_
                refine en_r ?_
                refine ⟨_, [], res_tmp rfl rfl, (by simp), (by simp), ?_, rfl⟩
                first
                  | rfl
                  | simp_all
    ·
      first | have hs3_5 := of_decide_eq_true hs3_50 | have hs3_5 := of_decide_eq_false hs3_50 | have hs3_5 := nd_t hs3_50 | have hs3_5 := nd_f hs3_50 | have hs3_5 := hs3_50
      refine Tr.not rfl rfl rfl ?_
      refine Tr.pick rfl rfl rfl rfl rfl rfl ?_
      refine Tr.move rfl rfl rfl ?_
      refine Tr.skp rfl rfl ?_
      refine Tr.skp rfl rfl ?_
      refine Tr.skp rfl rfl ?_
      refine Tr.pick rfl rfl rfl rfl rfl rfl ?_
      refine Tr.nil ?_
      refine at_n ?_
      refine Sat.cond_t rfl rfl ?_
      refine Sat.seq ?_
      -- region 4
      refine Sat.region ?_
      refine Tr.assign rfl rfl rfl ?_
      refine Tr.nil ?_
      refine at_n ?_
      refine Sat.ret ?_
      refine at_r ?_
      refine en_r ?_
      refine ⟨_, [], res_tmp rfl rfl, (by simp), (by simp), ?_, rfl⟩
      first
        | rfl
        | simp_all
  ·
    first | have hs3_1 := of_decide_eq_true hs3_10 | have hs3_1 := of_decide_eq_false hs3_10 | have hs3_1 := nd_t hs3_10 | have hs3_1 := nd_f hs3_10 | have hs3_1 := hs3_10
    refine Tr.not rfl rfl rfl ?_
    refine Tr.move rfl rfl rfl ?_
    refine Tr.skp rfl rfl ?_
    refine Tr.skp rfl rfl ?_
    refine Tr.skp rfl rfl ?_
    refine Tr.pick rfl rfl rfl rfl rfl rfl ?_
    refine Tr.move rfl rfl rfl ?_
    refine Tr.skp rfl rfl ?_
    refine Tr.skp rfl rfl ?_
    refine Tr.skp rfl rfl ?_
    refine Tr.pick rfl rfl rfl rfl rfl rfl ?_
    refine Tr.nil ?_
    refine at_n ?_
    refine Sat.cond_t rfl rfl ?_
    refine Sat.seq ?_
    -- region 4
    refine Sat.region ?_
    refine Tr.assign rfl rfl rfl ?_
    refine Tr.nil ?_
    refine at_n ?_
    refine Sat.ret ?_
    refine at_r ?_
    refine en_r ?_
    refine ⟨_, [], res_tmp rfl rfl, (by simp), (by simp), ?_, rfl⟩
    first
      | rfl
      | simp_all

end Go.Proofs.Ytejjamifnombhaa
end

section
namespace Go.Proofs.Ytejjamifnombhaa
open Go Go.ChangeShapes Go.WideShapes Go.ChangeAt Go.RowKit
set_option linter.unusedVariables false

theorem ownFields : ownKnob Try.prog.godebug = none := by kernel_rfl
theorem laidOutFields : laidOutB Try.prog = true := by kernel_rfl

theorem walkFields (w : World) (x0 : Msg) (D0 : DMsg) (is0 : MsgIs w x0 D0) (x1 : Msg) (D1 : DMsg) (is1 : MsgIs w x1 D1) : Calls Try.prog 4 #[Hw.agg x0.cells, Hw.agg x1.cells] w fun e w' => e = .returned (.bool true) ∧ Below w.heap.size w w' :=
  by
  have fin : ∀ {us : Array Value}, Calls Try.prog 4 us w (fun e W' => ∃ v out, e = .returned v ∧ (v = .bool true ∧ out = []) ∧ Hw.Ret [] out w W') → Calls Try.prog 4 us w (fun e w' => e = .returned (.bool true) ∧ Below w.heap.size w w') :=
    fun h => h.mono fun e w' ⟨v, out, he, ⟨hv, ho⟩, hr⟩ => ⟨by rw [he, hv], Hw.Keeps.below hr.keeps⟩
  exact fin (law_fields x0 x1 D0 D1 w ⟨is0, is1⟩)

set_option maxRecDepth 100000 in
theorem liftedFields (os : Os) (started : os.Started) (H : Type) (enc : TypeId × Value → H) :
    ReturnsInHanded {} Try.checked os 4 .any (Rows.syncFieldsSpec.pre6 enc Try.prog Try.f4 Rows.syncFieldsRow.domain false) (Rows.syncFieldsSpec.post enc Try.prog Try.f4 false true false false) := by
  refine returnsInHanded_of_change (C := Try.checked) ownFields started (by kernel_rfl) Try.func4
    (ChangeSpec.witness6 (enc := enc) (C := Try.checked) false ⟨#[], #[.agg #[.int .i64 0, .int .u64 0, .slice none 0 0, .slice none 0 0, .slice none 0 0, .slice none 0 0, .slice none 0 0, .slice none 0 0], .agg #[.int .i64 0, .int .u64 0, .slice none 0 0, .slice none 0 0, .slice none 0 0, .slice none 0 0, .slice none 0 0, .slice none 0 0]], []⟩ 8 (by kernel_rfl) (by kernel_rfl) (by kernel_rfl) (by kernel_rfl)) ?_
  intro W base args ds gs before hval0 hW hcnd _
  have hval : ∀ (j : Nat) t v, Try.f4.params[j]? = some t → args[j]? = some v → Value.okWide Try.prog W .any base t v := hval0
  have hW' := hW
  obtain ⟨p, q, hA0, hV, rfl, hfz, hnd⟩ := hW
  have hA : DataW.TrodAll enc Try.prog W 0 (fun _ => true) true Try.f4.params.toList args.toList ds p := hA0
  rw [Try.params4] at hA hval
  obtain ⟨v0, vs0, d0, ds0, p0, q0, hargs, rfl, rfl, h0, r0⟩ := trodAll_cons hA
  obtain ⟨v1, vs1, d1, ds1, p1, q1, rfl, rfl, rfl, h1, r1⟩ := trodAll_cons r0
  obtain ⟨rfl, rfl, rfl⟩ := trodAll_nil r1
  obtain rfl : args = #[v0, v1] := by cases args; simp_all
  obtain ⟨rfl, rfl⟩ := trodVars_none hV
  have k0 := h0
  have lt0 : ∀ x ∈ p0, x.block < W.heap.size := by obtain ⟨m, hm⟩ := k0; exact DataW.trod_lt m _ _ _ hm
  have k1 := h1
  have lt1 : ∀ x ∈ p1, x.block < W.heap.size := by obtain ⟨m, hm⟩ := k1; exact DataW.trod_lt m _ _ _ hm
  obtain ⟨x0, D0, rfl, is0⟩ := Msg.openW (hval 0 49 v0 rfl rfl) h0
  obtain ⟨x1, D1, rfl, is1⟩ := Msg.openW (hval 1 49 v1 rfl rfl) h1
  clear hA0 hval0
  refine (walkFields W x0 D0 is0 x1 D1 is1).mono fun e W' ⟨he, bel⟩ => ?_
  subst he
  exact ⟨_, rfl, _, _, _, [], _, [], hW', trodAll_mk1 (shut_bool Try.underlying4 _), (trodAll_cons_mk (Below.trod laidOutFields (by kernel_rfl) (of_decide_eq_true (by kernel_rfl)) k0 bel lt0) (trodAll_cons_mk (Below.trod laidOutFields (by kernel_rfl) (of_decide_eq_true (by kernel_rfl)) k1 bel lt1) trodAll_mk0)), rfl, bel.frame _, fun h => by cases h⟩

theorem syncFields_holds : Rows.SyncFieldsSaid :=
  OpenClaim.holds_of_wide 4 Try.f4 rfl rfl rfl rfl rfl rfl rfl ⟨rfl, rfl, rfl, rfl, rfl⟩ rfl rfl rfl rfl rfl (by kernel_rfl) Try.func4 (by kernel_rfl)
    (of_decide_eq_true (by kernel_rfl)) (by unfold Func.isWrapper; first | (rw [if_pos (by decide +kernel)]; kernel_rfl) | (rw [if_neg (by decide +kernel)]; exact ⟨rfl, rfl⟩))
    (fun os started H enc _ => liftedFields os started H enc)

end Go.Proofs.Ytejjamifnombhaa
end
