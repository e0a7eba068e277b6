/- Contracts of functions of the loaded program, and the lemmas that they need (part 4). It proves no statement by itself; it has no conditions. -/
import Derived.WalkKit
import Derived.Orders
import Derived.Deep.LoopGhost
import Derived.IntWalk
import Derived.Laws.StructEq
import Derived.ArgAppend
import Derived.Deep.AppendSrc
import Derived.Lib.Bytealg
import Derived.Lib.BytesEntry
import Derived.Laws.IdiomStrings
import Derived.WideKeyArr2
import Derived.ProofKit
import Derived.OpenShut
import Derived.Deep.Slices
import Derived.Laws.Pointers
import Derived.Laws.Cover3
import Derived.LaidEqlPtr
import Derived.LoopN
import Derived.RangeFuncLeaves
import Derived.RangeFuncSeq
import Derived.OrdersIn
import Derived.Test.YtdifpjmfabhpiaaGreatRows
import Derived.KernelRfl
import Derived.Laws.Externs
import Derived.Defers
import Derived.ChangeOld
import Derived.Below
import Derived.Test.YtdifpjmfabhpiaaGreatSBackC3
set_option maxRecDepth 100000
set_option maxHeartbeats 8000000
set_option linter.unusedVariables false
set_option linter.unusedSimpArgs false
section
namespace Go.Proofs.YtdifpjmfabhpiaaGreat
open Go Hw

theorem all_cert_1 (x : Cert) (d : DCert) (q : Nat) : Meets Tryz.prog 212 [agg x.cells, ptr q 0] [] (fun W => CertIs W x d ∧ W.cell? ⟨q, 0, none⟩ = some (.func (.func 31) #[] #[])) (fun v out => v = .bool (!decide (d.check = 0)) ∧ out = []) := by
 intro W hW
 refine An Tryz.func212 rfl 8 Tryz.ntmps212 rfl ?_
 refine Sat.seq (Sat.region ?_)
 refine Tr.boxA rfl rfl ?_
 intro n2 hn2 hf2
 refine Tr.a rfl rfl rfl ?_
 refine Tr.nil (Aa (Sat.seq (Sat.region ?_)))
 refine Tr.loadE rfl rfl rfl Tryz.underlying69 rfl (by first | (simp; done) | (simp; exact hW.2.2) | (simp [Cx.with]; done) | (simp [Cx.with]; omega)) (hW.2) ?_
 refine Tr.lA rfl rfl rfl Y55 rfl Sz55 mM (Cert.length (by first | exact oK  | exact hW.1.ok)) ?_
 refine Tr.cV rfl rfl rfl rfl Body31 (cert_check x d) (fun w h => hW.1.ext h rfl) ?_
 refine Tr.nei rfl rfl rfl rfl rfl ?_
 refine Tr.a rfl rfl rfl ?_
 refine Tr.nil (Aa (Sat.ret (Ai ?_)))
 refine ⟨_, [], Ae rfl rfl, sP, sP, ?_, rfl⟩
 first
  | rfl
  | simp

theorem index_cert (s : Sl) (ds : List DCert) (q : Nat) : Meets Tryz.prog 229 [s.v, .func (.func 212) #[] #[ptr q 0]] [] (fun W => CertsAt W s ds ∧ W.cell? ⟨q, 0, none⟩ = some (.func (.func 31) #[] #[])) (fun v out => v = i64 (fstBad (fun d : DCert => !decide (d.check = 0)) ds) ∧ out = []) := by
 intro W hW
 obtain ⟨⟨rs, hs⟩, hq⟩ := hW
 have hmax := hs.max
 simp only [maxLen] at hmax
 have hcap := hs.cap
 refine An Tryz.func229 rfl 19 Tryz.ntmps229 rfl ?_
 refine Sat.seq (Sat.region ?_)
 refine Tr.a rfl rfl rfl ?_
 refine Tr.nil (Aa (Sat.seq (Sat.seq (Sat.region ?_))))
 refine Tr.m rfl rfl rfl ?_
 refine Tr.lenSl rfl rfl rfl Y23 ?_
 refine Tr.m rfl rfl rfl ?_
 refine Tr.nil (Aa (Sat.block ?_))
 refine Sat.loop (ι := Nat) (fun k => ⟨[(0, s.v), (1, .func (.func 212) #[] #[ptr q 0]), (7, i64 (s.n : Int)), (8, i64 (k : Int))], []⟩) (fun k => k ≤ s.n ∧ ∀ j, j < k → (ds.map (fun d : DCert => !decide (d.check = 0)))[j]? = some false) (fun k => s.n - k) (0) ?_ ?_ ?_
 · exact ⟨by omega, fun j hj => by omega⟩
 · exact Ar (wk1 rfl (wk1 rfl (wk1 rfl (wk1 rfl wk0)))) wh0 nD
 ·
  rintro k ⟨hk, hg⟩
  refine Sat.seq (Sat.region ?_)
  refine Tr.lss rfl rfl rfl rfl rfl ?_
  refine Tr.nil (Aa (Sat.seq ?_))
  first
   | refine Sat.condP rfl (fun hc0 => ?_) (fun hc0 => ?_)
   | refine Sat.condNP rfl (fun hc0 => ?_) (fun hc0 => ?_)
   | refine Sat.cond rfl (fun hc0 => ?_) (fun hc0 => ?_)
  ·
   have hk2 : k < s.n := by omega
   obtain ⟨b, o, r, d, hsp, hr, hd, his, hlen, hsee⟩ := hs.at dE hk2
   refine Sat.skip (Aa (Sat.seq (Sat.block (Sat.seq (Sat.region ?_)))))
   refine Tr.m rfl rfl rfl ?_
   refine Tr.a rfl rfl rfl ?_
   refine Tr.nil (Aa (Sat.seq (Sat.region ?_)))
   refine Tr.m rfl rfl rfl ?_
   refine Tr.m rfl rfl rfl ?_
   refine Tr.m rfl rfl rfl ?_
   refine Tr.idxSlP 35 rfl rfl rfl hsp rfl Y23 Sz55 k oM oM ?_
   refine Tr.loadEN r.cells rfl rfl rfl Y55 rfl Sz55 sP hlen hsee ?_
   refine Tr.callCV rfl rfl rfl rfl rfl Body212 (all_cert_1 r d q) (fun w h => ⟨his.ext h rfl, h.keeps.cell sP hq⟩) ?_
   refine Tr.nil (Aa ?_)
   first
    | refine Sat.condP rfl (fun hc1 => ?_) (fun hc1 => ?_)
    | refine Sat.condNP rfl (fun hc1 => ?_) (fun hc1 => ?_)
    | refine Sat.cond rfl (fun hc1 => ?_) (fun hc1 => ?_)
   ·
    refine Sat.seq (Sat.region ?_)
    refine Tr.m rfl rfl rfl ?_
    refine Tr.a rfl rfl rfl ?_
    refine Tr.nil (Aa (Sat.ret (B7 (Ap (Ap (B7 (Ap (Ai ?_))))))))
    refine ⟨_, [], Ae rfl rfl, sP, sP, ?_, rfl⟩
    first
     | exact congrArg i64 (fstBad_none (by intro j hj; exact hg j (by rw [hs.nd] at hj; exact hj))).symm
     | exact congrArg i64 (fstBad_at hg (by rw [List.getElem?_map, hd]; simpa using hc1)).symm
   ·
    refine Sat.skip (Cc (Aa (Sat.region ?_)))
    refine Tr.aI rfl rfl rfl rfl oM ?_
    refine Tr.m rfl rfl rfl ?_
    refine Tr.nil (Aa ?_)
    exact ⟨k + 1, ⟨by omega, fun j hj => by rcases Nat.lt_succ_iff_lt_or_eq.1 hj with h | rfl; exact hg j h; rw [List.getElem?_map, hd]; simpa using hc1⟩, by omega, Ar (wk1 rfl (wk1 rfl (wk1 rfl (wk1 rfl wk0)))) wh0 nD⟩
  ·
   obtain rfl : k = s.n := by omega
   refine Sat.exit (Bi (Bi (bl_h (Aa (Sat.seq (Sat.region ?_))))))
   refine Tr.a rfl rfl rfl ?_
   refine Tr.nil (Aa (Sat.ret (Ai ?_)))
   refine ⟨_, [], Ae rfl rfl, sP, sP, ?_, rfl⟩
   first
    | exact congrArg i64 (fstBad_none (by intro j hj; exact hg j (by rw [hs.nd] at hj; exact hj))).symm
    | exact congrArg i64 (fstBad_at hg (by rw [List.getElem?_map, hd]; simpa using hc1)).symm

theorem contains_cert (s : Sl) (ds : List DCert) (q : Nat) : Meets Tryz.prog 179 [s.v, .func (.func 212) #[] #[ptr q 0]] [] (fun W => CertsAt W s ds ∧ W.cell? ⟨q, 0, none⟩ = some (.func (.func 31) #[] #[])) (fun v out => v = .bool (ds.any (fun d : DCert => !decide (d.check = 0))) ∧ out = []) := by
 intro W hW
 refine An Tryz.func179 rfl 9 Tryz.ntmps179 rfl ?_
 refine Sat.seq (Sat.region ?_)
 refine Tr.a rfl rfl rfl ?_
 refine Tr.nil (Aa (Sat.seq (Sat.region ?_)))
 refine Tr.m rfl rfl rfl ?_
 refine Tr.m rfl rfl rfl ?_
 refine Tr.cV rfl rfl rfl rfl Body229 (index_cert s ds q) (fun w h => ⟨Certs_ext h rfl hW.1, h.keeps.cell sP hW.2⟩) ?_
 refine Tr.geq rfl rfl rfl rfl rfl ?_
 refine Tr.a rfl rfl rfl ?_
 refine Tr.nil (Aa (Sat.ret (Ai ?_)))
 refine ⟨_, [], Ae rfl rfl, sP, sP, ?_, rfl⟩
 exact congrArg Value.bool (fstBad_ge _ _)

theorem all_cert (s : Sl) (ds : List DCert) : Meets Tryz.prog 129 [s.v, .func (.func 31) #[] #[]] [] (fun W => CertsAt W s ds) (fun v out => v = .bool (ds.all fun d => decide (d.check = 0)) ∧ out = []) := by
 intro W hW
 refine An Tryz.func129 rfl 9 Tryz.ntmps129 rfl ?_
 refine Sat.seq (Sat.region ?_)
 refine Tr.box1 rfl rfl rfl ?_
 intro n3 hn3 hf3
 refine Tr.a rfl rfl rfl ?_
 refine Tr.nil (Aa (Sat.seq (Sat.region ?_)))
 refine Tr.m rfl rfl rfl ?_
 refine Tr.makeFunc rfl rfl rfl rfl ?_
 refine Tr.cV rfl rfl rfl rfl Body179 (contains_cert s ds n3) (fun w h => ⟨Certs_ext h rfl hW, (Ah h mM).cell (o := 0) rfl⟩) ?_
 refine Tr.not rfl rfl rfl ?_
 refine Tr.a rfl rfl rfl ?_
 refine Tr.nil (Aa (Sat.ret (Ai ?_)))
 refine ⟨_, [], Ae rfl rfl, sP, sP, ?_, rfl⟩
 exact congrArg Value.bool (any_all _ _)

def DMsg.bad (D : DMsg) : Prop := Ao D.dKind = 0 ∨ (4294967295 : Int) < (D.dHeight.toNat : Int) ∨ ¬ andNotI D.used (Ao D.dKind) = 0 ∨ (32 : Int) < (D.dHeads.length : Int) ∨ (32 : Int) < (D.dWant.length : Int) ∨ (8 : Int) < (D.dBlocks.length : Int) ∨ (20 : Int) < (D.dVotes.length : Int) ∨ (4 : Int) < (D.dCuts.length : Int) ∨ (2 : Int) < (D.dCerts.length : Int) ∨ (¬ D.dKind = 1 ∧ ¬ D.dKind = 2 ∧ D.used = 0) ∨
  ¬ (D.dBlocks.all fun d => decide (d.check = 0)) = true ∨ ¬ (D.dVotes.all fun d => decide (Bt d = 0)) = true ∨ ¬ (D.dCuts.all fun d => decide (d.check = 0)) = true ∨ ¬ (D.dCerts.all fun d => decide (d.check = 0)) = true
open Classical in
noncomputable def DMsg.check (D : DMsg) : Int := if D.bad then 2 else 0
theorem Bz {D : DMsg} (h : D.bad) : D.check = 2 := if_pos h
theorem Bo {D : DMsg} (h : ¬ D.bad) : D.check = 0 := if_neg h

theorem msg_check (m : Msg) (D : DMsg) : Meets Tryz.prog 34 [agg m.cells] [] (fun W => MsgIs W m D) (fun v out => v = i64 D.check ∧ out = []) := by
 intro W hW
 have hok := hW.ok
 have hl := hW.len
 have hbits := mbits_eq hW
 have hu : ((usedN (mbits m) 7 : Nat) : Int) = D.used := by rw [hbits]; rfl
 have eK := hW.fKind
 have eH := hW.fHeight
 refine An Tryz.func34 rfl 90 Tryz.ntmps34 rfl ?_
 refine Sat.seq (Sat.region ?_)
 refine Tr.boxA rfl rfl ?_
 intro n1 hn1 hf1
 refine Tr.a rfl rfl rfl ?_
 refine Tr.nil (Aa (Sat.seq (Sat.region ?_)))
 refine Tr.fld rfl rfl rfl Y57 rfl Sz3 dE _ rfl ?_
 refine Tr.load1 rfl rfl rfl Y3 rfl mM (by first | exact Msg.get_fKind (by first | exact oK  | exact hok) | exact vL) ?_
 refine Tr.cV rfl rfl rfl rfl Body93 (sync_parts m.fKind) tV ?_
 refine Tr.a rfl rfl rfl ?_
 refine Tr.nil (Aa (Sat.seq (Sat.seq (Sat.region ?_))))
 refine Tr.m rfl rfl rfl ?_
 refine two (fun r hr k => Tr.eqi rfl rfl rfl rfl hr k) (fun hs2_10 => ?_) (fun hs2_10 => ?_)
 ·
  first | have hs2_1 := of_decide_eq_true hs2_10 | have hs2_1 := of_decide_eq_false hs2_10 | have hs2_1 := A0 hs2_10 | have hs2_1 := A1 hs2_10 | have hs2_1 := hs2_10
  refine Tr.m rfl rfl rfl ?_
  refine Tr.skp rfl rfl ?_
  refine Tr.skp rfl rfl ?_
  refine Tr.skp rfl rfl ?_
  refine Tr.pick rfl rfl rfl rfl rfl rfl ?_
  refine Tr.m rfl rfl rfl ?_
  refine Tr.skp rfl rfl ?_
  refine Tr.skp rfl rfl ?_
  refine Tr.skp rfl rfl ?_
  refine Tr.skp rfl rfl ?_
  refine Tr.skp rfl rfl ?_
  refine Tr.pick rfl rfl rfl rfl rfl rfl ?_
  refine Tr.nil (Aa ?_)
  refine Sat.cond_t rfl rfl ?_
  refine Sat.seq (Sat.region ?_)
  refine Tr.a rfl rfl rfl ?_
  refine Tr.nil (Aa (Sat.ret (Ap (Ai ?_))))
  refine ⟨_, [], Ae rfl rfl, sP, sP, ?_, rfl⟩
  first
   | exact congrArg i64 (Bz (by
     simp only [DMsg.bad, ← eK, ← eH, ← hu, ← hl.heads, ← hl.want, ← hl.blocks, ← hl.votes, ← hl.cuts, ← hl.certs]
     first
      | exact .inl (‹_›)
      | exact .inr (.inl (‹_›))
      | exact .inr (.inr (.inl (‹_›)))
      | exact .inr (.inr (.inr (.inl (‹_›))))
      | exact .inr (.inr (.inr (.inr (.inl (‹_›)))))
      | exact .inr (.inr (.inr (.inr (.inr (.inl (‹_›))))))
      | exact .inr (.inr (.inr (.inr (.inr (.inr (.inl (‹_›)))))))
      | exact .inr (.inr (.inr (.inr (.inr (.inr (.inr (.inl (‹_›))))))))
      | exact .inr (.inr (.inr (.inr (.inr (.inr (.inr (.inr (.inl (‹_›)))))))))
      | exact .inr (.inr (.inr (.inr (.inr (.inr (.inr (.inr (.inr (.inl (⟨‹_›, ‹_›, ‹_›⟩))))))))))
      | exact .inr (.inr (.inr (.inr (.inr (.inr (.inr (.inr (.inr (.inl (⟨by omega, by omega, by omega⟩))))))))))
      | exact .inr (.inr (.inr (.inr (.inr (.inr (.inr (.inr (.inr (.inr (.inl (‹_›)))))))))))
      | exact .inr (.inr (.inr (.inr (.inr (.inr (.inr (.inr (.inr (.inr (.inr (.inl (‹_›))))))))))))
      | exact .inr (.inr (.inr (.inr (.inr (.inr (.inr (.inr (.inr (.inr (.inr (.inr (.inl (‹_›)))))))))))))
      | exact .inr (.inr (.inr (.inr (.inr (.inr (.inr (.inr (.inr (.inr (.inr (.inr (.inr (‹_›)))))))))))))
      | exact .inr (.inr (.inr (.inr (.inr (.inr (.inr (.inr (.inr (.inr (.inl (fun e => Bool.noConfusion (hs8_2.symm.trans e))))))))))))
      | exact .inr (.inr (.inr (.inr (.inr (.inr (.inr (.inr (.inr (.inr (.inr (.inl (fun e => Bool.noConfusion (hs8_7.symm.trans e)))))))))))))
      | exact .inr (.inr (.inr (.inr (.inr (.inr (.inr (.inr (.inr (.inr (.inr (.inr (.inl (fun e => Bool.noConfusion (hs8_13.symm.trans e)))))))))))))))).symm
   | exact congrArg i64 (Bo (by
     simp only [DMsg.bad, ← eK, ← eH, ← hu, ← hl.heads, ← hl.want, ← hl.blocks, ← hl.votes, ← hl.cuts, ← hl.certs]
     rintro (h | h | h | h | h | h | h | h | h | h | h | h | h | h)
     all_goals first | exact h ‹_› | omega | (simp_all; done))).symm
 ·
  first | have hs2_1 := of_decide_eq_true hs2_10 | have hs2_1 := of_decide_eq_false hs2_10 | have hs2_1 := A0 hs2_10 | have hs2_1 := A1 hs2_10 | have hs2_1 := hs2_10
  refine Tr.m rfl rfl rfl ?_
  refine Tr.fld rfl rfl rfl Y57 rfl B6 dE _ rfl ?_
  refine Tr.load1 rfl rfl rfl Y48 rfl mM (by first | exact Msg.get_fHeight (by first | exact oK  | exact hok) | exact vL) ?_
  refine two (fun r hr k => Tr.gtr rfl rfl rfl rfl hr k) (fun hs2_50 => ?_) (fun hs2_50 => ?_)
  ·
   first | have hs2_5 := of_decide_eq_true hs2_50 | have hs2_5 := of_decide_eq_false hs2_50 | have hs2_5 := A0 hs2_50 | have hs2_5 := A1 hs2_50 | have hs2_5 := hs2_50
   refine Tr.pick rfl rfl rfl rfl rfl rfl ?_
   refine Tr.m rfl rfl rfl ?_
   refine Tr.skp rfl rfl ?_
   refine Tr.skp rfl rfl ?_
   refine Tr.skp rfl rfl ?_
   refine Tr.skp rfl rfl ?_
   refine Tr.skp rfl rfl ?_
   refine Tr.pick rfl rfl rfl rfl rfl rfl ?_
   refine Tr.nil (Aa ?_)
   refine Sat.cond_t rfl rfl ?_
   refine Sat.seq (Sat.region ?_)
   refine Tr.a rfl rfl rfl ?_
   refine Tr.nil (Aa (Sat.ret (Ap (Ai ?_))))
   refine ⟨_, [], Ae rfl rfl, sP, sP, ?_, rfl⟩
   first
    | exact congrArg i64 (Bz (by
      simp only [DMsg.bad, ← eK, ← eH, ← hu, ← hl.heads, ← hl.want, ← hl.blocks, ← hl.votes, ← hl.cuts, ← hl.certs]
      first
       | exact .inl (‹_›)
       | exact .inr (.inl (‹_›))
       | exact .inr (.inr (.inl (‹_›)))
       | exact .inr (.inr (.inr (.inl (‹_›))))
       | exact .inr (.inr (.inr (.inr (.inl (‹_›)))))
       | exact .inr (.inr (.inr (.inr (.inr (.inl (‹_›))))))
       | exact .inr (.inr (.inr (.inr (.inr (.inr (.inl (‹_›)))))))
       | exact .inr (.inr (.inr (.inr (.inr (.inr (.inr (.inl (‹_›))))))))
       | exact .inr (.inr (.inr (.inr (.inr (.inr (.inr (.inr (.inl (‹_›)))))))))
       | exact .inr (.inr (.inr (.inr (.inr (.inr (.inr (.inr (.inr (.inl (⟨‹_›, ‹_›, ‹_›⟩))))))))))
       | exact .inr (.inr (.inr (.inr (.inr (.inr (.inr (.inr (.inr (.inl (⟨by omega, by omega, by omega⟩))))))))))
       | exact .inr (.inr (.inr (.inr (.inr (.inr (.inr (.inr (.inr (.inr (.inl (‹_›)))))))))))
       | exact .inr (.inr (.inr (.inr (.inr (.inr (.inr (.inr (.inr (.inr (.inr (.inl (‹_›))))))))))))
       | exact .inr (.inr (.inr (.inr (.inr (.inr (.inr (.inr (.inr (.inr (.inr (.inr (.inl (‹_›)))))))))))))
       | exact .inr (.inr (.inr (.inr (.inr (.inr (.inr (.inr (.inr (.inr (.inr (.inr (.inr (‹_›)))))))))))))
       | exact .inr (.inr (.inr (.inr (.inr (.inr (.inr (.inr (.inr (.inr (.inl (fun e => Bool.noConfusion (hs8_2.symm.trans e))))))))))))
       | exact .inr (.inr (.inr (.inr (.inr (.inr (.inr (.inr (.inr (.inr (.inr (.inl (fun e => Bool.noConfusion (hs8_7.symm.trans e)))))))))))))
       | exact .inr (.inr (.inr (.inr (.inr (.inr (.inr (.inr (.inr (.inr (.inr (.inr (.inl (fun e => Bool.noConfusion (hs8_13.symm.trans e)))))))))))))))).symm
    | exact congrArg i64 (Bo (by
      simp only [DMsg.bad, ← eK, ← eH, ← hu, ← hl.heads, ← hl.want, ← hl.blocks, ← hl.votes, ← hl.cuts, ← hl.certs]
      rintro (h | h | h | h | h | h | h | h | h | h | h | h | h | h)
      all_goals first | exact h ‹_› | omega | (simp_all; done))).symm
  ·
   first | have hs2_5 := of_decide_eq_true hs2_50 | have hs2_5 := of_decide_eq_false hs2_50 | have hs2_5 := A0 hs2_50 | have hs2_5 := A1 hs2_50 | have hs2_5 := hs2_50
   refine Tr.pick rfl rfl rfl rfl rfl rfl ?_
   refine Tr.m rfl rfl rfl ?_
   refine Tr.lA rfl rfl rfl Y57 rfl Sz57 mM (Msg.length (by first | exact oK  | exact hok)) ?_
   refine Tr.cV rfl rfl rfl rfl Body125 (sync_used m hok) tV ?_
   refine Tr.m rfl rfl rfl ?_
   refine Tr.andNot_i64 rfl rfl rfl rfl ?_
   refine Tr.nei rfl rfl rfl rfl rfl ?_
   refine Tr.pick rfl rfl rfl rfl rfl rfl ?_
   refine Tr.nil (Aa ?_)
   first
    | refine Sat.condP rfl (fun hc0 => ?_) (fun hc0 => ?_)
    | refine Sat.condNP rfl (fun hc0 => ?_) (fun hc0 => ?_)
    | refine Sat.cond rfl (fun hc0 => ?_) (fun hc0 => ?_)
   ·
    refine Sat.seq (Sat.region ?_)
    refine Tr.a rfl rfl rfl ?_
    refine Tr.nil (Aa (Sat.ret (Ap (Ai ?_))))
    refine ⟨_, [], Ae rfl rfl, sP, sP, ?_, rfl⟩
    first
     | exact congrArg i64 (Bz (by
       simp only [DMsg.bad, ← eK, ← eH, ← hu, ← hl.heads, ← hl.want, ← hl.blocks, ← hl.votes, ← hl.cuts, ← hl.certs]
       first
        | exact .inl (‹_›)
        | exact .inr (.inl (‹_›))
        | exact .inr (.inr (.inl (‹_›)))
        | exact .inr (.inr (.inr (.inl (‹_›))))
        | exact .inr (.inr (.inr (.inr (.inl (‹_›)))))
        | exact .inr (.inr (.inr (.inr (.inr (.inl (‹_›))))))
        | exact .inr (.inr (.inr (.inr (.inr (.inr (.inl (‹_›)))))))
        | exact .inr (.inr (.inr (.inr (.inr (.inr (.inr (.inl (‹_›))))))))
        | exact .inr (.inr (.inr (.inr (.inr (.inr (.inr (.inr (.inl (‹_›)))))))))
        | exact .inr (.inr (.inr (.inr (.inr (.inr (.inr (.inr (.inr (.inl (⟨‹_›, ‹_›, ‹_›⟩))))))))))
        | exact .inr (.inr (.inr (.inr (.inr (.inr (.inr (.inr (.inr (.inl (⟨by omega, by omega, by omega⟩))))))))))
        | exact .inr (.inr (.inr (.inr (.inr (.inr (.inr (.inr (.inr (.inr (.inl (‹_›)))))))))))
        | exact .inr (.inr (.inr (.inr (.inr (.inr (.inr (.inr (.inr (.inr (.inr (.inl (‹_›))))))))))))
        | exact .inr (.inr (.inr (.inr (.inr (.inr (.inr (.inr (.inr (.inr (.inr (.inr (.inl (‹_›)))))))))))))
        | exact .inr (.inr (.inr (.inr (.inr (.inr (.inr (.inr (.inr (.inr (.inr (.inr (.inr (‹_›)))))))))))))
        | exact .inr (.inr (.inr (.inr (.inr (.inr (.inr (.inr (.inr (.inr (.inl (fun e => Bool.noConfusion (hs8_2.symm.trans e))))))))))))
        | exact .inr (.inr (.inr (.inr (.inr (.inr (.inr (.inr (.inr (.inr (.inr (.inl (fun e => Bool.noConfusion (hs8_7.symm.trans e)))))))))))))
        | exact .inr (.inr (.inr (.inr (.inr (.inr (.inr (.inr (.inr (.inr (.inr (.inr (.inl (fun e => Bool.noConfusion (hs8_13.symm.trans e)))))))))))))))).symm
     | exact congrArg i64 (Bo (by
       simp only [DMsg.bad, ← eK, ← eH, ← hu, ← hl.heads, ← hl.want, ← hl.blocks, ← hl.votes, ← hl.cuts, ← hl.certs]
       rintro (h | h | h | h | h | h | h | h | h | h | h | h | h | h)
       all_goals first | exact h ‹_› | omega | (simp_all; done))).symm
   ·
    refine Sat.skip (Aa (Sat.seq (Sat.seq (Sat.region ?_))))
    refine Tr.fld rfl rfl rfl Y57 rfl Sz51 dE _ rfl ?_
    refine Tr.load1 rfl rfl rfl Y51 rfl mM (by first | exact Msg.get_fHeads (by first | exact oK  | exact hok) | exact vL) ?_
    refine Tr.lenSl rfl rfl rfl Y51 ?_
    refine two (fun r hr k => Tr.gtr rfl rfl rfl rfl hr k) (fun hs4_30 => ?_) (fun hs4_30 => ?_)
    ·
     first | have hs4_3 := of_decide_eq_true hs4_30 | have hs4_3 := of_decide_eq_false hs4_30 | have hs4_3 := A0 hs4_30 | have hs4_3 := A1 hs4_30 | have hs4_3 := hs4_30
     refine Tr.m rfl rfl rfl ?_
     refine Tr.skp rfl rfl ?_
     refine Tr.skp rfl rfl ?_
     refine Tr.skp rfl rfl ?_
     refine Tr.skp rfl rfl ?_
     refine Tr.pick rfl rfl rfl rfl rfl rfl ?_
     refine Tr.m rfl rfl rfl ?_
     refine Tr.skp rfl rfl ?_
     refine Tr.skp rfl rfl ?_
     refine Tr.skp rfl rfl ?_
     refine Tr.skp rfl rfl ?_
     refine Tr.pick rfl rfl rfl rfl rfl rfl ?_
     refine Tr.m rfl rfl rfl ?_
     refine Tr.skp rfl rfl ?_
     refine Tr.skp rfl rfl ?_
     refine Tr.skp rfl rfl ?_
     refine Tr.skp rfl rfl ?_
     refine Tr.pick rfl rfl rfl rfl rfl rfl ?_
     refine Tr.m rfl rfl rfl ?_
     refine Tr.skp rfl rfl ?_
     refine Tr.skp rfl rfl ?_
     refine Tr.skp rfl rfl ?_
     refine Tr.skp rfl rfl ?_
     refine Tr.pick rfl rfl rfl rfl rfl rfl ?_
     refine Tr.m rfl rfl rfl ?_
     refine Tr.skp rfl rfl ?_
     refine Tr.skp rfl rfl ?_
     refine Tr.skp rfl rfl ?_
     refine Tr.skp rfl rfl ?_
     refine Tr.pick rfl rfl rfl rfl rfl rfl ?_
     refine Tr.nil (Aa ?_)
     refine Sat.cond_t rfl rfl ?_
     refine Sat.seq (Sat.region ?_)
     refine Tr.a rfl rfl rfl ?_
     refine Tr.nil (Aa (Sat.ret (Ap (Ai ?_))))
     refine ⟨_, [], Ae rfl rfl, sP, sP, ?_, rfl⟩
     first
      | exact congrArg i64 (Bz (by
        simp only [DMsg.bad, ← eK, ← eH, ← hu, ← hl.heads, ← hl.want, ← hl.blocks, ← hl.votes, ← hl.cuts, ← hl.certs]
        first
         | exact .inl (‹_›)
         | exact .inr (.inl (‹_›))
         | exact .inr (.inr (.inl (‹_›)))
         | exact .inr (.inr (.inr (.inl (‹_›))))
         | exact .inr (.inr (.inr (.inr (.inl (‹_›)))))
         | exact .inr (.inr (.inr (.inr (.inr (.inl (‹_›))))))
         | exact .inr (.inr (.inr (.inr (.inr (.inr (.inl (‹_›)))))))
         | exact .inr (.inr (.inr (.inr (.inr (.inr (.inr (.inl (‹_›))))))))
         | exact .inr (.inr (.inr (.inr (.inr (.inr (.inr (.inr (.inl (‹_›)))))))))
         | exact .inr (.inr (.inr (.inr (.inr (.inr (.inr (.inr (.inr (.inl (⟨‹_›, ‹_›, ‹_›⟩))))))))))
         | exact .inr (.inr (.inr (.inr (.inr (.inr (.inr (.inr (.inr (.inl (⟨by omega, by omega, by omega⟩))))))))))
         | exact .inr (.inr (.inr (.inr (.inr (.inr (.inr (.inr (.inr (.inr (.inl (‹_›)))))))))))
         | exact .inr (.inr (.inr (.inr (.inr (.inr (.inr (.inr (.inr (.inr (.inr (.inl (‹_›))))))))))))
         | exact .inr (.inr (.inr (.inr (.inr (.inr (.inr (.inr (.inr (.inr (.inr (.inr (.inl (‹_›)))))))))))))
         | exact .inr (.inr (.inr (.inr (.inr (.inr (.inr (.inr (.inr (.inr (.inr (.inr (.inr (‹_›)))))))))))))
         | exact .inr (.inr (.inr (.inr (.inr (.inr (.inr (.inr (.inr (.inr (.inl (fun e => Bool.noConfusion (hs8_2.symm.trans e))))))))))))
         | exact .inr (.inr (.inr (.inr (.inr (.inr (.inr (.inr (.inr (.inr (.inr (.inl (fun e => Bool.noConfusion (hs8_7.symm.trans e)))))))))))))
         | exact .inr (.inr (.inr (.inr (.inr (.inr (.inr (.inr (.inr (.inr (.inr (.inr (.inl (fun e => Bool.noConfusion (hs8_13.symm.trans e)))))))))))))))).symm
      | exact congrArg i64 (Bo (by
        simp only [DMsg.bad, ← eK, ← eH, ← hu, ← hl.heads, ← hl.want, ← hl.blocks, ← hl.votes, ← hl.cuts, ← hl.certs]
        rintro (h | h | h | h | h | h | h | h | h | h | h | h | h | h)
        all_goals first | exact h ‹_› | omega | (simp_all; done))).symm
    ·
     first | have hs4_3 := of_decide_eq_true hs4_30 | have hs4_3 := of_decide_eq_false hs4_30 | have hs4_3 := A0 hs4_30 | have hs4_3 := A1 hs4_30 | have hs4_3 := hs4_30
     refine Tr.m rfl rfl rfl ?_
     refine Tr.fld rfl rfl rfl Y57 rfl Sz51 dE _ rfl ?_
     refine Tr.load1 rfl rfl rfl Y51 rfl mM (by first | exact Msg.get_fWant (by first | exact oK  | exact hok) | exact vL) ?_
     refine Tr.lenSl rfl rfl rfl Y51 ?_
     refine two (fun r hr k => Tr.gtr rfl rfl rfl rfl hr k) (fun hs4_80 => ?_) (fun hs4_80 => ?_)
     ·
      first | have hs4_8 := of_decide_eq_true hs4_80 | have hs4_8 := of_decide_eq_false hs4_80 | have hs4_8 := A0 hs4_80 | have hs4_8 := A1 hs4_80 | have hs4_8 := hs4_80
      refine Tr.pick rfl rfl rfl rfl rfl rfl ?_
      refine Tr.m rfl rfl rfl ?_
      refine Tr.skp rfl rfl ?_
      refine Tr.skp rfl rfl ?_
      refine Tr.skp rfl rfl ?_
      refine Tr.skp rfl rfl ?_
      refine Tr.pick rfl rfl rfl rfl rfl rfl ?_
      refine Tr.m rfl rfl rfl ?_
      refine Tr.skp rfl rfl ?_
      refine Tr.skp rfl rfl ?_
      refine Tr.skp rfl rfl ?_
      refine Tr.skp rfl rfl ?_
      refine Tr.pick rfl rfl rfl rfl rfl rfl ?_
      refine Tr.m rfl rfl rfl ?_
      refine Tr.skp rfl rfl ?_
      refine Tr.skp rfl rfl ?_
      refine Tr.skp rfl rfl ?_
      refine Tr.skp rfl rfl ?_
      refine Tr.pick rfl rfl rfl rfl rfl rfl ?_
      refine Tr.m rfl rfl rfl ?_
      refine Tr.skp rfl rfl ?_
      refine Tr.skp rfl rfl ?_
      refine Tr.skp rfl rfl ?_
      refine Tr.skp rfl rfl ?_
      refine Tr.pick rfl rfl rfl rfl rfl rfl ?_
      refine Tr.nil (Aa ?_)
      refine Sat.cond_t rfl rfl ?_
      refine Sat.seq (Sat.region ?_)
      refine Tr.a rfl rfl rfl ?_
      refine Tr.nil (Aa (Sat.ret (Ap (Ai ?_))))
      refine ⟨_, [], Ae rfl rfl, sP, sP, ?_, rfl⟩
      first
       | exact congrArg i64 (Bz (by
         simp only [DMsg.bad, ← eK, ← eH, ← hu, ← hl.heads, ← hl.want, ← hl.blocks, ← hl.votes, ← hl.cuts, ← hl.certs]
         first
          | exact .inl (‹_›)
          | exact .inr (.inl (‹_›))
          | exact .inr (.inr (.inl (‹_›)))
          | exact .inr (.inr (.inr (.inl (‹_›))))
          | exact .inr (.inr (.inr (.inr (.inl (‹_›)))))
          | exact .inr (.inr (.inr (.inr (.inr (.inl (‹_›))))))
          | exact .inr (.inr (.inr (.inr (.inr (.inr (.inl (‹_›)))))))
          | exact .inr (.inr (.inr (.inr (.inr (.inr (.inr (.inl (‹_›))))))))
          | exact .inr (.inr (.inr (.inr (.inr (.inr (.inr (.inr (.inl (‹_›)))))))))
          | exact .inr (.inr (.inr (.inr (.inr (.inr (.inr (.inr (.inr (.inl (⟨‹_›, ‹_›, ‹_›⟩))))))))))
          | exact .inr (.inr (.inr (.inr (.inr (.inr (.inr (.inr (.inr (.inl (⟨by omega, by omega, by omega⟩))))))))))
          | exact .inr (.inr (.inr (.inr (.inr (.inr (.inr (.inr (.inr (.inr (.inl (‹_›)))))))))))
          | exact .inr (.inr (.inr (.inr (.inr (.inr (.inr (.inr (.inr (.inr (.inr (.inl (‹_›))))))))))))
          | exact .inr (.inr (.inr (.inr (.inr (.inr (.inr (.inr (.inr (.inr (.inr (.inr (.inl (‹_›)))))))))))))
          | exact .inr (.inr (.inr (.inr (.inr (.inr (.inr (.inr (.inr (.inr (.inr (.inr (.inr (‹_›)))))))))))))
          | exact .inr (.inr (.inr (.inr (.inr (.inr (.inr (.inr (.inr (.inr (.inl (fun e => Bool.noConfusion (hs8_2.symm.trans e))))))))))))
          | exact .inr (.inr (.inr (.inr (.inr (.inr (.inr (.inr (.inr (.inr (.inr (.inl (fun e => Bool.noConfusion (hs8_7.symm.trans e)))))))))))))
          | exact .inr (.inr (.inr (.inr (.inr (.inr (.inr (.inr (.inr (.inr (.inr (.inr (.inl (fun e => Bool.noConfusion (hs8_13.symm.trans e)))))))))))))))).symm
       | exact congrArg i64 (Bo (by
         simp only [DMsg.bad, ← eK, ← eH, ← hu, ← hl.heads, ← hl.want, ← hl.blocks, ← hl.votes, ← hl.cuts, ← hl.certs]
         rintro (h | h | h | h | h | h | h | h | h | h | h | h | h | h)
         all_goals first | exact h ‹_› | omega | (simp_all; done))).symm
     ·
      first | have hs4_8 := of_decide_eq_true hs4_80 | have hs4_8 := of_decide_eq_false hs4_80 | have hs4_8 := A0 hs4_80 | have hs4_8 := A1 hs4_80 | have hs4_8 := hs4_80
      refine Tr.pick rfl rfl rfl rfl rfl rfl ?_
      refine Tr.m rfl rfl rfl ?_
      refine Tr.fld rfl rfl rfl Y57 rfl Sz22 dE _ rfl ?_
      refine Tr.load1 rfl rfl rfl Y22 rfl mM (by first | exact Msg.get_fBlocks (by first | exact oK  | exact hok) | exact vL) ?_
      refine Tr.lenSl rfl rfl rfl Y22 ?_
      refine two (fun r hr k => Tr.gtr rfl rfl rfl rfl hr k) (fun hs4_140 => ?_) (fun hs4_140 => ?_)
      ·
       first | have hs4_14 := of_decide_eq_true hs4_140 | have hs4_14 := of_decide_eq_false hs4_140 | have hs4_14 := A0 hs4_140 | have hs4_14 := A1 hs4_140 | have hs4_14 := hs4_140
       refine Tr.pick rfl rfl rfl rfl rfl rfl ?_
       refine Tr.m rfl rfl rfl ?_
       refine Tr.skp rfl rfl ?_
       refine Tr.skp rfl rfl ?_
       refine Tr.skp rfl rfl ?_
       refine Tr.skp rfl rfl ?_
       refine Tr.pick rfl rfl rfl rfl rfl rfl ?_
       refine Tr.m rfl rfl rfl ?_
       refine Tr.skp rfl rfl ?_
       refine Tr.skp rfl rfl ?_
       refine Tr.skp rfl rfl ?_
       refine Tr.skp rfl rfl ?_
       refine Tr.pick rfl rfl rfl rfl rfl rfl ?_
       refine Tr.m rfl rfl rfl ?_
       refine Tr.skp rfl rfl ?_
       refine Tr.skp rfl rfl ?_
       refine Tr.skp rfl rfl ?_
       refine Tr.skp rfl rfl ?_
       refine Tr.pick rfl rfl rfl rfl rfl rfl ?_
       refine Tr.nil (Aa ?_)
       refine Sat.cond_t rfl rfl ?_
       refine Sat.seq (Sat.region ?_)
       refine Tr.a rfl rfl rfl ?_
       refine Tr.nil (Aa (Sat.ret (Ap (Ai ?_))))
       refine ⟨_, [], Ae rfl rfl, sP, sP, ?_, rfl⟩
       first
        | exact congrArg i64 (Bz (by
          simp only [DMsg.bad, ← eK, ← eH, ← hu, ← hl.heads, ← hl.want, ← hl.blocks, ← hl.votes, ← hl.cuts, ← hl.certs]
          first
           | exact .inl (‹_›)
           | exact .inr (.inl (‹_›))
           | exact .inr (.inr (.inl (‹_›)))
           | exact .inr (.inr (.inr (.inl (‹_›))))
           | exact .inr (.inr (.inr (.inr (.inl (‹_›)))))
           | exact .inr (.inr (.inr (.inr (.inr (.inl (‹_›))))))
           | exact .inr (.inr (.inr (.inr (.inr (.inr (.inl (‹_›)))))))
           | exact .inr (.inr (.inr (.inr (.inr (.inr (.inr (.inl (‹_›))))))))
           | exact .inr (.inr (.inr (.inr (.inr (.inr (.inr (.inr (.inl (‹_›)))))))))
           | exact .inr (.inr (.inr (.inr (.inr (.inr (.inr (.inr (.inr (.inl (⟨‹_›, ‹_›, ‹_›⟩))))))))))
           | exact .inr (.inr (.inr (.inr (.inr (.inr (.inr (.inr (.inr (.inl (⟨by omega, by omega, by omega⟩))))))))))
           | exact .inr (.inr (.inr (.inr (.inr (.inr (.inr (.inr (.inr (.inr (.inl (‹_›)))))))))))
           | exact .inr (.inr (.inr (.inr (.inr (.inr (.inr (.inr (.inr (.inr (.inr (.inl (‹_›))))))))))))
           | exact .inr (.inr (.inr (.inr (.inr (.inr (.inr (.inr (.inr (.inr (.inr (.inr (.inl (‹_›)))))))))))))
           | exact .inr (.inr (.inr (.inr (.inr (.inr (.inr (.inr (.inr (.inr (.inr (.inr (.inr (‹_›)))))))))))))
           | exact .inr (.inr (.inr (.inr (.inr (.inr (.inr (.inr (.inr (.inr (.inl (fun e => Bool.noConfusion (hs8_2.symm.trans e))))))))))))
           | exact .inr (.inr (.inr (.inr (.inr (.inr (.inr (.inr (.inr (.inr (.inr (.inl (fun e => Bool.noConfusion (hs8_7.symm.trans e)))))))))))))
           | exact .inr (.inr (.inr (.inr (.inr (.inr (.inr (.inr (.inr (.inr (.inr (.inr (.inl (fun e => Bool.noConfusion (hs8_13.symm.trans e)))))))))))))))).symm
        | exact congrArg i64 (Bo (by
          simp only [DMsg.bad, ← eK, ← eH, ← hu, ← hl.heads, ← hl.want, ← hl.blocks, ← hl.votes, ← hl.cuts, ← hl.certs]
          rintro (h | h | h | h | h | h | h | h | h | h | h | h | h | h)
          all_goals first | exact h ‹_› | omega | (simp_all; done))).symm
      ·
       first | have hs4_14 := of_decide_eq_true hs4_140 | have hs4_14 := of_decide_eq_false hs4_140 | have hs4_14 := A0 hs4_140 | have hs4_14 := A1 hs4_140 | have hs4_14 := hs4_140
       refine Tr.pick rfl rfl rfl rfl rfl rfl ?_
       refine Tr.m rfl rfl rfl ?_
       refine Tr.fld rfl rfl rfl Y57 rfl Sz24 dE _ rfl ?_
       refine Tr.load1 rfl rfl rfl Y24 rfl mM (by first | exact Msg.get_fVotes (by first | exact oK  | exact hok) | exact vL) ?_
       refine Tr.lenSl rfl rfl rfl Y24 ?_
       refine two (fun r hr k => Tr.gtr rfl rfl rfl rfl hr k) (fun hs4_200 => ?_) (fun hs4_200 => ?_)
       ·
        first | have hs4_20 := of_decide_eq_true hs4_200 | have hs4_20 := of_decide_eq_false hs4_200 | have hs4_20 := A0 hs4_200 | have hs4_20 := A1 hs4_200 | have hs4_20 := hs4_200
        refine Tr.pick rfl rfl rfl rfl rfl rfl ?_
        refine Tr.m rfl rfl rfl ?_
        refine Tr.skp rfl rfl ?_
        refine Tr.skp rfl rfl ?_
        refine Tr.skp rfl rfl ?_
        refine Tr.skp rfl rfl ?_
        refine Tr.pick rfl rfl rfl rfl rfl rfl ?_
        refine Tr.m rfl rfl rfl ?_
        refine Tr.skp rfl rfl ?_
        refine Tr.skp rfl rfl ?_
        refine Tr.skp rfl rfl ?_
        refine Tr.skp rfl rfl ?_
        refine Tr.pick rfl rfl rfl rfl rfl rfl ?_
        refine Tr.nil (Aa ?_)
        refine Sat.cond_t rfl rfl ?_
        refine Sat.seq (Sat.region ?_)
        refine Tr.a rfl rfl rfl ?_
        refine Tr.nil (Aa (Sat.ret (Ap (Ai ?_))))
        refine ⟨_, [], Ae rfl rfl, sP, sP, ?_, rfl⟩
        first
         | exact congrArg i64 (Bz (by
           simp only [DMsg.bad, ← eK, ← eH, ← hu, ← hl.heads, ← hl.want, ← hl.blocks, ← hl.votes, ← hl.cuts, ← hl.certs]
           first
            | exact .inl (‹_›)
            | exact .inr (.inl (‹_›))
            | exact .inr (.inr (.inl (‹_›)))
            | exact .inr (.inr (.inr (.inl (‹_›))))
            | exact .inr (.inr (.inr (.inr (.inl (‹_›)))))
            | exact .inr (.inr (.inr (.inr (.inr (.inl (‹_›))))))
            | exact .inr (.inr (.inr (.inr (.inr (.inr (.inl (‹_›)))))))
            | exact .inr (.inr (.inr (.inr (.inr (.inr (.inr (.inl (‹_›))))))))
            | exact .inr (.inr (.inr (.inr (.inr (.inr (.inr (.inr (.inl (‹_›)))))))))
            | exact .inr (.inr (.inr (.inr (.inr (.inr (.inr (.inr (.inr (.inl (⟨‹_›, ‹_›, ‹_›⟩))))))))))
            | exact .inr (.inr (.inr (.inr (.inr (.inr (.inr (.inr (.inr (.inl (⟨by omega, by omega, by omega⟩))))))))))
            | exact .inr (.inr (.inr (.inr (.inr (.inr (.inr (.inr (.inr (.inr (.inl (‹_›)))))))))))
            | exact .inr (.inr (.inr (.inr (.inr (.inr (.inr (.inr (.inr (.inr (.inr (.inl (‹_›))))))))))))
            | exact .inr (.inr (.inr (.inr (.inr (.inr (.inr (.inr (.inr (.inr (.inr (.inr (.inl (‹_›)))))))))))))
            | exact .inr (.inr (.inr (.inr (.inr (.inr (.inr (.inr (.inr (.inr (.inr (.inr (.inr (‹_›)))))))))))))
            | exact .inr (.inr (.inr (.inr (.inr (.inr (.inr (.inr (.inr (.inr (.inl (fun e => Bool.noConfusion (hs8_2.symm.trans e))))))))))))
            | exact .inr (.inr (.inr (.inr (.inr (.inr (.inr (.inr (.inr (.inr (.inr (.inl (fun e => Bool.noConfusion (hs8_7.symm.trans e)))))))))))))
            | exact .inr (.inr (.inr (.inr (.inr (.inr (.inr (.inr (.inr (.inr (.inr (.inr (.inl (fun e => Bool.noConfusion (hs8_13.symm.trans e)))))))))))))))).symm
         | exact congrArg i64 (Bo (by
           simp only [DMsg.bad, ← eK, ← eH, ← hu, ← hl.heads, ← hl.want, ← hl.blocks, ← hl.votes, ← hl.cuts, ← hl.certs]
           rintro (h | h | h | h | h | h | h | h | h | h | h | h | h | h)
           all_goals first | exact h ‹_› | omega | (simp_all; done))).symm
       ·
        first | have hs4_20 := of_decide_eq_true hs4_200 | have hs4_20 := of_decide_eq_false hs4_200 | have hs4_20 := A0 hs4_200 | have hs4_20 := A1 hs4_200 | have hs4_20 := hs4_200
        refine Tr.pick rfl rfl rfl rfl rfl rfl ?_
        refine Tr.m rfl rfl rfl ?_
        refine Tr.fld rfl rfl rfl Y57 rfl Sz25 dE _ rfl ?_
        refine Tr.load1 rfl rfl rfl Y25 rfl mM (by first | exact Msg.get_fCuts (by first | exact oK  | exact hok) | exact vL) ?_
        refine Tr.lenSl rfl rfl rfl Y25 ?_
        refine two (fun r hr k => Tr.gtr rfl rfl rfl rfl hr k) (fun hs4_260 => ?_) (fun hs4_260 => ?_)
        ·
         first | have hs4_26 := of_decide_eq_true hs4_260 | have hs4_26 := of_decide_eq_false hs4_260 | have hs4_26 := A0 hs4_260 | have hs4_26 := A1 hs4_260 | have hs4_26 := hs4_260
         refine Tr.pick rfl rfl rfl rfl rfl rfl ?_
         refine Tr.m rfl rfl rfl ?_
         refine Tr.skp rfl rfl ?_
         refine Tr.skp rfl rfl ?_
         refine Tr.skp rfl rfl ?_
         refine Tr.skp rfl rfl ?_
         refine Tr.pick rfl rfl rfl rfl rfl rfl ?_
         refine Tr.nil (Aa ?_)
         refine Sat.cond_t rfl rfl ?_
         refine Sat.seq (Sat.region ?_)
         refine Tr.a rfl rfl rfl ?_
         refine Tr.nil (Aa (Sat.ret (Ap (Ai ?_))))
         refine ⟨_, [], Ae rfl rfl, sP, sP, ?_, rfl⟩
         first
          | exact congrArg i64 (Bz (by
            simp only [DMsg.bad, ← eK, ← eH, ← hu, ← hl.heads, ← hl.want, ← hl.blocks, ← hl.votes, ← hl.cuts, ← hl.certs]
            first
             | exact .inl (‹_›)
             | exact .inr (.inl (‹_›))
             | exact .inr (.inr (.inl (‹_›)))
             | exact .inr (.inr (.inr (.inl (‹_›))))
             | exact .inr (.inr (.inr (.inr (.inl (‹_›)))))
             | exact .inr (.inr (.inr (.inr (.inr (.inl (‹_›))))))
             | exact .inr (.inr (.inr (.inr (.inr (.inr (.inl (‹_›)))))))
             | exact .inr (.inr (.inr (.inr (.inr (.inr (.inr (.inl (‹_›))))))))
             | exact .inr (.inr (.inr (.inr (.inr (.inr (.inr (.inr (.inl (‹_›)))))))))
             | exact .inr (.inr (.inr (.inr (.inr (.inr (.inr (.inr (.inr (.inl (⟨‹_›, ‹_›, ‹_›⟩))))))))))
             | exact .inr (.inr (.inr (.inr (.inr (.inr (.inr (.inr (.inr (.inl (⟨by omega, by omega, by omega⟩))))))))))
             | exact .inr (.inr (.inr (.inr (.inr (.inr (.inr (.inr (.inr (.inr (.inl (‹_›)))))))))))
             | exact .inr (.inr (.inr (.inr (.inr (.inr (.inr (.inr (.inr (.inr (.inr (.inl (‹_›))))))))))))
             | exact .inr (.inr (.inr (.inr (.inr (.inr (.inr (.inr (.inr (.inr (.inr (.inr (.inl (‹_›)))))))))))))
             | exact .inr (.inr (.inr (.inr (.inr (.inr (.inr (.inr (.inr (.inr (.inr (.inr (.inr (‹_›)))))))))))))
             | exact .inr (.inr (.inr (.inr (.inr (.inr (.inr (.inr (.inr (.inr (.inl (fun e => Bool.noConfusion (hs8_2.symm.trans e))))))))))))
             | exact .inr (.inr (.inr (.inr (.inr (.inr (.inr (.inr (.inr (.inr (.inr (.inl (fun e => Bool.noConfusion (hs8_7.symm.trans e)))))))))))))
             | exact .inr (.inr (.inr (.inr (.inr (.inr (.inr (.inr (.inr (.inr (.inr (.inr (.inl (fun e => Bool.noConfusion (hs8_13.symm.trans e)))))))))))))))).symm
          | exact congrArg i64 (Bo (by
            simp only [DMsg.bad, ← eK, ← eH, ← hu, ← hl.heads, ← hl.want, ← hl.blocks, ← hl.votes, ← hl.cuts, ← hl.certs]
            rintro (h | h | h | h | h | h | h | h | h | h | h | h | h | h)
            all_goals first | exact h ‹_› | omega | (simp_all; done))).symm
        ·
         first | have hs4_26 := of_decide_eq_true hs4_260 | have hs4_26 := of_decide_eq_false hs4_260 | have hs4_26 := A0 hs4_260 | have hs4_26 := A1 hs4_260 | have hs4_26 := hs4_260
         refine Tr.pick rfl rfl rfl rfl rfl rfl ?_
         refine Tr.m rfl rfl rfl ?_
         refine Tr.fld rfl rfl rfl Y57 rfl Sz23 dE _ rfl ?_
         refine Tr.load1 rfl rfl rfl Y23 rfl mM (by first | exact Msg.get_fCerts (by first | exact oK  | exact hok) | exact vL) ?_
         refine Tr.lenSl rfl rfl rfl Y23 ?_
         refine Tr.gtr rfl rfl rfl rfl rfl ?_
         refine Tr.pick rfl rfl rfl rfl rfl rfl ?_
         refine Tr.nil (Aa ?_)
         first
          | refine Sat.condP rfl (fun hc1 => ?_) (fun hc1 => ?_)
          | refine Sat.condNP rfl (fun hc1 => ?_) (fun hc1 => ?_)
          | refine Sat.cond rfl (fun hc1 => ?_) (fun hc1 => ?_)
         ·
          refine Sat.seq (Sat.region ?_)
          refine Tr.a rfl rfl rfl ?_
          refine Tr.nil (Aa (Sat.ret (Ap (Ai ?_))))
          refine ⟨_, [], Ae rfl rfl, sP, sP, ?_, rfl⟩
          first
           | exact congrArg i64 (Bz (by
             simp only [DMsg.bad, ← eK, ← eH, ← hu, ← hl.heads, ← hl.want, ← hl.blocks, ← hl.votes, ← hl.cuts, ← hl.certs]
             first
              | exact .inl (‹_›)
              | exact .inr (.inl (‹_›))
              | exact .inr (.inr (.inl (‹_›)))
              | exact .inr (.inr (.inr (.inl (‹_›))))
              | exact .inr (.inr (.inr (.inr (.inl (‹_›)))))
              | exact .inr (.inr (.inr (.inr (.inr (.inl (‹_›))))))
              | exact .inr (.inr (.inr (.inr (.inr (.inr (.inl (‹_›)))))))
              | exact .inr (.inr (.inr (.inr (.inr (.inr (.inr (.inl (‹_›))))))))
              | exact .inr (.inr (.inr (.inr (.inr (.inr (.inr (.inr (.inl (‹_›)))))))))
              | exact .inr (.inr (.inr (.inr (.inr (.inr (.inr (.inr (.inr (.inl (⟨‹_›, ‹_›, ‹_›⟩))))))))))
              | exact .inr (.inr (.inr (.inr (.inr (.inr (.inr (.inr (.inr (.inl (⟨by omega, by omega, by omega⟩))))))))))
              | exact .inr (.inr (.inr (.inr (.inr (.inr (.inr (.inr (.inr (.inr (.inl (‹_›)))))))))))
              | exact .inr (.inr (.inr (.inr (.inr (.inr (.inr (.inr (.inr (.inr (.inr (.inl (‹_›))))))))))))
              | exact .inr (.inr (.inr (.inr (.inr (.inr (.inr (.inr (.inr (.inr (.inr (.inr (.inl (‹_›)))))))))))))
              | exact .inr (.inr (.inr (.inr (.inr (.inr (.inr (.inr (.inr (.inr (.inr (.inr (.inr (‹_›)))))))))))))
              | exact .inr (.inr (.inr (.inr (.inr (.inr (.inr (.inr (.inr (.inr (.inl (fun e => Bool.noConfusion (hs8_2.symm.trans e))))))))))))
              | exact .inr (.inr (.inr (.inr (.inr (.inr (.inr (.inr (.inr (.inr (.inr (.inl (fun e => Bool.noConfusion (hs8_7.symm.trans e)))))))))))))
              | exact .inr (.inr (.inr (.inr (.inr (.inr (.inr (.inr (.inr (.inr (.inr (.inr (.inl (fun e => Bool.noConfusion (hs8_13.symm.trans e)))))))))))))))).symm
           | exact congrArg i64 (Bo (by
             simp only [DMsg.bad, ← eK, ← eH, ← hu, ← hl.heads, ← hl.want, ← hl.blocks, ← hl.votes, ← hl.cuts, ← hl.certs]
             rintro (h | h | h | h | h | h | h | h | h | h | h | h | h | h)
             all_goals first | exact h ‹_› | omega | (simp_all; done))).symm
         ·
          refine Sat.skip (Aa (Sat.seq (Sat.seq (Sat.region ?_))))
          refine Tr.fld rfl rfl rfl Y57 rfl Sz3 dE _ rfl ?_
          refine Tr.load1 rfl rfl rfl Y3 rfl mM (by first | exact Msg.get_fKind (by first | exact oK  | exact hok) | exact vL) ?_
          refine two (fun r hr k => Tr.nei rfl rfl rfl rfl hr k) (fun hs6_20 => ?_) (fun hs6_20 => ?_)
          ·
           first | have hs6_2 := of_decide_eq_true hs6_20 | have hs6_2 := of_decide_eq_false hs6_20 | have hs6_2 := A0 hs6_20 | have hs6_2 := A1 hs6_20 | have hs6_2 := hs6_20
           refine Tr.m rfl rfl rfl ?_
           refine Tr.fld rfl rfl rfl Y57 rfl Sz3 dE _ rfl ?_
           refine Tr.load1 rfl rfl rfl Y3 rfl mM (by first | exact Msg.get_fKind (by first | exact oK  | exact hok) | exact vL) ?_
           refine two (fun r hr k => Tr.nei rfl rfl rfl rfl hr k) (fun hs6_60 => ?_) (fun hs6_60 => ?_)
           ·
            first | have hs6_6 := of_decide_eq_true hs6_60 | have hs6_6 := of_decide_eq_false hs6_60 | have hs6_6 := A0 hs6_60 | have hs6_6 := A1 hs6_60 | have hs6_6 := hs6_60
            refine Tr.pick rfl rfl rfl rfl rfl rfl ?_
            refine Tr.m rfl rfl rfl ?_
            refine Tr.lA rfl rfl rfl Y57 rfl Sz57 mM (Msg.length (by first | exact oK  | exact hok)) ?_
            refine Tr.cV rfl rfl rfl rfl Body125 (sync_used m hok) tV ?_
            refine Tr.eqi rfl rfl rfl rfl rfl ?_
            refine Tr.pick rfl rfl rfl rfl rfl rfl ?_
            refine Tr.nil (Aa ?_)
            first
             | refine Sat.condP rfl (fun hc2 => ?_) (fun hc2 => ?_)
             | refine Sat.condNP rfl (fun hc2 => ?_) (fun hc2 => ?_)
             | refine Sat.cond rfl (fun hc2 => ?_) (fun hc2 => ?_)
            ·
             refine Sat.seq (Sat.region ?_)
             refine Tr.a rfl rfl rfl ?_
             refine Tr.nil (Aa (Sat.ret (Ap (Ai ?_))))
             refine ⟨_, [], Ae rfl rfl, sP, sP, ?_, rfl⟩
             first
              | exact congrArg i64 (Bz (by
                simp only [DMsg.bad, ← eK, ← eH, ← hu, ← hl.heads, ← hl.want, ← hl.blocks, ← hl.votes, ← hl.cuts, ← hl.certs]
                first
                 | exact .inl (‹_›)
                 | exact .inr (.inl (‹_›))
                 | exact .inr (.inr (.inl (‹_›)))
                 | exact .inr (.inr (.inr (.inl (‹_›))))
                 | exact .inr (.inr (.inr (.inr (.inl (‹_›)))))
                 | exact .inr (.inr (.inr (.inr (.inr (.inl (‹_›))))))
                 | exact .inr (.inr (.inr (.inr (.inr (.inr (.inl (‹_›)))))))
                 | exact .inr (.inr (.inr (.inr (.inr (.inr (.inr (.inl (‹_›))))))))
                 | exact .inr (.inr (.inr (.inr (.inr (.inr (.inr (.inr (.inl (‹_›)))))))))
                 | exact .inr (.inr (.inr (.inr (.inr (.inr (.inr (.inr (.inr (.inl (⟨‹_›, ‹_›, ‹_›⟩))))))))))
                 | exact .inr (.inr (.inr (.inr (.inr (.inr (.inr (.inr (.inr (.inl (⟨by omega, by omega, by omega⟩))))))))))
                 | exact .inr (.inr (.inr (.inr (.inr (.inr (.inr (.inr (.inr (.inr (.inl (‹_›)))))))))))
                 | exact .inr (.inr (.inr (.inr (.inr (.inr (.inr (.inr (.inr (.inr (.inr (.inl (‹_›))))))))))))
                 | exact .inr (.inr (.inr (.inr (.inr (.inr (.inr (.inr (.inr (.inr (.inr (.inr (.inl (‹_›)))))))))))))
                 | exact .inr (.inr (.inr (.inr (.inr (.inr (.inr (.inr (.inr (.inr (.inr (.inr (.inr (‹_›)))))))))))))
                 | exact .inr (.inr (.inr (.inr (.inr (.inr (.inr (.inr (.inr (.inr (.inl (fun e => Bool.noConfusion (hs8_2.symm.trans e))))))))))))
                 | exact .inr (.inr (.inr (.inr (.inr (.inr (.inr (.inr (.inr (.inr (.inr (.inl (fun e => Bool.noConfusion (hs8_7.symm.trans e)))))))))))))
                 | exact .inr (.inr (.inr (.inr (.inr (.inr (.inr (.inr (.inr (.inr (.inr (.inr (.inl (fun e => Bool.noConfusion (hs8_13.symm.trans e)))))))))))))))).symm
              | exact congrArg i64 (Bo (by
                simp only [DMsg.bad, ← eK, ← eH, ← hu, ← hl.heads, ← hl.want, ← hl.blocks, ← hl.votes, ← hl.cuts, ← hl.certs]
                rintro (h | h | h | h | h | h | h | h | h | h | h | h | h | h)
                all_goals first | exact h ‹_› | omega | (simp_all; done))).symm
            ·
             refine Sat.skip (Aa (Sat.seq (Sat.seq (Sat.region ?_))))
             refine Tr.fld rfl rfl rfl Y57 rfl Sz22 dE _ rfl ?_
             refine Tr.load1 rfl rfl rfl Y22 rfl mM (by first | exact Msg.get_fBlocks (by first | exact oK  | exact hok) | exact vL) ?_
             refine Tr.callB rfl rfl rfl rfl Body126 (all_block m.fBlocks D.dBlocks) (fun w h => Blocks_ext h rfl hW.fBlocks) (fun hs8_20 => ?_) (fun hs8_20 => ?_)
             ·
              first | have hs8_2 := of_decide_eq_true hs8_20 | have hs8_2 := of_decide_eq_false hs8_20 | have hs8_2 := A0 hs8_20 | have hs8_2 := A1 hs8_20 | have hs8_2 := hs8_20
              refine Tr.not rfl rfl rfl ?_
              refine Tr.m rfl rfl rfl ?_
              refine Tr.fld rfl rfl rfl Y57 rfl Sz24 dE _ rfl ?_
              refine Tr.load1 rfl rfl rfl Y24 rfl mM (by first | exact Msg.get_fVotes (by first | exact oK  | exact hok) | exact vL) ?_
              refine Tr.callB rfl rfl rfl rfl Body127 (all_vote m.fVotes D.dVotes) (fun w h => Votes_ext h rfl hW.fVotes) (fun hs8_70 => ?_) (fun hs8_70 => ?_)
              ·
               first | have hs8_7 := of_decide_eq_true hs8_70 | have hs8_7 := of_decide_eq_false hs8_70 | have hs8_7 := A0 hs8_70 | have hs8_7 := A1 hs8_70 | have hs8_7 := hs8_70
               refine Tr.not rfl rfl rfl ?_
               refine Tr.pick rfl rfl rfl rfl rfl rfl ?_
               refine Tr.m rfl rfl rfl ?_
               refine Tr.fld rfl rfl rfl Y57 rfl Sz25 dE _ rfl ?_
               refine Tr.load1 rfl rfl rfl Y25 rfl mM (by first | exact Msg.get_fCuts (by first | exact oK  | exact hok) | exact vL) ?_
               refine Tr.callB rfl rfl rfl rfl Body128 (all_cut m.fCuts D.dCuts) (fun w h => Cuts_ext h rfl hW.fCuts) (fun hs8_130 => ?_) (fun hs8_130 => ?_)
               ·
                first | have hs8_13 := of_decide_eq_true hs8_130 | have hs8_13 := of_decide_eq_false hs8_130 | have hs8_13 := A0 hs8_130 | have hs8_13 := A1 hs8_130 | have hs8_13 := hs8_130
                refine Tr.not rfl rfl rfl ?_
                refine Tr.pick rfl rfl rfl rfl rfl rfl ?_
                refine Tr.m rfl rfl rfl ?_
                refine Tr.fld rfl rfl rfl Y57 rfl Sz23 dE _ rfl ?_
                refine Tr.load1 rfl rfl rfl Y23 rfl mM (by first | exact Msg.get_fCerts (by first | exact oK  | exact hok) | exact vL) ?_
                refine Tr.cV rfl rfl rfl rfl Body129 (all_cert m.fCerts D.dCerts) (fun w h => Certs_ext h rfl hW.fCerts) ?_
                refine Tr.not rfl rfl rfl ?_
                refine Tr.pick rfl rfl rfl rfl rfl rfl ?_
                refine Tr.nil (Aa ?_)
                first
                 | refine Sat.condP rfl (fun hc3 => ?_) (fun hc3 => ?_)
                 | refine Sat.condNP rfl (fun hc3 => ?_) (fun hc3 => ?_)
                 | refine Sat.cond rfl (fun hc3 => ?_) (fun hc3 => ?_)
                ·
                 have hx3 : ¬ (D.dCerts.all fun d => decide (d.check = 0)) = true := fun e => by rw [e] at hc3; cases hc3
                 refine Sat.seq (Sat.region ?_)
                 refine Tr.a rfl rfl rfl ?_
                 refine Tr.nil (Aa (Sat.ret (Ap (Ai ?_))))
                 refine ⟨_, [], Ae rfl rfl, sP, sP, ?_, rfl⟩
                 first
                  | exact congrArg i64 (Bz (by
                    simp only [DMsg.bad, ← eK, ← eH, ← hu, ← hl.heads, ← hl.want, ← hl.blocks, ← hl.votes, ← hl.cuts, ← hl.certs]
                    first
                     | exact .inl (‹_›)
                     | exact .inr (.inl (‹_›))
                     | exact .inr (.inr (.inl (‹_›)))
                     | exact .inr (.inr (.inr (.inl (‹_›))))
                     | exact .inr (.inr (.inr (.inr (.inl (‹_›)))))
                     | exact .inr (.inr (.inr (.inr (.inr (.inl (‹_›))))))
                     | exact .inr (.inr (.inr (.inr (.inr (.inr (.inl (‹_›)))))))
                     | exact .inr (.inr (.inr (.inr (.inr (.inr (.inr (.inl (‹_›))))))))
                     | exact .inr (.inr (.inr (.inr (.inr (.inr (.inr (.inr (.inl (‹_›)))))))))
                     | exact .inr (.inr (.inr (.inr (.inr (.inr (.inr (.inr (.inr (.inl (⟨‹_›, ‹_›, ‹_›⟩))))))))))
                     | exact .inr (.inr (.inr (.inr (.inr (.inr (.inr (.inr (.inr (.inl (⟨by omega, by omega, by omega⟩))))))))))
                     | exact .inr (.inr (.inr (.inr (.inr (.inr (.inr (.inr (.inr (.inr (.inl (‹_›)))))))))))
                     | exact .inr (.inr (.inr (.inr (.inr (.inr (.inr (.inr (.inr (.inr (.inr (.inl (‹_›))))))))))))
                     | exact .inr (.inr (.inr (.inr (.inr (.inr (.inr (.inr (.inr (.inr (.inr (.inr (.inl (‹_›)))))))))))))
                     | exact .inr (.inr (.inr (.inr (.inr (.inr (.inr (.inr (.inr (.inr (.inr (.inr (.inr (‹_›)))))))))))))
                     | exact .inr (.inr (.inr (.inr (.inr (.inr (.inr (.inr (.inr (.inr (.inl (fun e => Bool.noConfusion (hs8_2.symm.trans e))))))))))))
                     | exact .inr (.inr (.inr (.inr (.inr (.inr (.inr (.inr (.inr (.inr (.inr (.inl (fun e => Bool.noConfusion (hs8_7.symm.trans e)))))))))))))
                     | exact .inr (.inr (.inr (.inr (.inr (.inr (.inr (.inr (.inr (.inr (.inr (.inr (.inl (fun e => Bool.noConfusion (hs8_13.symm.trans e)))))))))))))))).symm
                  | exact congrArg i64 (Bo (by
                    simp only [DMsg.bad, ← eK, ← eH, ← hu, ← hl.heads, ← hl.want, ← hl.blocks, ← hl.votes, ← hl.cuts, ← hl.certs]
                    rintro (h | h | h | h | h | h | h | h | h | h | h | h | h | h)
                    all_goals first | exact h ‹_› | omega | (simp_all; done))).symm
                ·
                 have hx4 : (D.dCerts.all fun d => decide (d.check = 0)) = true := by
                  cases e : (D.dCerts.all fun d => decide (d.check = 0))
                  · rw [e] at hc3; cases hc3
                  · rfl
                 refine Sat.skip (Aa (Sat.seq (Sat.region ?_)))
                 refine Tr.a rfl rfl rfl ?_
                 refine Tr.nil (Aa (Sat.ret (Ai ?_)))
                 refine ⟨_, [], Ae rfl rfl, sP, sP, ?_, rfl⟩
                 first
                  | exact congrArg i64 (Bz (by
                    simp only [DMsg.bad, ← eK, ← eH, ← hu, ← hl.heads, ← hl.want, ← hl.blocks, ← hl.votes, ← hl.cuts, ← hl.certs]
                    first
                     | exact .inl (‹_›)
                     | exact .inr (.inl (‹_›))
                     | exact .inr (.inr (.inl (‹_›)))
                     | exact .inr (.inr (.inr (.inl (‹_›))))
                     | exact .inr (.inr (.inr (.inr (.inl (‹_›)))))
                     | exact .inr (.inr (.inr (.inr (.inr (.inl (‹_›))))))
                     | exact .inr (.inr (.inr (.inr (.inr (.inr (.inl (‹_›)))))))
                     | exact .inr (.inr (.inr (.inr (.inr (.inr (.inr (.inl (‹_›))))))))
                     | exact .inr (.inr (.inr (.inr (.inr (.inr (.inr (.inr (.inl (‹_›)))))))))
                     | exact .inr (.inr (.inr (.inr (.inr (.inr (.inr (.inr (.inr (.inl (⟨‹_›, ‹_›, ‹_›⟩))))))))))
                     | exact .inr (.inr (.inr (.inr (.inr (.inr (.inr (.inr (.inr (.inl (⟨by omega, by omega, by omega⟩))))))))))
                     | exact .inr (.inr (.inr (.inr (.inr (.inr (.inr (.inr (.inr (.inr (.inl (‹_›)))))))))))
                     | exact .inr (.inr (.inr (.inr (.inr (.inr (.inr (.inr (.inr (.inr (.inr (.inl (‹_›))))))))))))
                     | exact .inr (.inr (.inr (.inr (.inr (.inr (.inr (.inr (.inr (.inr (.inr (.inr (.inl (‹_›)))))))))))))
                     | exact .inr (.inr (.inr (.inr (.inr (.inr (.inr (.inr (.inr (.inr (.inr (.inr (.inr (‹_›)))))))))))))
                     | exact .inr (.inr (.inr (.inr (.inr (.inr (.inr (.inr (.inr (.inr (.inl (fun e => Bool.noConfusion (hs8_2.symm.trans e))))))))))))
                     | exact .inr (.inr (.inr (.inr (.inr (.inr (.inr (.inr (.inr (.inr (.inr (.inl (fun e => Bool.noConfusion (hs8_7.symm.trans e)))))))))))))
                     | exact .inr (.inr (.inr (.inr (.inr (.inr (.inr (.inr (.inr (.inr (.inr (.inr (.inl (fun e => Bool.noConfusion (hs8_13.symm.trans e)))))))))))))))).symm
                  | exact congrArg i64 (Bo (by
                    simp only [DMsg.bad, ← eK, ← eH, ← hu, ← hl.heads, ← hl.want, ← hl.blocks, ← hl.votes, ← hl.cuts, ← hl.certs]
                    rintro (h | h | h | h | h | h | h | h | h | h | h | h | h | h)
                    all_goals first | exact h ‹_› | omega | (simp_all; done))).symm
               ·
                first | have hs8_13 := of_decide_eq_true hs8_130 | have hs8_13 := of_decide_eq_false hs8_130 | have hs8_13 := A0 hs8_130 | have hs8_13 := A1 hs8_130 | have hs8_13 := hs8_130
                refine Tr.not rfl rfl rfl ?_
                refine Tr.pick rfl rfl rfl rfl rfl rfl ?_
                refine Tr.m rfl rfl rfl ?_
                refine Tr.skp rfl rfl ?_
                refine Tr.skp rfl rfl ?_
                refine Tr.skp rfl rfl ?_
                refine Tr.skp rfl rfl ?_
                refine Tr.pick rfl rfl rfl rfl rfl rfl ?_
                refine Tr.nil (Aa ?_)
                refine Sat.cond_t rfl rfl ?_
                refine Sat.seq (Sat.region ?_)
                refine Tr.a rfl rfl rfl ?_
                refine Tr.nil (Aa (Sat.ret (Ap (Ai ?_))))
                refine ⟨_, [], Ae rfl rfl, sP, sP, ?_, rfl⟩
                first
                 | exact congrArg i64 (Bz (by
                   simp only [DMsg.bad, ← eK, ← eH, ← hu, ← hl.heads, ← hl.want, ← hl.blocks, ← hl.votes, ← hl.cuts, ← hl.certs]
                   first
                    | exact .inl (‹_›)
                    | exact .inr (.inl (‹_›))
                    | exact .inr (.inr (.inl (‹_›)))
                    | exact .inr (.inr (.inr (.inl (‹_›))))
                    | exact .inr (.inr (.inr (.inr (.inl (‹_›)))))
                    | exact .inr (.inr (.inr (.inr (.inr (.inl (‹_›))))))
                    | exact .inr (.inr (.inr (.inr (.inr (.inr (.inl (‹_›)))))))
                    | exact .inr (.inr (.inr (.inr (.inr (.inr (.inr (.inl (‹_›))))))))
                    | exact .inr (.inr (.inr (.inr (.inr (.inr (.inr (.inr (.inl (‹_›)))))))))
                    | exact .inr (.inr (.inr (.inr (.inr (.inr (.inr (.inr (.inr (.inl (⟨‹_›, ‹_›, ‹_›⟩))))))))))
                    | exact .inr (.inr (.inr (.inr (.inr (.inr (.inr (.inr (.inr (.inl (⟨by omega, by omega, by omega⟩))))))))))
                    | exact .inr (.inr (.inr (.inr (.inr (.inr (.inr (.inr (.inr (.inr (.inl (‹_›)))))))))))
                    | exact .inr (.inr (.inr (.inr (.inr (.inr (.inr (.inr (.inr (.inr (.inr (.inl (‹_›))))))))))))
                    | exact .inr (.inr (.inr (.inr (.inr (.inr (.inr (.inr (.inr (.inr (.inr (.inr (.inl (‹_›)))))))))))))
                    | exact .inr (.inr (.inr (.inr (.inr (.inr (.inr (.inr (.inr (.inr (.inr (.inr (.inr (‹_›)))))))))))))
                    | exact .inr (.inr (.inr (.inr (.inr (.inr (.inr (.inr (.inr (.inr (.inl (fun e => Bool.noConfusion (hs8_2.symm.trans e))))))))))))
                    | exact .inr (.inr (.inr (.inr (.inr (.inr (.inr (.inr (.inr (.inr (.inr (.inl (fun e => Bool.noConfusion (hs8_7.symm.trans e)))))))))))))
                    | exact .inr (.inr (.inr (.inr (.inr (.inr (.inr (.inr (.inr (.inr (.inr (.inr (.inl (fun e => Bool.noConfusion (hs8_13.symm.trans e)))))))))))))))).symm
                 | exact congrArg i64 (Bo (by
                   simp only [DMsg.bad, ← eK, ← eH, ← hu, ← hl.heads, ← hl.want, ← hl.blocks, ← hl.votes, ← hl.cuts, ← hl.certs]
                   rintro (h | h | h | h | h | h | h | h | h | h | h | h | h | h)
                   all_goals first | exact h ‹_› | omega | (simp_all; done))).symm
              ·
               first | have hs8_7 := of_decide_eq_true hs8_70 | have hs8_7 := of_decide_eq_false hs8_70 | have hs8_7 := A0 hs8_70 | have hs8_7 := A1 hs8_70 | have hs8_7 := hs8_70
               refine Tr.not rfl rfl rfl ?_
               refine Tr.pick rfl rfl rfl rfl rfl rfl ?_
               refine Tr.m rfl rfl rfl ?_
               refine Tr.skp rfl rfl ?_
               refine Tr.skp rfl rfl ?_
               refine Tr.skp rfl rfl ?_
               refine Tr.skp rfl rfl ?_
               refine Tr.pick rfl rfl rfl rfl rfl rfl ?_
               refine Tr.m rfl rfl rfl ?_
               refine Tr.skp rfl rfl ?_
               refine Tr.skp rfl rfl ?_
               refine Tr.skp rfl rfl ?_
               refine Tr.skp rfl rfl ?_
               refine Tr.pick rfl rfl rfl rfl rfl rfl ?_
               refine Tr.nil (Aa ?_)
               refine Sat.cond_t rfl rfl ?_
               refine Sat.seq (Sat.region ?_)
               refine Tr.a rfl rfl rfl ?_
               refine Tr.nil (Aa (Sat.ret (Ap (Ai ?_))))
               refine ⟨_, [], Ae rfl rfl, sP, sP, ?_, rfl⟩
               first
                | exact congrArg i64 (Bz (by
                  simp only [DMsg.bad, ← eK, ← eH, ← hu, ← hl.heads, ← hl.want, ← hl.blocks, ← hl.votes, ← hl.cuts, ← hl.certs]
                  first
                   | exact .inl (‹_›)
                   | exact .inr (.inl (‹_›))
                   | exact .inr (.inr (.inl (‹_›)))
                   | exact .inr (.inr (.inr (.inl (‹_›))))
                   | exact .inr (.inr (.inr (.inr (.inl (‹_›)))))
                   | exact .inr (.inr (.inr (.inr (.inr (.inl (‹_›))))))
                   | exact .inr (.inr (.inr (.inr (.inr (.inr (.inl (‹_›)))))))
                   | exact .inr (.inr (.inr (.inr (.inr (.inr (.inr (.inl (‹_›))))))))
                   | exact .inr (.inr (.inr (.inr (.inr (.inr (.inr (.inr (.inl (‹_›)))))))))
                   | exact .inr (.inr (.inr (.inr (.inr (.inr (.inr (.inr (.inr (.inl (⟨‹_›, ‹_›, ‹_›⟩))))))))))
                   | exact .inr (.inr (.inr (.inr (.inr (.inr (.inr (.inr (.inr (.inl (⟨by omega, by omega, by omega⟩))))))))))
                   | exact .inr (.inr (.inr (.inr (.inr (.inr (.inr (.inr (.inr (.inr (.inl (‹_›)))))))))))
                   | exact .inr (.inr (.inr (.inr (.inr (.inr (.inr (.inr (.inr (.inr (.inr (.inl (‹_›))))))))))))
                   | exact .inr (.inr (.inr (.inr (.inr (.inr (.inr (.inr (.inr (.inr (.inr (.inr (.inl (‹_›)))))))))))))
                   | exact .inr (.inr (.inr (.inr (.inr (.inr (.inr (.inr (.inr (.inr (.inr (.inr (.inr (‹_›)))))))))))))
                   | exact .inr (.inr (.inr (.inr (.inr (.inr (.inr (.inr (.inr (.inr (.inl (fun e => Bool.noConfusion (hs8_2.symm.trans e))))))))))))
                   | exact .inr (.inr (.inr (.inr (.inr (.inr (.inr (.inr (.inr (.inr (.inr (.inl (fun e => Bool.noConfusion (hs8_7.symm.trans e)))))))))))))
                   | exact .inr (.inr (.inr (.inr (.inr (.inr (.inr (.inr (.inr (.inr (.inr (.inr (.inl (fun e => Bool.noConfusion (hs8_13.symm.trans e)))))))))))))))).symm
                | exact congrArg i64 (Bo (by
                  simp only [DMsg.bad, ← eK, ← eH, ← hu, ← hl.heads, ← hl.want, ← hl.blocks, ← hl.votes, ← hl.cuts, ← hl.certs]
                  rintro (h | h | h | h | h | h | h | h | h | h | h | h | h | h)
                  all_goals first | exact h ‹_› | omega | (simp_all; done))).symm
             ·
              first | have hs8_2 := of_decide_eq_true hs8_20 | have hs8_2 := of_decide_eq_false hs8_20 | have hs8_2 := A0 hs8_20 | have hs8_2 := A1 hs8_20 | have hs8_2 := hs8_20
              refine Tr.not rfl rfl rfl ?_
              refine Tr.m rfl rfl rfl ?_
              refine Tr.skp rfl rfl ?_
              refine Tr.skp rfl rfl ?_
              refine Tr.skp rfl rfl ?_
              refine Tr.skp rfl rfl ?_
              refine Tr.pick rfl rfl rfl rfl rfl rfl ?_
              refine Tr.m rfl rfl rfl ?_
              refine Tr.skp rfl rfl ?_
              refine Tr.skp rfl rfl ?_
              refine Tr.skp rfl rfl ?_
              refine Tr.skp rfl rfl ?_
              refine Tr.pick rfl rfl rfl rfl rfl rfl ?_
              refine Tr.m rfl rfl rfl ?_
              refine Tr.skp rfl rfl ?_
              refine Tr.skp rfl rfl ?_
              refine Tr.skp rfl rfl ?_
              refine Tr.skp rfl rfl ?_
              refine Tr.pick rfl rfl rfl rfl rfl rfl ?_
              refine Tr.nil (Aa ?_)
              refine Sat.cond_t rfl rfl ?_
              refine Sat.seq (Sat.region ?_)
              refine Tr.a rfl rfl rfl ?_
              refine Tr.nil (Aa (Sat.ret (Ap (Ai ?_))))
              refine ⟨_, [], Ae rfl rfl, sP, sP, ?_, rfl⟩
              first
               | exact congrArg i64 (Bz (by
                 simp only [DMsg.bad, ← eK, ← eH, ← hu, ← hl.heads, ← hl.want, ← hl.blocks, ← hl.votes, ← hl.cuts, ← hl.certs]
                 first
                  | exact .inl (‹_›)
                  | exact .inr (.inl (‹_›))
                  | exact .inr (.inr (.inl (‹_›)))
                  | exact .inr (.inr (.inr (.inl (‹_›))))
                  | exact .inr (.inr (.inr (.inr (.inl (‹_›)))))
                  | exact .inr (.inr (.inr (.inr (.inr (.inl (‹_›))))))
                  | exact .inr (.inr (.inr (.inr (.inr (.inr (.inl (‹_›)))))))
                  | exact .inr (.inr (.inr (.inr (.inr (.inr (.inr (.inl (‹_›))))))))
                  | exact .inr (.inr (.inr (.inr (.inr (.inr (.inr (.inr (.inl (‹_›)))))))))
                  | exact .inr (.inr (.inr (.inr (.inr (.inr (.inr (.inr (.inr (.inl (⟨‹_›, ‹_›, ‹_›⟩))))))))))
                  | exact .inr (.inr (.inr (.inr (.inr (.inr (.inr (.inr (.inr (.inl (⟨by omega, by omega, by omega⟩))))))))))
                  | exact .inr (.inr (.inr (.inr (.inr (.inr (.inr (.inr (.inr (.inr (.inl (‹_›)))))))))))
                  | exact .inr (.inr (.inr (.inr (.inr (.inr (.inr (.inr (.inr (.inr (.inr (.inl (‹_›))))))))))))
                  | exact .inr (.inr (.inr (.inr (.inr (.inr (.inr (.inr (.inr (.inr (.inr (.inr (.inl (‹_›)))))))))))))
                  | exact .inr (.inr (.inr (.inr (.inr (.inr (.inr (.inr (.inr (.inr (.inr (.inr (.inr (‹_›)))))))))))))
                  | exact .inr (.inr (.inr (.inr (.inr (.inr (.inr (.inr (.inr (.inr (.inl (fun e => Bool.noConfusion (hs8_2.symm.trans e))))))))))))
                  | exact .inr (.inr (.inr (.inr (.inr (.inr (.inr (.inr (.inr (.inr (.inr (.inl (fun e => Bool.noConfusion (hs8_7.symm.trans e)))))))))))))
                  | exact .inr (.inr (.inr (.inr (.inr (.inr (.inr (.inr (.inr (.inr (.inr (.inr (.inl (fun e => Bool.noConfusion (hs8_13.symm.trans e)))))))))))))))).symm
               | exact congrArg i64 (Bo (by
                 simp only [DMsg.bad, ← eK, ← eH, ← hu, ← hl.heads, ← hl.want, ← hl.blocks, ← hl.votes, ← hl.cuts, ← hl.certs]
                 rintro (h | h | h | h | h | h | h | h | h | h | h | h | h | h)
                 all_goals first | exact h ‹_› | omega | (simp_all; done))).symm
           ·
            first | have hs6_6 := of_decide_eq_true hs6_60 | have hs6_6 := of_decide_eq_false hs6_60 | have hs6_6 := A0 hs6_60 | have hs6_6 := A1 hs6_60 | have hs6_6 := hs6_60
            refine Tr.pick rfl rfl rfl rfl rfl rfl ?_
            refine Tr.m rfl rfl rfl ?_
            refine Tr.skp rfl rfl ?_
            refine Tr.skp rfl rfl ?_
            refine Tr.skp rfl rfl ?_
            refine Tr.pick rfl rfl rfl rfl rfl rfl ?_
            refine Tr.nil (Aa ?_)
            refine Sat.cond_f rfl rfl ?_
            refine Sat.skip (Aa (Sat.seq (Sat.seq (Sat.region ?_))))
            refine Tr.fld rfl rfl rfl Y57 rfl Sz22 dE _ rfl ?_
            refine Tr.load1 rfl rfl rfl Y22 rfl mM (by first | exact Msg.get_fBlocks (by first | exact oK  | exact hok) | exact vL) ?_
            refine Tr.callB rfl rfl rfl rfl Body126 (all_block m.fBlocks D.dBlocks) (fun w h => Blocks_ext h rfl hW.fBlocks) (fun hs8_20 => ?_) (fun hs8_20 => ?_)
            ·
             first | have hs8_2 := of_decide_eq_true hs8_20 | have hs8_2 := of_decide_eq_false hs8_20 | have hs8_2 := A0 hs8_20 | have hs8_2 := A1 hs8_20 | have hs8_2 := hs8_20
             refine Tr.not rfl rfl rfl ?_
             refine Tr.m rfl rfl rfl ?_
             refine Tr.fld rfl rfl rfl Y57 rfl Sz24 dE _ rfl ?_
             refine Tr.load1 rfl rfl rfl Y24 rfl mM (by first | exact Msg.get_fVotes (by first | exact oK  | exact hok) | exact vL) ?_
             refine Tr.callB rfl rfl rfl rfl Body127 (all_vote m.fVotes D.dVotes) (fun w h => Votes_ext h rfl hW.fVotes) (fun hs8_70 => ?_) (fun hs8_70 => ?_)
             ·
              first | have hs8_7 := of_decide_eq_true hs8_70 | have hs8_7 := of_decide_eq_false hs8_70 | have hs8_7 := A0 hs8_70 | have hs8_7 := A1 hs8_70 | have hs8_7 := hs8_70
              refine Tr.not rfl rfl rfl ?_
              refine Tr.pick rfl rfl rfl rfl rfl rfl ?_
              refine Tr.m rfl rfl rfl ?_
              refine Tr.fld rfl rfl rfl Y57 rfl Sz25 dE _ rfl ?_
              refine Tr.load1 rfl rfl rfl Y25 rfl mM (by first | exact Msg.get_fCuts (by first | exact oK  | exact hok) | exact vL) ?_
              refine Tr.callB rfl rfl rfl rfl Body128 (all_cut m.fCuts D.dCuts) (fun w h => Cuts_ext h rfl hW.fCuts) (fun hs8_130 => ?_) (fun hs8_130 => ?_)
              ·
               first | have hs8_13 := of_decide_eq_true hs8_130 | have hs8_13 := of_decide_eq_false hs8_130 | have hs8_13 := A0 hs8_130 | have hs8_13 := A1 hs8_130 | have hs8_13 := hs8_130
               refine Tr.not rfl rfl rfl ?_
               refine Tr.pick rfl rfl rfl rfl rfl rfl ?_
               refine Tr.m rfl rfl rfl ?_
               refine Tr.fld rfl rfl rfl Y57 rfl Sz23 dE _ rfl ?_
               refine Tr.load1 rfl rfl rfl Y23 rfl mM (by first | exact Msg.get_fCerts (by first | exact oK  | exact hok) | exact vL) ?_
               refine Tr.cV rfl rfl rfl rfl Body129 (all_cert m.fCerts D.dCerts) (fun w h => Certs_ext h rfl hW.fCerts) ?_
               refine Tr.not rfl rfl rfl ?_
               refine Tr.pick rfl rfl rfl rfl rfl rfl ?_
               refine Tr.nil (Aa ?_)
               first
                | refine Sat.condP rfl (fun hc3 => ?_) (fun hc3 => ?_)
                | refine Sat.condNP rfl (fun hc3 => ?_) (fun hc3 => ?_)
                | refine Sat.cond rfl (fun hc3 => ?_) (fun hc3 => ?_)
               ·
                have hx3 : ¬ (D.dCerts.all fun d => decide (d.check = 0)) = true := fun e => by rw [e] at hc3; cases hc3
                refine Sat.seq (Sat.region ?_)
                refine Tr.a rfl rfl rfl ?_
                refine Tr.nil (Aa (Sat.ret (Ap (Ai ?_))))
                refine ⟨_, [], Ae rfl rfl, sP, sP, ?_, rfl⟩
                first
                 | exact congrArg i64 (Bz (by
                   simp only [DMsg.bad, ← eK, ← eH, ← hu, ← hl.heads, ← hl.want, ← hl.blocks, ← hl.votes, ← hl.cuts, ← hl.certs]
                   first
                    | exact .inl (‹_›)
                    | exact .inr (.inl (‹_›))
                    | exact .inr (.inr (.inl (‹_›)))
                    | exact .inr (.inr (.inr (.inl (‹_›))))
                    | exact .inr (.inr (.inr (.inr (.inl (‹_›)))))
                    | exact .inr (.inr (.inr (.inr (.inr (.inl (‹_›))))))
                    | exact .inr (.inr (.inr (.inr (.inr (.inr (.inl (‹_›)))))))
                    | exact .inr (.inr (.inr (.inr (.inr (.inr (.inr (.inl (‹_›))))))))
                    | exact .inr (.inr (.inr (.inr (.inr (.inr (.inr (.inr (.inl (‹_›)))))))))
                    | exact .inr (.inr (.inr (.inr (.inr (.inr (.inr (.inr (.inr (.inl (⟨‹_›, ‹_›, ‹_›⟩))))))))))
                    | exact .inr (.inr (.inr (.inr (.inr (.inr (.inr (.inr (.inr (.inl (⟨by omega, by omega, by omega⟩))))))))))
                    | exact .inr (.inr (.inr (.inr (.inr (.inr (.inr (.inr (.inr (.inr (.inl (‹_›)))))))))))
                    | exact .inr (.inr (.inr (.inr (.inr (.inr (.inr (.inr (.inr (.inr (.inr (.inl (‹_›))))))))))))
                    | exact .inr (.inr (.inr (.inr (.inr (.inr (.inr (.inr (.inr (.inr (.inr (.inr (.inl (‹_›)))))))))))))
                    | exact .inr (.inr (.inr (.inr (.inr (.inr (.inr (.inr (.inr (.inr (.inr (.inr (.inr (‹_›)))))))))))))
                    | exact .inr (.inr (.inr (.inr (.inr (.inr (.inr (.inr (.inr (.inr (.inl (fun e => Bool.noConfusion (hs8_2.symm.trans e))))))))))))
                    | exact .inr (.inr (.inr (.inr (.inr (.inr (.inr (.inr (.inr (.inr (.inr (.inl (fun e => Bool.noConfusion (hs8_7.symm.trans e)))))))))))))
                    | exact .inr (.inr (.inr (.inr (.inr (.inr (.inr (.inr (.inr (.inr (.inr (.inr (.inl (fun e => Bool.noConfusion (hs8_13.symm.trans e)))))))))))))))).symm
                 | exact congrArg i64 (Bo (by
                   simp only [DMsg.bad, ← eK, ← eH, ← hu, ← hl.heads, ← hl.want, ← hl.blocks, ← hl.votes, ← hl.cuts, ← hl.certs]
                   rintro (h | h | h | h | h | h | h | h | h | h | h | h | h | h)
                   all_goals first | exact h ‹_› | omega | (simp_all; done))).symm
               ·
                have hx4 : (D.dCerts.all fun d => decide (d.check = 0)) = true := by
                 cases e : (D.dCerts.all fun d => decide (d.check = 0))
                 · rw [e] at hc3; cases hc3
                 · rfl
                refine Sat.skip (Aa (Sat.seq (Sat.region ?_)))
                refine Tr.a rfl rfl rfl ?_
                refine Tr.nil (Aa (Sat.ret (Ai ?_)))
                refine ⟨_, [], Ae rfl rfl, sP, sP, ?_, rfl⟩
                first
                 | exact congrArg i64 (Bz (by
                   simp only [DMsg.bad, ← eK, ← eH, ← hu, ← hl.heads, ← hl.want, ← hl.blocks, ← hl.votes, ← hl.cuts, ← hl.certs]
                   first
                    | exact .inl (‹_›)
                    | exact .inr (.inl (‹_›))
                    | exact .inr (.inr (.inl (‹_›)))
                    | exact .inr (.inr (.inr (.inl (‹_›))))
                    | exact .inr (.inr (.inr (.inr (.inl (‹_›)))))
                    | exact .inr (.inr (.inr (.inr (.inr (.inl (‹_›))))))
                    | exact .inr (.inr (.inr (.inr (.inr (.inr (.inl (‹_›)))))))
                    | exact .inr (.inr (.inr (.inr (.inr (.inr (.inr (.inl (‹_›))))))))
                    | exact .inr (.inr (.inr (.inr (.inr (.inr (.inr (.inr (.inl (‹_›)))))))))
                    | exact .inr (.inr (.inr (.inr (.inr (.inr (.inr (.inr (.inr (.inl (⟨‹_›, ‹_›, ‹_›⟩))))))))))
                    | exact .inr (.inr (.inr (.inr (.inr (.inr (.inr (.inr (.inr (.inl (⟨by omega, by omega, by omega⟩))))))))))
                    | exact .inr (.inr (.inr (.inr (.inr (.inr (.inr (.inr (.inr (.inr (.inl (‹_›)))))))))))
                    | exact .inr (.inr (.inr (.inr (.inr (.inr (.inr (.inr (.inr (.inr (.inr (.inl (‹_›))))))))))))
                    | exact .inr (.inr (.inr (.inr (.inr (.inr (.inr (.inr (.inr (.inr (.inr (.inr (.inl (‹_›)))))))))))))
                    | exact .inr (.inr (.inr (.inr (.inr (.inr (.inr (.inr (.inr (.inr (.inr (.inr (.inr (‹_›)))))))))))))
                    | exact .inr (.inr (.inr (.inr (.inr (.inr (.inr (.inr (.inr (.inr (.inl (fun e => Bool.noConfusion (hs8_2.symm.trans e))))))))))))
                    | exact .inr (.inr (.inr (.inr (.inr (.inr (.inr (.inr (.inr (.inr (.inr (.inl (fun e => Bool.noConfusion (hs8_7.symm.trans e)))))))))))))
                    | exact .inr (.inr (.inr (.inr (.inr (.inr (.inr (.inr (.inr (.inr (.inr (.inr (.inl (fun e => Bool.noConfusion (hs8_13.symm.trans e)))))))))))))))).symm
                 | exact congrArg i64 (Bo (by
                   simp only [DMsg.bad, ← eK, ← eH, ← hu, ← hl.heads, ← hl.want, ← hl.blocks, ← hl.votes, ← hl.cuts, ← hl.certs]
                   rintro (h | h | h | h | h | h | h | h | h | h | h | h | h | h)
                   all_goals first | exact h ‹_› | omega | (simp_all; done))).symm
              ·
               first | have hs8_13 := of_decide_eq_true hs8_130 | have hs8_13 := of_decide_eq_false hs8_130 | have hs8_13 := A0 hs8_130 | have hs8_13 := A1 hs8_130 | have hs8_13 := hs8_130
               refine Tr.not rfl rfl rfl ?_
               refine Tr.pick rfl rfl rfl rfl rfl rfl ?_
               refine Tr.m rfl rfl rfl ?_
               refine Tr.skp rfl rfl ?_
               refine Tr.skp rfl rfl ?_
               refine Tr.skp rfl rfl ?_
               refine Tr.skp rfl rfl ?_
               refine Tr.pick rfl rfl rfl rfl rfl rfl ?_
               refine Tr.nil (Aa ?_)
               refine Sat.cond_t rfl rfl ?_
               refine Sat.seq (Sat.region ?_)
               refine Tr.a rfl rfl rfl ?_
               refine Tr.nil (Aa (Sat.ret (Ap (Ai ?_))))
               refine ⟨_, [], Ae rfl rfl, sP, sP, ?_, rfl⟩
               first
                | exact congrArg i64 (Bz (by
                  simp only [DMsg.bad, ← eK, ← eH, ← hu, ← hl.heads, ← hl.want, ← hl.blocks, ← hl.votes, ← hl.cuts, ← hl.certs]
                  first
                   | exact .inl (‹_›)
                   | exact .inr (.inl (‹_›))
                   | exact .inr (.inr (.inl (‹_›)))
                   | exact .inr (.inr (.inr (.inl (‹_›))))
                   | exact .inr (.inr (.inr (.inr (.inl (‹_›)))))
                   | exact .inr (.inr (.inr (.inr (.inr (.inl (‹_›))))))
                   | exact .inr (.inr (.inr (.inr (.inr (.inr (.inl (‹_›)))))))
                   | exact .inr (.inr (.inr (.inr (.inr (.inr (.inr (.inl (‹_›))))))))
                   | exact .inr (.inr (.inr (.inr (.inr (.inr (.inr (.inr (.inl (‹_›)))))))))
                   | exact .inr (.inr (.inr (.inr (.inr (.inr (.inr (.inr (.inr (.inl (⟨‹_›, ‹_›, ‹_›⟩))))))))))
                   | exact .inr (.inr (.inr (.inr (.inr (.inr (.inr (.inr (.inr (.inl (⟨by omega, by omega, by omega⟩))))))))))
                   | exact .inr (.inr (.inr (.inr (.inr (.inr (.inr (.inr (.inr (.inr (.inl (‹_›)))))))))))
                   | exact .inr (.inr (.inr (.inr (.inr (.inr (.inr (.inr (.inr (.inr (.inr (.inl (‹_›))))))))))))
                   | exact .inr (.inr (.inr (.inr (.inr (.inr (.inr (.inr (.inr (.inr (.inr (.inr (.inl (‹_›)))))))))))))
                   | exact .inr (.inr (.inr (.inr (.inr (.inr (.inr (.inr (.inr (.inr (.inr (.inr (.inr (‹_›)))))))))))))
                   | exact .inr (.inr (.inr (.inr (.inr (.inr (.inr (.inr (.inr (.inr (.inl (fun e => Bool.noConfusion (hs8_2.symm.trans e))))))))))))
                   | exact .inr (.inr (.inr (.inr (.inr (.inr (.inr (.inr (.inr (.inr (.inr (.inl (fun e => Bool.noConfusion (hs8_7.symm.trans e)))))))))))))
                   | exact .inr (.inr (.inr (.inr (.inr (.inr (.inr (.inr (.inr (.inr (.inr (.inr (.inl (fun e => Bool.noConfusion (hs8_13.symm.trans e)))))))))))))))).symm
                | exact congrArg i64 (Bo (by
                  simp only [DMsg.bad, ← eK, ← eH, ← hu, ← hl.heads, ← hl.want, ← hl.blocks, ← hl.votes, ← hl.cuts, ← hl.certs]
                  rintro (h | h | h | h | h | h | h | h | h | h | h | h | h | h)
                  all_goals first | exact h ‹_› | omega | (simp_all; done))).symm
             ·
              first | have hs8_7 := of_decide_eq_true hs8_70 | have hs8_7 := of_decide_eq_false hs8_70 | have hs8_7 := A0 hs8_70 | have hs8_7 := A1 hs8_70 | have hs8_7 := hs8_70
              refine Tr.not rfl rfl rfl ?_
              refine Tr.pick rfl rfl rfl rfl rfl rfl ?_
              refine Tr.m rfl rfl rfl ?_
              refine Tr.skp rfl rfl ?_
              refine Tr.skp rfl rfl ?_
              refine Tr.skp rfl rfl ?_
              refine Tr.skp rfl rfl ?_
              refine Tr.pick rfl rfl rfl rfl rfl rfl ?_
              refine Tr.m rfl rfl rfl ?_
              refine Tr.skp rfl rfl ?_
              refine Tr.skp rfl rfl ?_
              refine Tr.skp rfl rfl ?_
              refine Tr.skp rfl rfl ?_
              refine Tr.pick rfl rfl rfl rfl rfl rfl ?_
              refine Tr.nil (Aa ?_)
              refine Sat.cond_t rfl rfl ?_
              refine Sat.seq (Sat.region ?_)
              refine Tr.a rfl rfl rfl ?_
              refine Tr.nil (Aa (Sat.ret (Ap (Ai ?_))))
              refine ⟨_, [], Ae rfl rfl, sP, sP, ?_, rfl⟩
              first
               | exact congrArg i64 (Bz (by
                 simp only [DMsg.bad, ← eK, ← eH, ← hu, ← hl.heads, ← hl.want, ← hl.blocks, ← hl.votes, ← hl.cuts, ← hl.certs]
                 first
                  | exact .inl (‹_›)
                  | exact .inr (.inl (‹_›))
                  | exact .inr (.inr (.inl (‹_›)))
                  | exact .inr (.inr (.inr (.inl (‹_›))))
                  | exact .inr (.inr (.inr (.inr (.inl (‹_›)))))
                  | exact .inr (.inr (.inr (.inr (.inr (.inl (‹_›))))))
                  | exact .inr (.inr (.inr (.inr (.inr (.inr (.inl (‹_›)))))))
                  | exact .inr (.inr (.inr (.inr (.inr (.inr (.inr (.inl (‹_›))))))))
                  | exact .inr (.inr (.inr (.inr (.inr (.inr (.inr (.inr (.inl (‹_›)))))))))
                  | exact .inr (.inr (.inr (.inr (.inr (.inr (.inr (.inr (.inr (.inl (⟨‹_›, ‹_›, ‹_›⟩))))))))))
                  | exact .inr (.inr (.inr (.inr (.inr (.inr (.inr (.inr (.inr (.inl (⟨by omega, by omega, by omega⟩))))))))))
                  | exact .inr (.inr (.inr (.inr (.inr (.inr (.inr (.inr (.inr (.inr (.inl (‹_›)))))))))))
                  | exact .inr (.inr (.inr (.inr (.inr (.inr (.inr (.inr (.inr (.inr (.inr (.inl (‹_›))))))))))))
                  | exact .inr (.inr (.inr (.inr (.inr (.inr (.inr (.inr (.inr (.inr (.inr (.inr (.inl (‹_›)))))))))))))
                  | exact .inr (.inr (.inr (.inr (.inr (.inr (.inr (.inr (.inr (.inr (.inr (.inr (.inr (‹_›)))))))))))))
                  | exact .inr (.inr (.inr (.inr (.inr (.inr (.inr (.inr (.inr (.inr (.inl (fun e => Bool.noConfusion (hs8_2.symm.trans e))))))))))))
                  | exact .inr (.inr (.inr (.inr (.inr (.inr (.inr (.inr (.inr (.inr (.inr (.inl (fun e => Bool.noConfusion (hs8_7.symm.trans e)))))))))))))
                  | exact .inr (.inr (.inr (.inr (.inr (.inr (.inr (.inr (.inr (.inr (.inr (.inr (.inl (fun e => Bool.noConfusion (hs8_13.symm.trans e)))))))))))))))).symm
               | exact congrArg i64 (Bo (by
                 simp only [DMsg.bad, ← eK, ← eH, ← hu, ← hl.heads, ← hl.want, ← hl.blocks, ← hl.votes, ← hl.cuts, ← hl.certs]
                 rintro (h | h | h | h | h | h | h | h | h | h | h | h | h | h)
                 all_goals first | exact h ‹_› | omega | (simp_all; done))).symm
            ·
             first | have hs8_2 := of_decide_eq_true hs8_20 | have hs8_2 := of_decide_eq_false hs8_20 | have hs8_2 := A0 hs8_20 | have hs8_2 := A1 hs8_20 | have hs8_2 := hs8_20
             refine Tr.not rfl rfl rfl ?_
             refine Tr.m rfl rfl rfl ?_
             refine Tr.skp rfl rfl ?_
             refine Tr.skp rfl rfl ?_
             refine Tr.skp rfl rfl ?_
             refine Tr.skp rfl rfl ?_
             refine Tr.pick rfl rfl rfl rfl rfl rfl ?_
             refine Tr.m rfl rfl rfl ?_
             refine Tr.skp rfl rfl ?_
             refine Tr.skp rfl rfl ?_
             refine Tr.skp rfl rfl ?_
             refine Tr.skp rfl rfl ?_
             refine Tr.pick rfl rfl rfl rfl rfl rfl ?_
             refine Tr.m rfl rfl rfl ?_
             refine Tr.skp rfl rfl ?_
             refine Tr.skp rfl rfl ?_
             refine Tr.skp rfl rfl ?_
             refine Tr.skp rfl rfl ?_
             refine Tr.pick rfl rfl rfl rfl rfl rfl ?_
             refine Tr.nil (Aa ?_)
             refine Sat.cond_t rfl rfl ?_
             refine Sat.seq (Sat.region ?_)
             refine Tr.a rfl rfl rfl ?_
             refine Tr.nil (Aa (Sat.ret (Ap (Ai ?_))))
             refine ⟨_, [], Ae rfl rfl, sP, sP, ?_, rfl⟩
             first
              | exact congrArg i64 (Bz (by
                simp only [DMsg.bad, ← eK, ← eH, ← hu, ← hl.heads, ← hl.want, ← hl.blocks, ← hl.votes, ← hl.cuts, ← hl.certs]
                first
                 | exact .inl (‹_›)
                 | exact .inr (.inl (‹_›))
                 | exact .inr (.inr (.inl (‹_›)))
                 | exact .inr (.inr (.inr (.inl (‹_›))))
                 | exact .inr (.inr (.inr (.inr (.inl (‹_›)))))
                 | exact .inr (.inr (.inr (.inr (.inr (.inl (‹_›))))))
                 | exact .inr (.inr (.inr (.inr (.inr (.inr (.inl (‹_›)))))))
                 | exact .inr (.inr (.inr (.inr (.inr (.inr (.inr (.inl (‹_›))))))))
                 | exact .inr (.inr (.inr (.inr (.inr (.inr (.inr (.inr (.inl (‹_›)))))))))
                 | exact .inr (.inr (.inr (.inr (.inr (.inr (.inr (.inr (.inr (.inl (⟨‹_›, ‹_›, ‹_›⟩))))))))))
                 | exact .inr (.inr (.inr (.inr (.inr (.inr (.inr (.inr (.inr (.inl (⟨by omega, by omega, by omega⟩))))))))))
                 | exact .inr (.inr (.inr (.inr (.inr (.inr (.inr (.inr (.inr (.inr (.inl (‹_›)))))))))))
                 | exact .inr (.inr (.inr (.inr (.inr (.inr (.inr (.inr (.inr (.inr (.inr (.inl (‹_›))))))))))))
                 | exact .inr (.inr (.inr (.inr (.inr (.inr (.inr (.inr (.inr (.inr (.inr (.inr (.inl (‹_›)))))))))))))
                 | exact .inr (.inr (.inr (.inr (.inr (.inr (.inr (.inr (.inr (.inr (.inr (.inr (.inr (‹_›)))))))))))))
                 | exact .inr (.inr (.inr (.inr (.inr (.inr (.inr (.inr (.inr (.inr (.inl (fun e => Bool.noConfusion (hs8_2.symm.trans e))))))))))))
                 | exact .inr (.inr (.inr (.inr (.inr (.inr (.inr (.inr (.inr (.inr (.inr (.inl (fun e => Bool.noConfusion (hs8_7.symm.trans e)))))))))))))
                 | exact .inr (.inr (.inr (.inr (.inr (.inr (.inr (.inr (.inr (.inr (.inr (.inr (.inl (fun e => Bool.noConfusion (hs8_13.symm.trans e)))))))))))))))).symm
              | exact congrArg i64 (Bo (by
                simp only [DMsg.bad, ← eK, ← eH, ← hu, ← hl.heads, ← hl.want, ← hl.blocks, ← hl.votes, ← hl.cuts, ← hl.certs]
                rintro (h | h | h | h | h | h | h | h | h | h | h | h | h | h)
                all_goals first | exact h ‹_› | omega | (simp_all; done))).symm
          ·
           first | have hs6_2 := of_decide_eq_true hs6_20 | have hs6_2 := of_decide_eq_false hs6_20 | have hs6_2 := A0 hs6_20 | have hs6_2 := A1 hs6_20 | have hs6_2 := hs6_20
           refine Tr.m rfl rfl rfl ?_
           refine Tr.skp rfl rfl ?_
           refine Tr.skp rfl rfl ?_
           refine Tr.skp rfl rfl ?_
           refine Tr.pick rfl rfl rfl rfl rfl rfl ?_
           refine Tr.m rfl rfl rfl ?_
           refine Tr.skp rfl rfl ?_
           refine Tr.skp rfl rfl ?_
           refine Tr.skp rfl rfl ?_
           refine Tr.pick rfl rfl rfl rfl rfl rfl ?_
           refine Tr.nil (Aa ?_)
           refine Sat.cond_f rfl rfl ?_
           refine Sat.skip (Aa (Sat.seq (Sat.seq (Sat.region ?_))))
           refine Tr.fld rfl rfl rfl Y57 rfl Sz22 dE _ rfl ?_
           refine Tr.load1 rfl rfl rfl Y22 rfl mM (by first | exact Msg.get_fBlocks (by first | exact oK  | exact hok) | exact vL) ?_
           refine Tr.callB rfl rfl rfl rfl Body126 (all_block m.fBlocks D.dBlocks) (fun w h => Blocks_ext h rfl hW.fBlocks) (fun hs8_20 => ?_) (fun hs8_20 => ?_)
           ·
            first | have hs8_2 := of_decide_eq_true hs8_20 | have hs8_2 := of_decide_eq_false hs8_20 | have hs8_2 := A0 hs8_20 | have hs8_2 := A1 hs8_20 | have hs8_2 := hs8_20
            refine Tr.not rfl rfl rfl ?_
            refine Tr.m rfl rfl rfl ?_
            refine Tr.fld rfl rfl rfl Y57 rfl Sz24 dE _ rfl ?_
            refine Tr.load1 rfl rfl rfl Y24 rfl mM (by first | exact Msg.get_fVotes (by first | exact oK  | exact hok) | exact vL) ?_
            refine Tr.callB rfl rfl rfl rfl Body127 (all_vote m.fVotes D.dVotes) (fun w h => Votes_ext h rfl hW.fVotes) (fun hs8_70 => ?_) (fun hs8_70 => ?_)
            ·
             first | have hs8_7 := of_decide_eq_true hs8_70 | have hs8_7 := of_decide_eq_false hs8_70 | have hs8_7 := A0 hs8_70 | have hs8_7 := A1 hs8_70 | have hs8_7 := hs8_70
             refine Tr.not rfl rfl rfl ?_
             refine Tr.pick rfl rfl rfl rfl rfl rfl ?_
             refine Tr.m rfl rfl rfl ?_
             refine Tr.fld rfl rfl rfl Y57 rfl Sz25 dE _ rfl ?_
             refine Tr.load1 rfl rfl rfl Y25 rfl mM (by first | exact Msg.get_fCuts (by first | exact oK  | exact hok) | exact vL) ?_
             refine Tr.callB rfl rfl rfl rfl Body128 (all_cut m.fCuts D.dCuts) (fun w h => Cuts_ext h rfl hW.fCuts) (fun hs8_130 => ?_) (fun hs8_130 => ?_)
             ·
              first | have hs8_13 := of_decide_eq_true hs8_130 | have hs8_13 := of_decide_eq_false hs8_130 | have hs8_13 := A0 hs8_130 | have hs8_13 := A1 hs8_130 | have hs8_13 := hs8_130
              refine Tr.not rfl rfl rfl ?_
              refine Tr.pick rfl rfl rfl rfl rfl rfl ?_
              refine Tr.m rfl rfl rfl ?_
              refine Tr.fld rfl rfl rfl Y57 rfl Sz23 dE _ rfl ?_
              refine Tr.load1 rfl rfl rfl Y23 rfl mM (by first | exact Msg.get_fCerts (by first | exact oK  | exact hok) | exact vL) ?_
              refine Tr.cV rfl rfl rfl rfl Body129 (all_cert m.fCerts D.dCerts) (fun w h => Certs_ext h rfl hW.fCerts) ?_
              refine Tr.not rfl rfl rfl ?_
              refine Tr.pick rfl rfl rfl rfl rfl rfl ?_
              refine Tr.nil (Aa ?_)
              first
               | refine Sat.condP rfl (fun hc3 => ?_) (fun hc3 => ?_)
               | refine Sat.condNP rfl (fun hc3 => ?_) (fun hc3 => ?_)
               | refine Sat.cond rfl (fun hc3 => ?_) (fun hc3 => ?_)
              ·
               have hx3 : ¬ (D.dCerts.all fun d => decide (d.check = 0)) = true := fun e => by rw [e] at hc3; cases hc3
               refine Sat.seq (Sat.region ?_)
               refine Tr.a rfl rfl rfl ?_
               refine Tr.nil (Aa (Sat.ret (Ap (Ai ?_))))
               refine ⟨_, [], Ae rfl rfl, sP, sP, ?_, rfl⟩
               first
                | exact congrArg i64 (Bz (by
                  simp only [DMsg.bad, ← eK, ← eH, ← hu, ← hl.heads, ← hl.want, ← hl.blocks, ← hl.votes, ← hl.cuts, ← hl.certs]
                  first
                   | exact .inl (‹_›)
                   | exact .inr (.inl (‹_›))
                   | exact .inr (.inr (.inl (‹_›)))
                   | exact .inr (.inr (.inr (.inl (‹_›))))
                   | exact .inr (.inr (.inr (.inr (.inl (‹_›)))))
                   | exact .inr (.inr (.inr (.inr (.inr (.inl (‹_›))))))
                   | exact .inr (.inr (.inr (.inr (.inr (.inr (.inl (‹_›)))))))
                   | exact .inr (.inr (.inr (.inr (.inr (.inr (.inr (.inl (‹_›))))))))
                   | exact .inr (.inr (.inr (.inr (.inr (.inr (.inr (.inr (.inl (‹_›)))))))))
                   | exact .inr (.inr (.inr (.inr (.inr (.inr (.inr (.inr (.inr (.inl (⟨‹_›, ‹_›, ‹_›⟩))))))))))
                   | exact .inr (.inr (.inr (.inr (.inr (.inr (.inr (.inr (.inr (.inl (⟨by omega, by omega, by omega⟩))))))))))
                   | exact .inr (.inr (.inr (.inr (.inr (.inr (.inr (.inr (.inr (.inr (.inl (‹_›)))))))))))
                   | exact .inr (.inr (.inr (.inr (.inr (.inr (.inr (.inr (.inr (.inr (.inr (.inl (‹_›))))))))))))
                   | exact .inr (.inr (.inr (.inr (.inr (.inr (.inr (.inr (.inr (.inr (.inr (.inr (.inl (‹_›)))))))))))))
                   | exact .inr (.inr (.inr (.inr (.inr (.inr (.inr (.inr (.inr (.inr (.inr (.inr (.inr (‹_›)))))))))))))
                   | exact .inr (.inr (.inr (.inr (.inr (.inr (.inr (.inr (.inr (.inr (.inl (fun e => Bool.noConfusion (hs8_2.symm.trans e))))))))))))
                   | exact .inr (.inr (.inr (.inr (.inr (.inr (.inr (.inr (.inr (.inr (.inr (.inl (fun e => Bool.noConfusion (hs8_7.symm.trans e)))))))))))))
                   | exact .inr (.inr (.inr (.inr (.inr (.inr (.inr (.inr (.inr (.inr (.inr (.inr (.inl (fun e => Bool.noConfusion (hs8_13.symm.trans e)))))))))))))))).symm
                | exact congrArg i64 (Bo (by
                  simp only [DMsg.bad, ← eK, ← eH, ← hu, ← hl.heads, ← hl.want, ← hl.blocks, ← hl.votes, ← hl.cuts, ← hl.certs]
                  rintro (h | h | h | h | h | h | h | h | h | h | h | h | h | h)
                  all_goals first | exact h ‹_› | omega | (simp_all; done))).symm
              ·
               have hx4 : (D.dCerts.all fun d => decide (d.check = 0)) = true := by
                cases e : (D.dCerts.all fun d => decide (d.check = 0))
                · rw [e] at hc3; cases hc3
                · rfl
               refine Sat.skip (Aa (Sat.seq (Sat.region ?_)))
               refine Tr.a rfl rfl rfl ?_
               refine Tr.nil (Aa (Sat.ret (Ai ?_)))
               refine ⟨_, [], Ae rfl rfl, sP, sP, ?_, rfl⟩
               first
                | exact congrArg i64 (Bz (by
                  simp only [DMsg.bad, ← eK, ← eH, ← hu, ← hl.heads, ← hl.want, ← hl.blocks, ← hl.votes, ← hl.cuts, ← hl.certs]
                  first
                   | exact .inl (‹_›)
                   | exact .inr (.inl (‹_›))
                   | exact .inr (.inr (.inl (‹_›)))
                   | exact .inr (.inr (.inr (.inl (‹_›))))
                   | exact .inr (.inr (.inr (.inr (.inl (‹_›)))))
                   | exact .inr (.inr (.inr (.inr (.inr (.inl (‹_›))))))
                   | exact .inr (.inr (.inr (.inr (.inr (.inr (.inl (‹_›)))))))
                   | exact .inr (.inr (.inr (.inr (.inr (.inr (.inr (.inl (‹_›))))))))
                   | exact .inr (.inr (.inr (.inr (.inr (.inr (.inr (.inr (.inl (‹_›)))))))))
                   | exact .inr (.inr (.inr (.inr (.inr (.inr (.inr (.inr (.inr (.inl (⟨‹_›, ‹_›, ‹_›⟩))))))))))
                   | exact .inr (.inr (.inr (.inr (.inr (.inr (.inr (.inr (.inr (.inl (⟨by omega, by omega, by omega⟩))))))))))
                   | exact .inr (.inr (.inr (.inr (.inr (.inr (.inr (.inr (.inr (.inr (.inl (‹_›)))))))))))
                   | exact .inr (.inr (.inr (.inr (.inr (.inr (.inr (.inr (.inr (.inr (.inr (.inl (‹_›))))))))))))
                   | exact .inr (.inr (.inr (.inr (.inr (.inr (.inr (.inr (.inr (.inr (.inr (.inr (.inl (‹_›)))))))))))))
                   | exact .inr (.inr (.inr (.inr (.inr (.inr (.inr (.inr (.inr (.inr (.inr (.inr (.inr (‹_›)))))))))))))
                   | exact .inr (.inr (.inr (.inr (.inr (.inr (.inr (.inr (.inr (.inr (.inl (fun e => Bool.noConfusion (hs8_2.symm.trans e))))))))))))
                   | exact .inr (.inr (.inr (.inr (.inr (.inr (.inr (.inr (.inr (.inr (.inr (.inl (fun e => Bool.noConfusion (hs8_7.symm.trans e)))))))))))))
                   | exact .inr (.inr (.inr (.inr (.inr (.inr (.inr (.inr (.inr (.inr (.inr (.inr (.inl (fun e => Bool.noConfusion (hs8_13.symm.trans e)))))))))))))))).symm
                | exact congrArg i64 (Bo (by
                  simp only [DMsg.bad, ← eK, ← eH, ← hu, ← hl.heads, ← hl.want, ← hl.blocks, ← hl.votes, ← hl.cuts, ← hl.certs]
                  rintro (h | h | h | h | h | h | h | h | h | h | h | h | h | h)
                  all_goals first | exact h ‹_› | omega | (simp_all; done))).symm
             ·
              first | have hs8_13 := of_decide_eq_true hs8_130 | have hs8_13 := of_decide_eq_false hs8_130 | have hs8_13 := A0 hs8_130 | have hs8_13 := A1 hs8_130 | have hs8_13 := hs8_130
              refine Tr.not rfl rfl rfl ?_
              refine Tr.pick rfl rfl rfl rfl rfl rfl ?_
              refine Tr.m rfl rfl rfl ?_
              refine Tr.skp rfl rfl ?_
              refine Tr.skp rfl rfl ?_
              refine Tr.skp rfl rfl ?_
              refine Tr.skp rfl rfl ?_
              refine Tr.pick rfl rfl rfl rfl rfl rfl ?_
              refine Tr.nil (Aa ?_)
              refine Sat.cond_t rfl rfl ?_
              refine Sat.seq (Sat.region ?_)
              refine Tr.a rfl rfl rfl ?_
              refine Tr.nil (Aa (Sat.ret (Ap (Ai ?_))))
              refine ⟨_, [], Ae rfl rfl, sP, sP, ?_, rfl⟩
              first
               | exact congrArg i64 (Bz (by
                 simp only [DMsg.bad, ← eK, ← eH, ← hu, ← hl.heads, ← hl.want, ← hl.blocks, ← hl.votes, ← hl.cuts, ← hl.certs]
                 first
                  | exact .inl (‹_›)
                  | exact .inr (.inl (‹_›))
                  | exact .inr (.inr (.inl (‹_›)))
                  | exact .inr (.inr (.inr (.inl (‹_›))))
                  | exact .inr (.inr (.inr (.inr (.inl (‹_›)))))
                  | exact .inr (.inr (.inr (.inr (.inr (.inl (‹_›))))))
                  | exact .inr (.inr (.inr (.inr (.inr (.inr (.inl (‹_›)))))))
                  | exact .inr (.inr (.inr (.inr (.inr (.inr (.inr (.inl (‹_›))))))))
                  | exact .inr (.inr (.inr (.inr (.inr (.inr (.inr (.inr (.inl (‹_›)))))))))
                  | exact .inr (.inr (.inr (.inr (.inr (.inr (.inr (.inr (.inr (.inl (⟨‹_›, ‹_›, ‹_›⟩))))))))))
                  | exact .inr (.inr (.inr (.inr (.inr (.inr (.inr (.inr (.inr (.inl (⟨by omega, by omega, by omega⟩))))))))))
                  | exact .inr (.inr (.inr (.inr (.inr (.inr (.inr (.inr (.inr (.inr (.inl (‹_›)))))))))))
                  | exact .inr (.inr (.inr (.inr (.inr (.inr (.inr (.inr (.inr (.inr (.inr (.inl (‹_›))))))))))))
                  | exact .inr (.inr (.inr (.inr (.inr (.inr (.inr (.inr (.inr (.inr (.inr (.inr (.inl (‹_›)))))))))))))
                  | exact .inr (.inr (.inr (.inr (.inr (.inr (.inr (.inr (.inr (.inr (.inr (.inr (.inr (‹_›)))))))))))))
                  | exact .inr (.inr (.inr (.inr (.inr (.inr (.inr (.inr (.inr (.inr (.inl (fun e => Bool.noConfusion (hs8_2.symm.trans e))))))))))))
                  | exact .inr (.inr (.inr (.inr (.inr (.inr (.inr (.inr (.inr (.inr (.inr (.inl (fun e => Bool.noConfusion (hs8_7.symm.trans e)))))))))))))
                  | exact .inr (.inr (.inr (.inr (.inr (.inr (.inr (.inr (.inr (.inr (.inr (.inr (.inl (fun e => Bool.noConfusion (hs8_13.symm.trans e)))))))))))))))).symm
               | exact congrArg i64 (Bo (by
                 simp only [DMsg.bad, ← eK, ← eH, ← hu, ← hl.heads, ← hl.want, ← hl.blocks, ← hl.votes, ← hl.cuts, ← hl.certs]
                 rintro (h | h | h | h | h | h | h | h | h | h | h | h | h | h)
                 all_goals first | exact h ‹_› | omega | (simp_all; done))).symm
            ·
             first | have hs8_7 := of_decide_eq_true hs8_70 | have hs8_7 := of_decide_eq_false hs8_70 | have hs8_7 := A0 hs8_70 | have hs8_7 := A1 hs8_70 | have hs8_7 := hs8_70
             refine Tr.not rfl rfl rfl ?_
             refine Tr.pick rfl rfl rfl rfl rfl rfl ?_
             refine Tr.m rfl rfl rfl ?_
             refine Tr.skp rfl rfl ?_
             refine Tr.skp rfl rfl ?_
             refine Tr.skp rfl rfl ?_
             refine Tr.skp rfl rfl ?_
             refine Tr.pick rfl rfl rfl rfl rfl rfl ?_
             refine Tr.m rfl rfl rfl ?_
             refine Tr.skp rfl rfl ?_
             refine Tr.skp rfl rfl ?_
             refine Tr.skp rfl rfl ?_
             refine Tr.skp rfl rfl ?_
             refine Tr.pick rfl rfl rfl rfl rfl rfl ?_
             refine Tr.nil (Aa ?_)
             refine Sat.cond_t rfl rfl ?_
             refine Sat.seq (Sat.region ?_)
             refine Tr.a rfl rfl rfl ?_
             refine Tr.nil (Aa (Sat.ret (Ap (Ai ?_))))
             refine ⟨_, [], Ae rfl rfl, sP, sP, ?_, rfl⟩
             first
              | exact congrArg i64 (Bz (by
                simp only [DMsg.bad, ← eK, ← eH, ← hu, ← hl.heads, ← hl.want, ← hl.blocks, ← hl.votes, ← hl.cuts, ← hl.certs]
                first
                 | exact .inl (‹_›)
                 | exact .inr (.inl (‹_›))
                 | exact .inr (.inr (.inl (‹_›)))
                 | exact .inr (.inr (.inr (.inl (‹_›))))
                 | exact .inr (.inr (.inr (.inr (.inl (‹_›)))))
                 | exact .inr (.inr (.inr (.inr (.inr (.inl (‹_›))))))
                 | exact .inr (.inr (.inr (.inr (.inr (.inr (.inl (‹_›)))))))
                 | exact .inr (.inr (.inr (.inr (.inr (.inr (.inr (.inl (‹_›))))))))
                 | exact .inr (.inr (.inr (.inr (.inr (.inr (.inr (.inr (.inl (‹_›)))))))))
                 | exact .inr (.inr (.inr (.inr (.inr (.inr (.inr (.inr (.inr (.inl (⟨‹_›, ‹_›, ‹_›⟩))))))))))
                 | exact .inr (.inr (.inr (.inr (.inr (.inr (.inr (.inr (.inr (.inl (⟨by omega, by omega, by omega⟩))))))))))
                 | exact .inr (.inr (.inr (.inr (.inr (.inr (.inr (.inr (.inr (.inr (.inl (‹_›)))))))))))
                 | exact .inr (.inr (.inr (.inr (.inr (.inr (.inr (.inr (.inr (.inr (.inr (.inl (‹_›))))))))))))
                 | exact .inr (.inr (.inr (.inr (.inr (.inr (.inr (.inr (.inr (.inr (.inr (.inr (.inl (‹_›)))))))))))))
                 | exact .inr (.inr (.inr (.inr (.inr (.inr (.inr (.inr (.inr (.inr (.inr (.inr (.inr (‹_›)))))))))))))
                 | exact .inr (.inr (.inr (.inr (.inr (.inr (.inr (.inr (.inr (.inr (.inl (fun e => Bool.noConfusion (hs8_2.symm.trans e))))))))))))
                 | exact .inr (.inr (.inr (.inr (.inr (.inr (.inr (.inr (.inr (.inr (.inr (.inl (fun e => Bool.noConfusion (hs8_7.symm.trans e)))))))))))))
                 | exact .inr (.inr (.inr (.inr (.inr (.inr (.inr (.inr (.inr (.inr (.inr (.inr (.inl (fun e => Bool.noConfusion (hs8_13.symm.trans e)))))))))))))))).symm
              | exact congrArg i64 (Bo (by
                simp only [DMsg.bad, ← eK, ← eH, ← hu, ← hl.heads, ← hl.want, ← hl.blocks, ← hl.votes, ← hl.cuts, ← hl.certs]
                rintro (h | h | h | h | h | h | h | h | h | h | h | h | h | h)
                all_goals first | exact h ‹_› | omega | (simp_all; done))).symm
           ·
            first | have hs8_2 := of_decide_eq_true hs8_20 | have hs8_2 := of_decide_eq_false hs8_20 | have hs8_2 := A0 hs8_20 | have hs8_2 := A1 hs8_20 | have hs8_2 := hs8_20
            refine Tr.not rfl rfl rfl ?_
            refine Tr.m rfl rfl rfl ?_
            refine Tr.skp rfl rfl ?_
            refine Tr.skp rfl rfl ?_
            refine Tr.skp rfl rfl ?_
            refine Tr.skp rfl rfl ?_
            refine Tr.pick rfl rfl rfl rfl rfl rfl ?_
            refine Tr.m rfl rfl rfl ?_
            refine Tr.skp rfl rfl ?_
            refine Tr.skp rfl rfl ?_
            refine Tr.skp rfl rfl ?_
            refine Tr.skp rfl rfl ?_
            refine Tr.pick rfl rfl rfl rfl rfl rfl ?_
            refine Tr.m rfl rfl rfl ?_
            refine Tr.skp rfl rfl ?_
            refine Tr.skp rfl rfl ?_
            refine Tr.skp rfl rfl ?_
            refine Tr.skp rfl rfl ?_
            refine Tr.pick rfl rfl rfl rfl rfl rfl ?_
            refine Tr.nil (Aa ?_)
            refine Sat.cond_t rfl rfl ?_
            refine Sat.seq (Sat.region ?_)
            refine Tr.a rfl rfl rfl ?_
            refine Tr.nil (Aa (Sat.ret (Ap (Ai ?_))))
            refine ⟨_, [], Ae rfl rfl, sP, sP, ?_, rfl⟩
            first
             | exact congrArg i64 (Bz (by
               simp only [DMsg.bad, ← eK, ← eH, ← hu, ← hl.heads, ← hl.want, ← hl.blocks, ← hl.votes, ← hl.cuts, ← hl.certs]
               first
                | exact .inl (‹_›)
                | exact .inr (.inl (‹_›))
                | exact .inr (.inr (.inl (‹_›)))
                | exact .inr (.inr (.inr (.inl (‹_›))))
                | exact .inr (.inr (.inr (.inr (.inl (‹_›)))))
                | exact .inr (.inr (.inr (.inr (.inr (.inl (‹_›))))))
                | exact .inr (.inr (.inr (.inr (.inr (.inr (.inl (‹_›)))))))
                | exact .inr (.inr (.inr (.inr (.inr (.inr (.inr (.inl (‹_›))))))))
                | exact .inr (.inr (.inr (.inr (.inr (.inr (.inr (.inr (.inl (‹_›)))))))))
                | exact .inr (.inr (.inr (.inr (.inr (.inr (.inr (.inr (.inr (.inl (⟨‹_›, ‹_›, ‹_›⟩))))))))))
                | exact .inr (.inr (.inr (.inr (.inr (.inr (.inr (.inr (.inr (.inl (⟨by omega, by omega, by omega⟩))))))))))
                | exact .inr (.inr (.inr (.inr (.inr (.inr (.inr (.inr (.inr (.inr (.inl (‹_›)))))))))))
                | exact .inr (.inr (.inr (.inr (.inr (.inr (.inr (.inr (.inr (.inr (.inr (.inl (‹_›))))))))))))
                | exact .inr (.inr (.inr (.inr (.inr (.inr (.inr (.inr (.inr (.inr (.inr (.inr (.inl (‹_›)))))))))))))
                | exact .inr (.inr (.inr (.inr (.inr (.inr (.inr (.inr (.inr (.inr (.inr (.inr (.inr (‹_›)))))))))))))
                | exact .inr (.inr (.inr (.inr (.inr (.inr (.inr (.inr (.inr (.inr (.inl (fun e => Bool.noConfusion (hs8_2.symm.trans e))))))))))))
                | exact .inr (.inr (.inr (.inr (.inr (.inr (.inr (.inr (.inr (.inr (.inr (.inl (fun e => Bool.noConfusion (hs8_7.symm.trans e)))))))))))))
                | exact .inr (.inr (.inr (.inr (.inr (.inr (.inr (.inr (.inr (.inr (.inr (.inr (.inl (fun e => Bool.noConfusion (hs8_13.symm.trans e)))))))))))))))).symm
             | exact congrArg i64 (Bo (by
               simp only [DMsg.bad, ← eK, ← eH, ← hu, ← hl.heads, ← hl.want, ← hl.blocks, ← hl.votes, ← hl.cuts, ← hl.certs]
               rintro (h | h | h | h | h | h | h | h | h | h | h | h | h | h)
               all_goals first | exact h ‹_› | omega | (simp_all; done))).symm

end Go.Proofs.YtdifpjmfabhpiaaGreat
end

section
namespace Go.Proofs.YtdifpjmfabhpiaaGreat
open Go Hw

def lightOf {D : Type} (f : D → Bool) (ds : List D) (m : Int) : Bool := (!decide (m < (ds.length : Int))) && ds.all f
theorem light_all {D : Type} {f : D → Bool} {ds : List D} (h : ∀ j, j < ds.length → (ds.map f)[j]? = some true) : ds.all f = true := by
  rw [List.all_eq_true]
  intro x hx
  obtain ⟨j, hj, rfl⟩ := List.getElem_of_mem hx
  have := h j hj
  rw [List.getElem?_map, List.getElem?_eq_getElem hj] at this
  simpa using this
theorem light_not {D : Type} {f : D → Bool} {ds : List D} {k : Nat} (h : (ds.map f)[k]? = some false) : ds.all f = false := by
  rw [List.getElem?_map] at h
  obtain ⟨x, hx, hf⟩ := Option.map_eq_some_iff.1 h
  rw [List.all_eq_false]
  exact ⟨x, List.mem_of_getElem? hx, by rw [hf]; simp⟩
theorem light_over {D : Type} {f : D → Bool} {ds : List D} {m : Int} (h : m < (ds.length : Int)) : lightOf f ds m = false := by simp [lightOf, h]
theorem B4 {D : Type} {f : D → Bool} {ds : List D} {m : Int} (h : ¬ m < (ds.length : Int)) : lightOf f ds m = ds.all f := by simp [lightOf, h]
def lightBf (d : DB) : Bool := decide ((d.ls.length : Int) ≤ 40) && decide ((d.ds.length : Int) ≤ 2000)
def lightCf (d : DCut) : Bool := decide ((d.dHeads.length : Int) ≤ 40)
def lightEf (d : DCert) : Bool := decide ((d.dCut.dHeads.length : Int) ≤ 40) && decide ((d.dVotes.length : Int) ≤ 20)

theorem lightd_blocks (s : Sl) (ds : List DB) (m : Int) : Meets Tryz.prog 36 [s.v, i64 m] [] (fun W => BlocksAt W s ds) (fun v out => v = .bool (lightOf lightBf ds m) ∧ out = []) := by
 intro W hW
 obtain ⟨rs, hs⟩ := hW
 have hmax := hs.max
 simp only [maxLen] at hmax
 have hnd := hs.nd
 refine An Tryz.func36 rfl 32 Tryz.ntmps36 rfl ?_
 refine Sat.seq (Sat.region ?_)
 refine Tr.a rfl rfl rfl ?_
 refine Tr.nil (Aa (Sat.seq (Sat.seq (Sat.region ?_))))
 refine Tr.m rfl rfl rfl ?_
 refine Tr.lenSl rfl rfl rfl Y22 ?_
 refine Tr.m rfl rfl rfl ?_
 refine Tr.gtr rfl rfl rfl rfl rfl ?_
 refine Tr.nil (Aa ?_)
 first
  | refine Sat.condP rfl (fun hc0 => ?_) (fun hc0 => ?_)
  | refine Sat.condNP rfl (fun hc0 => ?_) (fun hc0 => ?_)
  | refine Sat.cond rfl (fun hc0 => ?_) (fun hc0 => ?_)
 ·
  refine Sat.seq (Sat.region ?_)
  refine Tr.a rfl rfl rfl ?_
  refine Tr.nil (Aa (Sat.ret (Ap (Ai ?_))))
  refine ⟨_, [], Ae rfl rfl, sP, sP, ?_, rfl⟩
  first
   | exact congrArg Value.bool ((B4 (by rw [hnd]; omega)).trans (light_all (by rw [hnd]; exact hg))).symm
   | exact congrArg Value.bool ((B4 (by rw [hnd]; omega)).trans (light_not (k := k) (by rw [List.getElem?_map, hd]; simp [lightBf]; omega))).symm
   | exact congrArg Value.bool (light_over (by rw [hnd]; omega)).symm
 ·
  refine Sat.skip (Aa (Sat.seq (Sat.seq (Sat.region ?_))))
  refine Tr.a rfl rfl rfl ?_
  refine Tr.nil (Aa (Sat.block ?_))
  refine Sat.loop (ι := Nat) (fun k => ⟨[(0, s.v), (5, i64 (k : Int))], []⟩) (fun k => k ≤ s.n ∧ ∀ j, j < k → (ds.map lightBf)[j]? = some true) (fun k => s.n - k) (0) ?_ ?_ ?_
  · exact ⟨by omega, fun j hj => by omega⟩
  · exact Ar (wk1 rfl (wk1 rfl wk0)) wh0 nD
  ·
   rintro k ⟨hk, hg⟩
   refine Sat.seq (Sat.seq (Sat.region ?_))
   refine Tr.m rfl rfl rfl ?_
   refine Tr.m rfl rfl rfl ?_
   refine Tr.lenSl rfl rfl rfl Y22 ?_
   refine Tr.lss rfl rfl rfl rfl rfl ?_
   refine Tr.nil (Aa ?_)
   first
    | refine Sat.condP rfl (fun hc1 => ?_) (fun hc1 => ?_)
    | refine Sat.condNP rfl (fun hc1 => ?_) (fun hc1 => ?_)
    | refine Sat.cond rfl (fun hc1 => ?_) (fun hc1 => ?_)
   ·
    have hk2 : k < s.n := by omega
    obtain ⟨b, o, r, d, hsp, hr, hd, his, hlen, hsee⟩ := hs.at dE hk2
    have e1 := his.ls.len
    have e2 := his.ds.len
    refine Sat.skip (Aa (Sat.seq (Sat.block (Sat.seq (Sat.region ?_)))))
    refine Tr.m rfl rfl rfl ?_
    refine Tr.m rfl rfl rfl ?_
    refine Tr.idxSlP 131 rfl rfl rfl hsp rfl Y22 Sz79 k rfl oM ?_
    refine Tr.fld rfl rfl rfl Y79 rfl Sz51 dE _ rfl ?_
    refine Tr.loadE rfl rfl rfl Y51 rfl (by first | (simp; done) | (simp; exact hW.2.2) | (simp [Cx.with]; done) | (simp [Cx.with]; omega)) (hsee 65 _ (Block.get_fLinks his.ok)) ?_
    refine Tr.lenSl rfl rfl rfl Y51 ?_
    refine two (fun r hr k => Tr.gtr rfl rfl rfl rfl hr k) (fun hs6_60 => ?_) (fun hs6_60 => ?_)
    ·
     first | have hs6_6 := of_decide_eq_true hs6_60 | have hs6_6 := of_decide_eq_false hs6_60 | have hs6_6 := A0 hs6_60 | have hs6_6 := A1 hs6_60 | have hs6_6 := hs6_60
     refine Tr.m rfl rfl rfl ?_
     refine Tr.skp rfl rfl ?_
     refine Tr.skp rfl rfl ?_
     refine Tr.skp rfl rfl ?_
     refine Tr.skp rfl rfl ?_
     refine Tr.skp rfl rfl ?_
     refine Tr.skp rfl rfl ?_
     refine Tr.skp rfl rfl ?_
     refine Tr.pick rfl rfl rfl rfl rfl rfl ?_
     refine Tr.nil (Aa ?_)
     refine Sat.cond_t rfl rfl ?_
     refine Sat.seq (Sat.region ?_)
     refine Tr.a rfl rfl rfl ?_
     refine Tr.nil (Aa (Sat.ret (B7 (Ap (Ap (B7 (Ap (Ai ?_))))))))
     refine ⟨_, [], Ae rfl rfl, sP, sP, ?_, rfl⟩
     first
      | exact congrArg Value.bool ((B4 (by rw [hnd]; omega)).trans (light_all (by rw [hnd]; exact hg))).symm
      | exact congrArg Value.bool ((B4 (by rw [hnd]; omega)).trans (light_not (k := k) (by rw [List.getElem?_map, hd]; simp [lightBf]; omega))).symm
      | exact congrArg Value.bool (light_over (by rw [hnd]; omega)).symm
    ·
     first | have hs6_6 := of_decide_eq_true hs6_60 | have hs6_6 := of_decide_eq_false hs6_60 | have hs6_6 := A0 hs6_60 | have hs6_6 := A1 hs6_60 | have hs6_6 := hs6_60
     refine Tr.m rfl rfl rfl ?_
     refine Tr.m rfl rfl rfl ?_
     refine Tr.m rfl rfl rfl ?_
     refine Tr.idxSlP 131 rfl rfl rfl hsp rfl Y22 Sz79 k rfl oM ?_
     refine Tr.fld rfl rfl rfl Y79 rfl Sz58 dE _ rfl ?_
     refine Tr.loadE rfl rfl rfl Y58 rfl (by first | (simp; done) | (simp; exact hW.2.2) | (simp [Cx.with]; done) | (simp [Cx.with]; omega)) (hsee 66 _ (Block.get_fData his.ok)) ?_
     refine Tr.lenSl rfl rfl rfl Y58 ?_
     refine Tr.gtr rfl rfl rfl rfl rfl ?_
     refine Tr.pick rfl rfl rfl rfl rfl rfl ?_
     refine Tr.nil (Aa ?_)
     first
      | refine Sat.condP rfl (fun hc2 => ?_) (fun hc2 => ?_)
      | refine Sat.condNP rfl (fun hc2 => ?_) (fun hc2 => ?_)
      | refine Sat.cond rfl (fun hc2 => ?_) (fun hc2 => ?_)
     ·
      refine Sat.seq (Sat.region ?_)
      refine Tr.a rfl rfl rfl ?_
      refine Tr.nil (Aa (Sat.ret (B7 (Ap (Ap (B7 (Ap (Ai ?_))))))))
      refine ⟨_, [], Ae rfl rfl, sP, sP, ?_, rfl⟩
      first
       | exact congrArg Value.bool ((B4 (by rw [hnd]; omega)).trans (light_all (by rw [hnd]; exact hg))).symm
       | exact congrArg Value.bool ((B4 (by rw [hnd]; omega)).trans (light_not (k := k) (by rw [List.getElem?_map, hd]; simp [lightBf]; omega))).symm
       | exact congrArg Value.bool (light_over (by rw [hnd]; omega)).symm
     ·
      refine Sat.skip (Cc (Aa (Sat.region ?_)))
      refine Tr.m rfl rfl rfl ?_
      refine Tr.aI rfl rfl rfl rfl oM ?_
      refine Tr.a rfl rfl rfl ?_
      refine Tr.nil (Aa ?_)
      exact ⟨k + 1, ⟨by omega, fun j hj => by rcases Nat.lt_succ_iff_lt_or_eq.1 hj with h | rfl; exact hg j h; exact (by rw [List.getElem?_map, hd]; simp [lightBf]; omega)⟩, by omega, Ar (wk1 rfl (wk1 rfl wk0)) wh0 nD⟩
   ·
    obtain rfl : k = s.n := by omega
    refine Sat.exit (Bi (Bi (bl_h (Aa (Sat.seq (Sat.region ?_))))))
    refine Tr.a rfl rfl rfl ?_
    refine Tr.nil (Aa (Sat.ret (Ai ?_)))
    refine ⟨_, [], Ae rfl rfl, sP, sP, ?_, rfl⟩
    first
     | exact congrArg Value.bool ((B4 (by rw [hnd]; omega)).trans (light_all (by rw [hnd]; exact hg))).symm
     | exact congrArg Value.bool ((B4 (by rw [hnd]; omega)).trans (light_not (k := k) (by rw [List.getElem?_map, hd]; simp [lightBf]; omega))).symm
     | exact congrArg Value.bool (light_over (by rw [hnd]; omega)).symm

theorem lightd_cuts (s : Sl) (ds : List DCut) (m : Int) : Meets Tryz.prog 48 [s.v, i64 m] [] (fun W => CutsAt W s ds) (fun v out => v = .bool (lightOf lightCf ds m) ∧ out = []) := by
 intro W hW
 obtain ⟨rs, hs⟩ := hW
 have hmax := hs.max
 simp only [maxLen] at hmax
 have hnd := hs.nd
 refine An Tryz.func48 rfl 23 Tryz.ntmps48 rfl ?_
 refine Sat.seq (Sat.region ?_)
 refine Tr.a rfl rfl rfl ?_
 refine Tr.nil (Aa (Sat.seq (Sat.seq (Sat.region ?_))))
 refine Tr.m rfl rfl rfl ?_
 refine Tr.lenSl rfl rfl rfl Y25 ?_
 refine Tr.m rfl rfl rfl ?_
 refine Tr.gtr rfl rfl rfl rfl rfl ?_
 refine Tr.nil (Aa ?_)
 first
  | refine Sat.condP rfl (fun hc0 => ?_) (fun hc0 => ?_)
  | refine Sat.condNP rfl (fun hc0 => ?_) (fun hc0 => ?_)
  | refine Sat.cond rfl (fun hc0 => ?_) (fun hc0 => ?_)
 ·
  refine Sat.seq (Sat.region ?_)
  refine Tr.a rfl rfl rfl ?_
  refine Tr.nil (Aa (Sat.ret (Ap (Ai ?_))))
  refine ⟨_, [], Ae rfl rfl, sP, sP, ?_, rfl⟩
  first
   | exact congrArg Value.bool ((B4 (by rw [hnd]; omega)).trans (light_all (by rw [hnd]; exact hg))).symm
   | exact congrArg Value.bool ((B4 (by rw [hnd]; omega)).trans (light_not (k := k) (by rw [List.getElem?_map, hd]; simp [lightCf]; omega))).symm
   | exact congrArg Value.bool (light_over (by rw [hnd]; omega)).symm
 ·
  refine Sat.skip (Aa (Sat.seq (Sat.seq (Sat.region ?_))))
  refine Tr.a rfl rfl rfl ?_
  refine Tr.nil (Aa (Sat.block ?_))
  refine Sat.loop (ι := Nat) (fun k => ⟨[(0, s.v), (5, i64 (k : Int))], []⟩) (fun k => k ≤ s.n ∧ ∀ j, j < k → (ds.map lightCf)[j]? = some true) (fun k => s.n - k) (0) ?_ ?_ ?_
  · exact ⟨by omega, fun j hj => by omega⟩
  · exact Ar (wk1 rfl (wk1 rfl wk0)) wh0 nD
  ·
   rintro k ⟨hk, hg⟩
   refine Sat.seq (Sat.seq (Sat.region ?_))
   refine Tr.m rfl rfl rfl ?_
   refine Tr.m rfl rfl rfl ?_
   refine Tr.lenSl rfl rfl rfl Y25 ?_
   refine Tr.lss rfl rfl rfl rfl rfl ?_
   refine Tr.nil (Aa ?_)
   first
    | refine Sat.condP rfl (fun hc1 => ?_) (fun hc1 => ?_)
    | refine Sat.condNP rfl (fun hc1 => ?_) (fun hc1 => ?_)
    | refine Sat.cond rfl (fun hc1 => ?_) (fun hc1 => ?_)
   ·
    have hk2 : k < s.n := by omega
    obtain ⟨b, o, r, d, hsp, hr, hd, his, hlen, hsee⟩ := hs.at dE hk2
    have e1 := his.fHeads.len
    refine Sat.skip (Aa (Sat.seq (Sat.block (Sat.seq (Sat.region ?_)))))
    refine Tr.m rfl rfl rfl ?_
    refine Tr.m rfl rfl rfl ?_
    refine Tr.idxSlP 34 rfl rfl rfl hsp rfl Y25 Sz53 k rfl oM ?_
    refine Tr.fld rfl rfl rfl Y53 rfl Sz51 dE _ rfl ?_
    refine Tr.loadE rfl rfl rfl Y51 rfl (by first | (simp; done) | (simp; exact hW.2.2) | (simp [Cx.with]; done) | (simp [Cx.with]; omega)) (hsee 33 _ (Cut.get_fHeads his.ok)) ?_
    refine Tr.lenSl rfl rfl rfl Y51 ?_
    refine Tr.gtr rfl rfl rfl rfl rfl ?_
    refine Tr.nil (Aa ?_)
    first
     | refine Sat.condP rfl (fun hc2 => ?_) (fun hc2 => ?_)
     | refine Sat.condNP rfl (fun hc2 => ?_) (fun hc2 => ?_)
     | refine Sat.cond rfl (fun hc2 => ?_) (fun hc2 => ?_)
    ·
     refine Sat.seq (Sat.region ?_)
     refine Tr.a rfl rfl rfl ?_
     refine Tr.nil (Aa (Sat.ret (B7 (Ap (Ap (B7 (Ap (Ai ?_))))))))
     refine ⟨_, [], Ae rfl rfl, sP, sP, ?_, rfl⟩
     first
      | exact congrArg Value.bool ((B4 (by rw [hnd]; omega)).trans (light_all (by rw [hnd]; exact hg))).symm
      | exact congrArg Value.bool ((B4 (by rw [hnd]; omega)).trans (light_not (k := k) (by rw [List.getElem?_map, hd]; simp [lightCf]; omega))).symm
      | exact congrArg Value.bool (light_over (by rw [hnd]; omega)).symm
    ·
     refine Sat.skip (Cc (Aa (Sat.region ?_)))
     refine Tr.m rfl rfl rfl ?_
     refine Tr.aI rfl rfl rfl rfl oM ?_
     refine Tr.a rfl rfl rfl ?_
     refine Tr.nil (Aa ?_)
     exact ⟨k + 1, ⟨by omega, fun j hj => by rcases Nat.lt_succ_iff_lt_or_eq.1 hj with h | rfl; exact hg j h; exact (by rw [List.getElem?_map, hd]; simp [lightCf]; omega)⟩, by omega, Ar (wk1 rfl (wk1 rfl wk0)) wh0 nD⟩
   ·
    obtain rfl : k = s.n := by omega
    refine Sat.exit (Bi (Bi (bl_h (Aa (Sat.seq (Sat.region ?_))))))
    refine Tr.a rfl rfl rfl ?_
    refine Tr.nil (Aa (Sat.ret (Ai ?_)))
    refine ⟨_, [], Ae rfl rfl, sP, sP, ?_, rfl⟩
    first
     | exact congrArg Value.bool ((B4 (by rw [hnd]; omega)).trans (light_all (by rw [hnd]; exact hg))).symm
     | exact congrArg Value.bool ((B4 (by rw [hnd]; omega)).trans (light_not (k := k) (by rw [List.getElem?_map, hd]; simp [lightCf]; omega))).symm
     | exact congrArg Value.bool (light_over (by rw [hnd]; omega)).symm

theorem lightd_certs (s : Sl) (ds : List DCert) (m : Int) : Meets Tryz.prog 24 [s.v, i64 m] [] (fun W => CertsAt W s ds) (fun v out => v = .bool (lightOf lightEf ds m) ∧ out = []) := by
 intro W hW
 obtain ⟨rs, hs⟩ := hW
 have hmax := hs.max
 simp only [maxLen] at hmax
 have hnd := hs.nd
 refine An Tryz.func24 rfl 33 Tryz.ntmps24 rfl ?_
 refine Sat.seq (Sat.region ?_)
 refine Tr.a rfl rfl rfl ?_
 refine Tr.nil (Aa (Sat.seq (Sat.seq (Sat.region ?_))))
 refine Tr.m rfl rfl rfl ?_
 refine Tr.lenSl rfl rfl rfl Y23 ?_
 refine Tr.m rfl rfl rfl ?_
 refine Tr.gtr rfl rfl rfl rfl rfl ?_
 refine Tr.nil (Aa ?_)
 first
  | refine Sat.condP rfl (fun hc0 => ?_) (fun hc0 => ?_)
  | refine Sat.condNP rfl (fun hc0 => ?_) (fun hc0 => ?_)
  | refine Sat.cond rfl (fun hc0 => ?_) (fun hc0 => ?_)
 ·
  refine Sat.seq (Sat.region ?_)
  refine Tr.a rfl rfl rfl ?_
  refine Tr.nil (Aa (Sat.ret (Ap (Ai ?_))))
  refine ⟨_, [], Ae rfl rfl, sP, sP, ?_, rfl⟩
  first
   | exact congrArg Value.bool ((B4 (by rw [hnd]; omega)).trans (light_all (by rw [hnd]; exact hg))).symm
   | exact congrArg Value.bool ((B4 (by rw [hnd]; omega)).trans (light_not (k := k) (by rw [List.getElem?_map, hd]; simp [lightEf]; omega))).symm
   | exact congrArg Value.bool (light_over (by rw [hnd]; omega)).symm
 ·
  refine Sat.skip (Aa (Sat.seq (Sat.seq (Sat.region ?_))))
  refine Tr.a rfl rfl rfl ?_
  refine Tr.nil (Aa (Sat.block ?_))
  refine Sat.loop (ι := Nat) (fun k => ⟨[(0, s.v), (5, i64 (k : Int))], []⟩) (fun k => k ≤ s.n ∧ ∀ j, j < k → (ds.map lightEf)[j]? = some true) (fun k => s.n - k) (0) ?_ ?_ ?_
  · exact ⟨by omega, fun j hj => by omega⟩
  · exact Ar (wk1 rfl (wk1 rfl wk0)) wh0 nD
  ·
   rintro k ⟨hk, hg⟩
   refine Sat.seq (Sat.seq (Sat.region ?_))
   refine Tr.m rfl rfl rfl ?_
   refine Tr.m rfl rfl rfl ?_
   refine Tr.lenSl rfl rfl rfl Y23 ?_
   refine Tr.lss rfl rfl rfl rfl rfl ?_
   refine Tr.nil (Aa ?_)
   first
    | refine Sat.condP rfl (fun hc1 => ?_) (fun hc1 => ?_)
    | refine Sat.condNP rfl (fun hc1 => ?_) (fun hc1 => ?_)
    | refine Sat.cond rfl (fun hc1 => ?_) (fun hc1 => ?_)
   ·
    have hk2 : k < s.n := by omega
    obtain ⟨b, o, r, d, hsp, hr, hd, his, hlen, hsee⟩ := hs.at dE hk2
    have e1 := his.fCut.fHeads.len
    obtain ⟨_, hvs⟩ := his.fVotes
    have e2 := hvs.nd
    refine Sat.skip (Aa (Sat.seq (Sat.block (Sat.seq (Sat.region ?_)))))
    refine Tr.m rfl rfl rfl ?_
    refine Tr.m rfl rfl rfl ?_
    refine Tr.idxSlP 35 rfl rfl rfl hsp rfl Y23 Sz55 k rfl oM ?_
    refine Tr.fld rfl rfl rfl Y55 rfl Sz53 dE _ rfl ?_
    refine Tr.fld rfl rfl rfl Y53 rfl Sz51 dE _ rfl ?_
    refine Tr.loadE rfl rfl rfl Y51 rfl (by first | (simp; done) | (simp; exact hW.2.2) | (simp [Cx.with]; done) | (simp [Cx.with]; omega)) (hsee 33 _ (Cert.see_fCut his.ok 33 _ (Cut.get_fHeads his.ok.o_fCut))) ?_
    refine Tr.lenSl rfl rfl rfl Y51 ?_
    refine two (fun r hr k => Tr.gtr rfl rfl rfl rfl hr k) (fun hs6_70 => ?_) (fun hs6_70 => ?_)
    ·
     first | have hs6_7 := of_decide_eq_true hs6_70 | have hs6_7 := of_decide_eq_false hs6_70 | have hs6_7 := A0 hs6_70 | have hs6_7 := A1 hs6_70 | have hs6_7 := hs6_70
     refine Tr.m rfl rfl rfl ?_
     refine Tr.skp rfl rfl ?_
     refine Tr.skp rfl rfl ?_
     refine Tr.skp rfl rfl ?_
     refine Tr.skp rfl rfl ?_
     refine Tr.skp rfl rfl ?_
     refine Tr.skp rfl rfl ?_
     refine Tr.skp rfl rfl ?_
     refine Tr.pick rfl rfl rfl rfl rfl rfl ?_
     refine Tr.nil (Aa ?_)
     refine Sat.cond_t rfl rfl ?_
     refine Sat.seq (Sat.region ?_)
     refine Tr.a rfl rfl rfl ?_
     refine Tr.nil (Aa (Sat.ret (B7 (Ap (Ap (B7 (Ap (Ai ?_))))))))
     refine ⟨_, [], Ae rfl rfl, sP, sP, ?_, rfl⟩
     first
      | exact congrArg Value.bool ((B4 (by rw [hnd]; omega)).trans (light_all (by rw [hnd]; exact hg))).symm
      | exact congrArg Value.bool ((B4 (by rw [hnd]; omega)).trans (light_not (k := k) (by rw [List.getElem?_map, hd]; simp [lightEf]; omega))).symm
      | exact congrArg Value.bool (light_over (by rw [hnd]; omega)).symm
    ·
     first | have hs6_7 := of_decide_eq_true hs6_70 | have hs6_7 := of_decide_eq_false hs6_70 | have hs6_7 := A0 hs6_70 | have hs6_7 := A1 hs6_70 | have hs6_7 := hs6_70
     refine Tr.m rfl rfl rfl ?_
     refine Tr.m rfl rfl rfl ?_
     refine Tr.m rfl rfl rfl ?_
     refine Tr.idxSlP 35 rfl rfl rfl hsp rfl Y23 Sz55 k rfl oM ?_
     refine Tr.fld rfl rfl rfl Y55 rfl Sz24 dE _ rfl ?_
     refine Tr.loadE rfl rfl rfl Y24 rfl (by first | (simp; done) | (simp; exact hW.2.2) | (simp [Cx.with]; done) | (simp [Cx.with]; omega)) (hsee 34 _ (Cert.get_fVotes his.ok)) ?_
     refine Tr.lenSl rfl rfl rfl Y24 ?_
     refine Tr.gtr rfl rfl rfl rfl rfl ?_
     refine Tr.pick rfl rfl rfl rfl rfl rfl ?_
     refine Tr.nil (Aa ?_)
     first
      | refine Sat.condP rfl (fun hc2 => ?_) (fun hc2 => ?_)
      | refine Sat.condNP rfl (fun hc2 => ?_) (fun hc2 => ?_)
      | refine Sat.cond rfl (fun hc2 => ?_) (fun hc2 => ?_)
     ·
      refine Sat.seq (Sat.region ?_)
      refine Tr.a rfl rfl rfl ?_
      refine Tr.nil (Aa (Sat.ret (B7 (Ap (Ap (B7 (Ap (Ai ?_))))))))
      refine ⟨_, [], Ae rfl rfl, sP, sP, ?_, rfl⟩
      first
       | exact congrArg Value.bool ((B4 (by rw [hnd]; omega)).trans (light_all (by rw [hnd]; exact hg))).symm
       | exact congrArg Value.bool ((B4 (by rw [hnd]; omega)).trans (light_not (k := k) (by rw [List.getElem?_map, hd]; simp [lightEf]; omega))).symm
       | exact congrArg Value.bool (light_over (by rw [hnd]; omega)).symm
     ·
      refine Sat.skip (Cc (Aa (Sat.region ?_)))
      refine Tr.m rfl rfl rfl ?_
      refine Tr.aI rfl rfl rfl rfl oM ?_
      refine Tr.a rfl rfl rfl ?_
      refine Tr.nil (Aa ?_)
      exact ⟨k + 1, ⟨by omega, fun j hj => by rcases Nat.lt_succ_iff_lt_or_eq.1 hj with h | rfl; exact hg j h; exact (by rw [List.getElem?_map, hd]; simp [lightEf]; omega)⟩, by omega, Ar (wk1 rfl (wk1 rfl wk0)) wh0 nD⟩
   ·
    obtain rfl : k = s.n := by omega
    refine Sat.exit (Bi (Bi (bl_h (Aa (Sat.seq (Sat.region ?_))))))
    refine Tr.a rfl rfl rfl ?_
    refine Tr.nil (Aa (Sat.ret (Ai ?_)))
    refine ⟨_, [], Ae rfl rfl, sP, sP, ?_, rfl⟩
    first
     | exact congrArg Value.bool ((B4 (by rw [hnd]; omega)).trans (light_all (by rw [hnd]; exact hg))).symm
     | exact congrArg Value.bool ((B4 (by rw [hnd]; omega)).trans (light_not (k := k) (by rw [List.getElem?_map, hd]; simp [lightEf]; omega))).symm
     | exact congrArg Value.bool (light_over (by rw [hnd]; omega)).symm

end Go.Proofs.YtdifpjmfabhpiaaGreat
end

section
namespace Go.Proofs.YtdifpjmfabhpiaaGreat
open Go Hw

def DMsg.light (D : DMsg) : Bool := decide ((D.dHeads.length : Int) ≤ 40) && (decide ((D.dWant.length : Int) ≤ 40) && (lightOf lightBf D.dBlocks 10 && (decide ((D.dVotes.length : Int) ≤ 20) && (lightOf lightCf D.dCuts 6 && lightOf lightEf D.dCerts 4))))

theorem light_msg (m : Msg) (D : DMsg) : Meets Tryz.prog 25 [agg m.cells] [] (fun W => MsgIs W m D) (fun v out => v = .bool D.light ∧ out = []) := by
 intro W hW
 have hok := hW.ok
 have hl := hW.len
 refine An Tryz.func25 rfl 34 Tryz.ntmps25 rfl ?_
 refine Sat.seq (Sat.region ?_)
 refine Tr.boxA rfl rfl ?_
 intro n1 hn1 hf1
 refine Tr.a rfl rfl rfl ?_
 refine Tr.nil (Aa (Sat.seq (Sat.region ?_)))
 refine Tr.fld rfl rfl rfl Y57 rfl Sz51 dE _ rfl ?_
 refine Tr.load1 rfl rfl rfl Y51 rfl mM (by first | exact Msg.get_fHeads (by first | exact oK  | exact hok) | exact vL) ?_
 refine Tr.lenSl rfl rfl rfl Y51 ?_
 refine two (fun r hr k => Tr.leq rfl rfl rfl rfl hr k) (fun hs1_30 => ?_) (fun hs1_30 => ?_)
 ·
  first | have hs1_3 := of_decide_eq_true hs1_30 | have hs1_3 := of_decide_eq_false hs1_30 | have hs1_3 := A0 hs1_30 | have hs1_3 := A1 hs1_30 | have hs1_3 := hs1_30
  refine Tr.m rfl rfl rfl ?_
  refine Tr.fld rfl rfl rfl Y57 rfl Sz51 dE _ rfl ?_
  refine Tr.load1 rfl rfl rfl Y51 rfl mM (by first | exact Msg.get_fWant (by first | exact oK  | exact hok) | exact vL) ?_
  refine Tr.lenSl rfl rfl rfl Y51 ?_
  refine two (fun r hr k => Tr.leq rfl rfl rfl rfl hr k) (fun hs1_80 => ?_) (fun hs1_80 => ?_)
  ·
   first | have hs1_8 := of_decide_eq_true hs1_80 | have hs1_8 := of_decide_eq_false hs1_80 | have hs1_8 := A0 hs1_80 | have hs1_8 := A1 hs1_80 | have hs1_8 := hs1_80
   refine Tr.pick rfl rfl rfl rfl rfl rfl ?_
   refine Tr.m rfl rfl rfl ?_
   refine Tr.fld rfl rfl rfl Y57 rfl Sz22 dE _ rfl ?_
   refine Tr.load1 rfl rfl rfl Y22 rfl mM (by first | exact Msg.get_fBlocks (by first | exact oK  | exact hok) | exact vL) ?_
   refine Tr.callB rfl rfl rfl rfl Body36 (lightd_blocks m.fBlocks D.dBlocks 10) (fun w h => Blocks_ext h rfl hW.fBlocks) (fun hs1_130 => ?_) (fun hs1_130 => ?_)
   ·
    first | have hs1_13 := of_decide_eq_true hs1_130 | have hs1_13 := of_decide_eq_false hs1_130 | have hs1_13 := A0 hs1_130 | have hs1_13 := A1 hs1_130 | have hs1_13 := hs1_130
    refine Tr.pick rfl rfl rfl rfl rfl rfl ?_
    refine Tr.m rfl rfl rfl ?_
    refine Tr.fld rfl rfl rfl Y57 rfl Sz24 dE _ rfl ?_
    refine Tr.load1 rfl rfl rfl Y24 rfl mM (by first | exact Msg.get_fVotes (by first | exact oK  | exact hok) | exact vL) ?_
    refine Tr.lenSl rfl rfl rfl Y24 ?_
    refine two (fun r hr k => Tr.leq rfl rfl rfl rfl hr k) (fun hs1_190 => ?_) (fun hs1_190 => ?_)
    ·
     first | have hs1_19 := of_decide_eq_true hs1_190 | have hs1_19 := of_decide_eq_false hs1_190 | have hs1_19 := A0 hs1_190 | have hs1_19 := A1 hs1_190 | have hs1_19 := hs1_190
     refine Tr.pick rfl rfl rfl rfl rfl rfl ?_
     refine Tr.m rfl rfl rfl ?_
     refine Tr.fld rfl rfl rfl Y57 rfl Sz25 dE _ rfl ?_
     refine Tr.load1 rfl rfl rfl Y25 rfl mM (by first | exact Msg.get_fCuts (by first | exact oK  | exact hok) | exact vL) ?_
     refine Tr.callB rfl rfl rfl rfl Body48 (lightd_cuts m.fCuts D.dCuts 6) (fun w h => Cuts_ext h rfl hW.fCuts) (fun hs1_240 => ?_) (fun hs1_240 => ?_)
     ·
      first | have hs1_24 := of_decide_eq_true hs1_240 | have hs1_24 := of_decide_eq_false hs1_240 | have hs1_24 := A0 hs1_240 | have hs1_24 := A1 hs1_240 | have hs1_24 := hs1_240
      refine Tr.pick rfl rfl rfl rfl rfl rfl ?_
      refine Tr.m rfl rfl rfl ?_
      refine Tr.fld rfl rfl rfl Y57 rfl Sz23 dE _ rfl ?_
      refine Tr.load1 rfl rfl rfl Y23 rfl mM (by first | exact Msg.get_fCerts (by first | exact oK  | exact hok) | exact vL) ?_
      refine Tr.cV rfl rfl rfl rfl Body24 (lightd_certs m.fCerts D.dCerts 4) (fun w h => Certs_ext h rfl hW.fCerts) ?_
      refine Tr.pick rfl rfl rfl rfl rfl rfl ?_
      refine Tr.a rfl rfl rfl ?_
      refine Tr.nil (Aa (Sat.ret (Ai ?_)))
      refine ⟨_, [], Ae rfl rfl, sP, sP, ?_, rfl⟩
      refine congrArg Value.bool ?_
      simp only [DMsg.light, ← hl.heads, ← hl.want, ← hl.votes]
      first
       | (simp [*]; done)
       | (simp_all; done)
     ·
      first | have hs1_24 := of_decide_eq_true hs1_240 | have hs1_24 := of_decide_eq_false hs1_240 | have hs1_24 := A0 hs1_240 | have hs1_24 := A1 hs1_240 | have hs1_24 := hs1_240
      refine Tr.pick rfl rfl rfl rfl rfl rfl ?_
      refine Tr.m rfl rfl rfl ?_
      refine Tr.skp rfl rfl ?_
      refine Tr.skp rfl rfl ?_
      refine Tr.skp rfl rfl ?_
      refine Tr.pick rfl rfl rfl rfl rfl rfl ?_
      refine Tr.a rfl rfl rfl ?_
      refine Tr.nil (Aa (Sat.ret (Ai ?_)))
      refine ⟨_, [], Ae rfl rfl, sP, sP, ?_, rfl⟩
      refine congrArg Value.bool ?_
      simp only [DMsg.light, ← hl.heads, ← hl.want, ← hl.votes]
      first
       | (simp [*]; done)
       | (simp_all; done)
    ·
     first | have hs1_19 := of_decide_eq_true hs1_190 | have hs1_19 := of_decide_eq_false hs1_190 | have hs1_19 := A0 hs1_190 | have hs1_19 := A1 hs1_190 | have hs1_19 := hs1_190
     refine Tr.pick rfl rfl rfl rfl rfl rfl ?_
     refine Tr.m rfl rfl rfl ?_
     refine Tr.skp rfl rfl ?_
     refine Tr.skp rfl rfl ?_
     refine Tr.skp rfl rfl ?_
     refine Tr.pick rfl rfl rfl rfl rfl rfl ?_
     refine Tr.m rfl rfl rfl ?_
     refine Tr.skp rfl rfl ?_
     refine Tr.skp rfl rfl ?_
     refine Tr.skp rfl rfl ?_
     refine Tr.pick rfl rfl rfl rfl rfl rfl ?_
     refine Tr.a rfl rfl rfl ?_
     refine Tr.nil (Aa (Sat.ret (Ai ?_)))
     refine ⟨_, [], Ae rfl rfl, sP, sP, ?_, rfl⟩
     refine congrArg Value.bool ?_
     simp only [DMsg.light, ← hl.heads, ← hl.want, ← hl.votes]
     first
      | (simp [*]; done)
      | (simp_all; done)
   ·
    first | have hs1_13 := of_decide_eq_true hs1_130 | have hs1_13 := of_decide_eq_false hs1_130 | have hs1_13 := A0 hs1_130 | have hs1_13 := A1 hs1_130 | have hs1_13 := hs1_130
    refine Tr.pick rfl rfl rfl rfl rfl rfl ?_
    refine Tr.m rfl rfl rfl ?_
    refine Tr.skp rfl rfl ?_
    refine Tr.skp rfl rfl ?_
    refine Tr.skp rfl rfl ?_
    refine Tr.skp rfl rfl ?_
    refine Tr.pick rfl rfl rfl rfl rfl rfl ?_
    refine Tr.m rfl rfl rfl ?_
    refine Tr.skp rfl rfl ?_
    refine Tr.skp rfl rfl ?_
    refine Tr.skp rfl rfl ?_
    refine Tr.pick rfl rfl rfl rfl rfl rfl ?_
    refine Tr.m rfl rfl rfl ?_
    refine Tr.skp rfl rfl ?_
    refine Tr.skp rfl rfl ?_
    refine Tr.skp rfl rfl ?_
    refine Tr.pick rfl rfl rfl rfl rfl rfl ?_
    refine Tr.a rfl rfl rfl ?_
    refine Tr.nil (Aa (Sat.ret (Ai ?_)))
    refine ⟨_, [], Ae rfl rfl, sP, sP, ?_, rfl⟩
    refine congrArg Value.bool ?_
    simp only [DMsg.light, ← hl.heads, ← hl.want, ← hl.votes]
    first
     | (simp [*]; done)
     | (simp_all; done)
  ·
   first | have hs1_8 := of_decide_eq_true hs1_80 | have hs1_8 := of_decide_eq_false hs1_80 | have hs1_8 := A0 hs1_80 | have hs1_8 := A1 hs1_80 | have hs1_8 := hs1_80
   refine Tr.pick rfl rfl rfl rfl rfl rfl ?_
   refine Tr.m rfl rfl rfl ?_
   refine Tr.skp rfl rfl ?_
   refine Tr.skp rfl rfl ?_
   refine Tr.skp rfl rfl ?_
   refine Tr.pick rfl rfl rfl rfl rfl rfl ?_
   refine Tr.m rfl rfl rfl ?_
   refine Tr.skp rfl rfl ?_
   refine Tr.skp rfl rfl ?_
   refine Tr.skp rfl rfl ?_
   refine Tr.skp rfl rfl ?_
   refine Tr.pick rfl rfl rfl rfl rfl rfl ?_
   refine Tr.m rfl rfl rfl ?_
   refine Tr.skp rfl rfl ?_
   refine Tr.skp rfl rfl ?_
   refine Tr.skp rfl rfl ?_
   refine Tr.pick rfl rfl rfl rfl rfl rfl ?_
   refine Tr.m rfl rfl rfl ?_
   refine Tr.skp rfl rfl ?_
   refine Tr.skp rfl rfl ?_
   refine Tr.skp rfl rfl ?_
   refine Tr.pick rfl rfl rfl rfl rfl rfl ?_
   refine Tr.a rfl rfl rfl ?_
   refine Tr.nil (Aa (Sat.ret (Ai ?_)))
   refine ⟨_, [], Ae rfl rfl, sP, sP, ?_, rfl⟩
   refine congrArg Value.bool ?_
   simp only [DMsg.light, ← hl.heads, ← hl.want, ← hl.votes]
   first
    | (simp [*]; done)
    | (simp_all; done)
 ·
  first | have hs1_3 := of_decide_eq_true hs1_30 | have hs1_3 := of_decide_eq_false hs1_30 | have hs1_3 := A0 hs1_30 | have hs1_3 := A1 hs1_30 | have hs1_3 := hs1_30
  refine Tr.m rfl rfl rfl ?_
  refine Tr.skp rfl rfl ?_
  refine Tr.skp rfl rfl ?_
  refine Tr.skp rfl rfl ?_
  refine Tr.skp rfl rfl ?_
  refine Tr.pick rfl rfl rfl rfl rfl rfl ?_
  refine Tr.m rfl rfl rfl ?_
  refine Tr.skp rfl rfl ?_
  refine Tr.skp rfl rfl ?_
  refine Tr.skp rfl rfl ?_
  refine Tr.pick rfl rfl rfl rfl rfl rfl ?_
  refine Tr.m rfl rfl rfl ?_
  refine Tr.skp rfl rfl ?_
  refine Tr.skp rfl rfl ?_
  refine Tr.skp rfl rfl ?_
  refine Tr.skp rfl rfl ?_
  refine Tr.pick rfl rfl rfl rfl rfl rfl ?_
  refine Tr.m rfl rfl rfl ?_
  refine Tr.skp rfl rfl ?_
  refine Tr.skp rfl rfl ?_
  refine Tr.skp rfl rfl ?_
  refine Tr.pick rfl rfl rfl rfl rfl rfl ?_
  refine Tr.m rfl rfl rfl ?_
  refine Tr.skp rfl rfl ?_
  refine Tr.skp rfl rfl ?_
  refine Tr.skp rfl rfl ?_
  refine Tr.pick rfl rfl rfl rfl rfl rfl ?_
  refine Tr.a rfl rfl rfl ?_
  refine Tr.nil (Aa (Sat.ret (Ai ?_)))
  refine ⟨_, [], Ae rfl rfl, sP, sP, ?_, rfl⟩
  refine congrArg Value.bool ?_
  simp only [DMsg.light, ← hl.heads, ← hl.want, ← hl.votes]
  first
   | (simp [*]; done)
   | (simp_all; done)

end Go.Proofs.YtdifpjmfabhpiaaGreat
end

section
namespace Go.Proofs.YtdifpjmfabhpiaaGreat
open Go Hw

theorem pm_in1 {hp l R X : List Blk} {x : Blk} (h : hp.Perm ((x :: (X ++ l)) ++ R)) : hp.Perm ((([x] ++ X) ++ l) ++ R) := h
theorem pm_in2 {hp l R X : List Blk} {x y : Blk} (h : hp.Perm ((x :: y :: (X ++ l)) ++ R)) : hp.Perm ((([x, y] ++ X) ++ l) ++ R) := h
theorem take_snoc {D : Type} {ds : List D} {k : Nat} {d : D} (h : ds[k]? = some d) : ds.take (k + 1) = ds.take k ++ [d] := by
  obtain ⟨hk, rfl⟩ := List.getElem?_eq_some_iff.1 h
  rw [List.take_succ_eq_append_getElem hk]
theorem owned_is {W : World} {B : Block} {D : DB} {q1 c1 q2 c2 : Nat} (h : BlockIs W B D) (h1 : B.fLinks.n ≤ c1) (h2 : B.fData.n ≤ c2) (n1 : B.fLinks.n ≤ 1000000) (n2 : B.fData.n ≤ 1000000) : ∀ W2, Lies [⟨q2, Ab D.ds, 5, c2 * 1⟩, ⟨q1, Cb D.ls, 50, c1 * 32⟩] W2 → BlockIs W2 (ownB B q1 c1 q2 c2) D := fun W2 hl => by
  have a1 : Acc ⟨some ⟨q1, 0, none⟩, B.fLinks.n, c1⟩ [⟨q1, Cb D.ls, 50, c1 * 32⟩] (Cb D.ls) 50 B.fLinks.n 32 := Acc.some h1 (by rw [Ca h.ls.row, h.ls.len])
  have a2 : Acc ⟨some ⟨q2, 0, none⟩, B.fData.n, c2⟩ [⟨q2, Ab D.ds, 5, c2 * 1⟩] (Ab D.ds) 5 B.fData.n 1 := Acc.some h2 (by rw [Ab, List.length_map, h.ds.len, Nat.mul_one])
  exact ⟨ownB_ok h.ok _ _ _ _, h.w, h.seq, h.prev, acc_rows a1 (hl.sub (by intro b hb; rw [List.mem_singleton.1 hb]; exact List.mem_cons_of_mem _ List.mem_cons_self)) h.ls.row h.ls.len n1, acc_bytes a2 (hl.sub (by intro b hb; rw [List.mem_singleton.1 hb]; exact List.mem_cons_self)) h.ds.len n2, h.sg⟩

theorem kit_own_blocks (s : Sl) (ds : List DB) (hn : s.n ≤ 1000) (hsm : ∀ d ∈ ds, d.ls.length ≤ 500000 ∧ d.ds.length ≤ 500000) : Meets Tryz.prog 72 [s.v] [] (fun W => BlocksAt W s ds) (fun v out => ∃ sl bl bl2 rs, v = sl.v ∧ out = bl ++ bl2 ∧ OwnSeq Block.cells 131 BlockIs 79 sl bl bl2 rs ds s.n) := by
 intro W hW
 obtain ⟨rs, hs⟩ := hW
 have hnd := hs.nd
 refine An Tryz.func72 rfl 20 Tryz.ntmps72 rfl ?_
 refine Sat.seq (Sat.region ?_)
 refine Tr.a rfl rfl rfl ?_
 refine Tr.nil (Aa (Sat.seq (Sat.region ?_)))
 refine Tr.a rfl rfl rfl ?_
 refine Tr.nil (Aa (Sat.seq (Sat.seq (Sat.region ?_))))
 refine Tr.a rfl rfl rfl ?_
 refine Tr.nil (Aa (Sat.block ?_))
 refine Sat.loop (ι := Nat × Sl × List Blk × List Blk × List Block) (fun p => ⟨[(0, s.v), (3, p.2.1.v), (4, i64 (p.1 : Int))], (p.2.2.1 ++ (p.2.2.2.1 ++ []))⟩) (fun p => p.1 ≤ s.n ∧ OwnSeq Block.cells 131 BlockIs 79 p.2.1 p.2.2.1 p.2.2.2.1 p.2.2.2.2 (ds.take p.1) p.1) (fun p => s.n - p.1) ((0, Sl.nil, [], [], [])) ?_ ?_ ?_
 · exact ⟨Nat.zero_le _, OwnSeq.none⟩
 · exact Af (wk1 rfl (wk1 rfl (wk1 rfl wk0))) (Aj sG (Aj sG Ad))
 ·
  rintro p ⟨hk, hos⟩
  refine Sat.seq (Sat.seq (Sat.region ?_))
  refine Tr.m rfl rfl rfl ?_
  refine Tr.m rfl rfl rfl ?_
  refine Tr.lenSl rfl rfl rfl Y22 ?_
  refine Tr.lss rfl rfl rfl rfl rfl ?_
  refine Tr.nil (Aa ?_)
  first
   | refine Sat.condP rfl (fun hc0 => ?_) (fun hc0 => ?_)
   | refine Sat.condNP rfl (fun hc0 => ?_) (fun hc0 => ?_)
   | refine Sat.cond rfl (fun hc0 => ?_) (fun hc0 => ?_)
  ·
   have hk2 : p.1 < s.n := by omega
   obtain ⟨b, o, r, d, hsp, hr, hd, his, hlen, hsee⟩ := hs.at dE hk2
   refine Sat.skip (Aa (Sat.seq (Sat.block (Sat.region ?_))))
   refine Tr.m rfl rfl rfl ?_
   refine Tr.m rfl rfl rfl ?_
   refine Tr.m rfl rfl rfl ?_
   refine Tr.idxSlP 131 rfl rfl rfl hsp rfl Y22 Sz79 p.1 rfl oM ?_
   refine Tr.loadEN r.cells rfl rfl rfl Y79 rfl Sz79 sP hlen hsee ?_
   refine Tr.call4 rfl rfl rfl rfl rfl Body37 (kit_own_block r his.ok d.ls d.ds (by rw [← his.ls.len]; exact (hsm d (List.mem_of_getElem? hd)).1) (by rw [← his.ds.len]; exact (hsm d (List.mem_of_getElem? hd)).2)) (fun w h => ⟨rows_ext h rfl his.ls, bytes_ext h rfl his.ds⟩) ?_
   rintro v16 out16 ⟨q1, c1, q2, c2, rfl, hq1, hq2, rfl⟩
   have hoi := owned_is (q1 := q1) (q2 := q2) his hq1 hq2 (by have := (hsm d (List.mem_of_getElem? hd)).1; rw [← his.ls.len]; omega) (by have := (hsm d (List.mem_of_getElem? hd)).2; rw [← his.ds.len]; omega)
   have hok2 := ownB_ok his.ok q1 c1 q2 c2
   refine Tr.mkRow (z := agg Block.zero.cells) [agg (ownB r q1 c1 q2 c2).cells] (ownB r q1 c1 q2 c2).cells rfl rfl rfl Y22 Sz79 Block.zr rfl rfl (by intro v hv; rw [List.mem_singleton.1 hv]; exact Block.length hok2) dE (by simp [Value.cells]) ?_
   intro q17
   refine Tr.appendAcc (z := agg Block.zero.cells) (by' := 184) ((ownB r q1 c1 q2 c2).cells) rfl rfl rfl rfl rfl Y22 Y22 Sz79 Zr79 (by unfold By; kernel_rfl) rfl hos.acc sG (fun w h => SeesP.of (Aq h mM)) (fun e => by cases e) (Block.isCell hok2) oM oM (by rw [Block.length hok2]) ?_
   intro s18 bl18 hac18
   refine Tr.a rfl rfl rfl ?_
   refine Tr.nil (Cc (Aa (Sat.region ?_)))
   refine Tr.m rfl rfl rfl ?_
   refine Tr.aI rfl rfl rfl rfl oM ?_
   refine Tr.a rfl rfl rfl ?_
   refine Tr.nil (Aa ?_)
   exact ⟨(p.1 + 1, s18, bl18, _, p.2.2.2.2 ++ [ownB r q1 c1 q2 c2]), ⟨by simp only []; omega, by simp only [take_snoc hd]; exact hos.snoc hac18 (Block.length hok2) hoi⟩, by simp only []; omega, Af (wk1 rfl (wk1 rfl (wk1 rfl wk0))) (Aj sG (pm_in2 (Ac rM (Ac rM (Aj sG Ad)))))⟩
  ·
   have hpe : p.1 = s.n := by omega
   refine Sat.exit (Bi (Bi (bl_h (Aa (Sat.seq (Sat.region ?_))))))
   refine Tr.m rfl rfl rfl ?_
   refine Tr.a rfl rfl rfl ?_
   refine Tr.nil (Aa (Sat.ret (Ai ?_)))
   refine Am (out := (p.2.2.1 ++ (p.2.2.2.1 ++ []))) (Ae rfl rfl) (Aj sG (Aj sG Ad)) ?_
   refine ⟨p.2.1, p.2.2.1, p.2.2.2.1, p.2.2.2.2, rfl, by simp, ?_⟩
   rw [hpe, List.take_of_length_le oM] at hos
   exact hos

end Go.Proofs.YtdifpjmfabhpiaaGreat
end

section
namespace Go.Proofs.YtdifpjmfabhpiaaGreat
open Go Hw

def ownC (C : Cut) (q c : Nat) : Cut := { C with fHeads := ⟨some ⟨q, 0, none⟩, C.fHeads.n, c⟩ }
theorem ownC_ok {C : Cut} (h : C.ok) (q c : Nat) : (ownC C q c).ok := ⟨h.l_fPrev⟩
theorem ownC_is {W : World} {C : Cut} {D : DCut} {q c : Nat} (h : CutIs W C D) (h1 : C.fHeads.n ≤ c) (n1 : C.fHeads.n ≤ 1000000) : ∀ W2, Lies [⟨q, Cb D.dHeads, 50, c * 32⟩] W2 → CutIs W2 (ownC C q c) D := fun W2 hl => by
  have a1 : Acc ⟨some ⟨q, 0, none⟩, C.fHeads.n, c⟩ [⟨q, Cb D.dHeads, 50, c * 32⟩] (Cb D.dHeads) 50 C.fHeads.n 32 := Acc.some h1 (by rw [Ca h.fHeads.row, h.fHeads.len])
  exact ⟨ownC_ok h.ok _ _, h.fHeight, h.fPrev, acc_rows a1 hl h.fHeads.row h.fHeads.len n1⟩

theorem kit_own_cuts (s : Sl) (ds : List DCut) (hn : s.n ≤ 1000) (hsm : ∀ d ∈ ds, d.dHeads.length ≤ 500000) : Meets Tryz.prog 38 [s.v] [] (fun W => CutsAt W s ds) (fun v out => ∃ sl bl bl2 rs, v = sl.v ∧ out = bl ++ bl2 ∧ OwnSeq Cut.cells 34 CutIs 53 sl bl bl2 rs ds s.n) := by
 intro W hW
 obtain ⟨rs, hs⟩ := hW
 have hnd := hs.nd
 refine An Tryz.func38 rfl 25 Tryz.ntmps38 rfl ?_
 refine Sat.seq (Sat.region ?_)
 refine Tr.a rfl rfl rfl ?_
 refine Tr.nil (Aa (Sat.seq (Sat.region ?_)))
 refine Tr.a rfl rfl rfl ?_
 refine Tr.nil (Aa (Sat.seq (Sat.seq (Sat.region ?_))))
 refine Tr.a rfl rfl rfl ?_
 refine Tr.nil (Aa (Sat.block ?_))
 refine Sat.loop (ι := Nat × Sl × List Blk × List Blk × List Cut) (fun p => ⟨[(0, s.v), (3, p.2.1.v), (4, i64 (p.1 : Int))], (p.2.2.1 ++ (p.2.2.2.1 ++ []))⟩) (fun p => p.1 ≤ s.n ∧ OwnSeq Cut.cells 34 CutIs 53 p.2.1 p.2.2.1 p.2.2.2.1 p.2.2.2.2 (ds.take p.1) p.1) (fun p => s.n - p.1) ((0, Sl.nil, [], [], [])) ?_ ?_ ?_
 · exact ⟨Nat.zero_le _, OwnSeq.none⟩
 · exact Af (wk1 rfl (wk1 rfl (wk1 rfl wk0))) (Aj sG (Aj sG Ad))
 ·
  rintro p ⟨hk, hos⟩
  refine Sat.seq (Sat.seq (Sat.region ?_))
  refine Tr.m rfl rfl rfl ?_
  refine Tr.m rfl rfl rfl ?_
  refine Tr.lenSl rfl rfl rfl Y25 ?_
  refine Tr.lss rfl rfl rfl rfl rfl ?_
  refine Tr.nil (Aa ?_)
  first
   | refine Sat.condP rfl (fun hc0 => ?_) (fun hc0 => ?_)
   | refine Sat.condNP rfl (fun hc0 => ?_) (fun hc0 => ?_)
   | refine Sat.cond rfl (fun hc0 => ?_) (fun hc0 => ?_)
  ·
   have hk2 : p.1 < s.n := by omega
   obtain ⟨b, o, r, d, hsp, hr, hd, his, hlen, hsee⟩ := hs.at dE hk2
   refine Sat.skip (Aa (Sat.seq (Sat.block (Sat.seq (Sat.region ?_)))))
   refine Tr.m rfl rfl rfl ?_
   refine Tr.m rfl rfl rfl ?_
   refine Tr.idxSlP 34 rfl rfl rfl hsp rfl Y25 Sz53 p.1 rfl oM ?_
   refine Tr.loadEN r.cells rfl rfl rfl Y53 rfl Sz53 sP hlen hsee ?_
   refine Tr.alloc (cs := Cut.zero.cells) rfl Cut.zr rfl ?_
   intro n5 hn5 hf5
   refine Tr.sA rfl rfl rfl rfl (Cut.isCell (by first | exact oK  | exact his.ok | exact ownC_ok his.ok _ _)) Sz53 (Cut.length (by first | exact oK  | exact his.ok | exact ownC_ok his.ok _ _)) mM (Cut.length (by first | exact oK  | exact his.ok | exact ownC_ok his.ok _ _)) uU ?_
   refine Tr.nil (Aa (Sat.seq (Sat.region ?_)))
   refine Tr.fld rfl rfl rfl Y53 rfl Sz51 dE _ rfl ?_
   refine Tr.load1 rfl rfl rfl Y51 rfl mM (by first | exact Cut.get_fHeads (by first | exact oK  | exact his.ok | exact ownC_ok his.ok _ _) | exact vL) ?_
   refine Tr.call4 rfl rfl rfl rfl rfl Body124 (kit_names r.fHeads d.dHeads (by rw [← his.fHeads.len]; exact hsm d (List.mem_of_getElem? hd))) (fun w h => rows_ext h rfl his.fHeads) ?_
   rintro v18 out18 ⟨q1, c1, rfl, hq1, rfl⟩
   have hoi := ownC_is (q := q1) his hq1 (by have := hsm d (List.mem_of_getElem? hd); rw [← his.fHeads.len]; omega)
   have hok2 := ownC_ok his.ok q1 c1
   refine Tr.fld rfl rfl rfl Y53 rfl Sz51 dE _ rfl ?_
   refine Tr.s1 rfl rfl rfl rfl rfl Sz51 mM (by rw [Cut.length (by first | exact oK  | exact his.ok | exact ownC_ok his.ok _ _)]; decide) (by first | exact Cut.set_fHeads (by first | exact oK  | exact his.ok | exact ownC_ok his.ok _ _) _ | exact Cut.setS_fHeads (by first | exact oK  | exact his.ok | exact ownC_ok his.ok _ _) _ _ _) uU ?_
   refine Tr.nil (Aa (Sat.region ?_))
   refine Tr.m rfl rfl rfl ?_
   refine Tr.lA rfl rfl rfl Y53 rfl Sz53 mM (Cut.length (by first | exact oK  | exact his.ok | exact ownC_ok his.ok _ _)) ?_
   refine Tr.mkRow (z := agg Cut.zero.cells) [agg (ownC r q1 c1).cells] (ownC r q1 c1).cells rfl rfl rfl Y25 Sz53 Cut.zr rfl rfl (by intro v hv; rw [List.mem_singleton.1 hv]; exact Cut.length hok2) dE (by simp [Value.cells]) ?_
   intro q17
   refine Tr.appendAcc (z := agg Cut.zero.cells) (by' := 64) ((ownC r q1 c1).cells) rfl rfl rfl rfl rfl Y25 Y25 Sz53 Zr53 (by unfold By; kernel_rfl) rfl hos.acc sG (fun w h => SeesP.of (Aq h mM)) (fun e => by cases e) (Cut.isCell hok2) oM oM (by rw [Cut.length hok2]) ?_
   intro s18 bl18 hac18
   refine Tr.a rfl rfl rfl ?_
   refine Tr.nil (Cc (Aa (Sat.region ?_)))
   refine Tr.m rfl rfl rfl ?_
   refine Tr.aI rfl rfl rfl rfl oM ?_
   refine Tr.a rfl rfl rfl ?_
   refine Tr.nil (Aa ?_)
   exact ⟨(p.1 + 1, s18, bl18, _, p.2.2.2.2 ++ [ownC r q1 c1]), ⟨by simp only []; omega, by simp only [take_snoc hd]; exact hos.snoc hac18 (Cut.length hok2) hoi⟩, by simp only []; omega, Af (wk1 rfl (wk1 rfl (wk1 rfl wk0))) (Aj sG (pm_in1 (Ac rM (Aj sG Ad))))⟩
  ·
   have hpe : p.1 = s.n := by omega
   refine Sat.exit (Bi (Bi (bl_h (Aa (Sat.seq (Sat.region ?_))))))
   refine Tr.m rfl rfl rfl ?_
   refine Tr.a rfl rfl rfl ?_
   refine Tr.nil (Aa (Sat.ret (Ai ?_)))
   refine Am (out := (p.2.2.1 ++ (p.2.2.2.1 ++ []))) (Ae rfl rfl) (Aj sG (Aj sG Ad)) ?_
   refine ⟨p.2.1, p.2.2.1, p.2.2.2.1, p.2.2.2.2, rfl, by simp, ?_⟩
   rw [hpe, List.take_of_length_le oM] at hos
   exact hos

end Go.Proofs.YtdifpjmfabhpiaaGreat
end

section
namespace Go.Proofs.YtdifpjmfabhpiaaGreat
open Go Hw

theorem Cert.setS_heads {x : Cert} (h : x.ok) (p : Option Addr) (n c : Nat) : x.cells.set (0 + 33) (.slice p n c) = ({ x with fCut := { x.fCut with fHeads := ⟨p, n, c⟩ } } : Cert).cells := by
  rw [Cert.cells, List.set_append, if_pos (by rw [Cut.length h.o_fCut]; decide), Nat.zero_add, Cut.setS_fHeads h.o_fCut]; rfl
theorem votes_cell {vs : List Vote} (h : ∀ r ∈ vs, r.ok) : ∀ u ∈ (vs.map Vote.cells).flatten, isCell u = true := by
  intro u hu
  obtain ⟨l, hl, hu⟩ := List.mem_flatten.1 hu
  obtain ⟨r, hr, rfl⟩ := List.mem_map.1 hl
  exact Vote.isCell (h r hr) u hu
theorem seq_votes {W : World} {s : Sl} {vs ds : List Vote} (h : SeqIs Vote.cells 132 VoteIs W s vs ds) : ∀ r ∈ vs, r.ok := by
  intro r hr
  obtain ⟨j, hj, rfl⟩ := List.getElem_of_mem hr
  have hj2 : j < ds.length := by rw [h.nd, ← h.nr]; exact hj
  exact (h.is j _ _ (List.getElem?_eq_getElem hj) (List.getElem?_eq_getElem hj2)).ok
def ownE (C : Cert) (q1 c1 q2 c2 : Nat) : Cert := { C with fCut := ownC C.fCut q1 c1, fVotes := ⟨some ⟨q2, 0, none⟩, C.fVotes.n, c2⟩ }
theorem ownE_ok {C : Cert} (h : C.ok) (q1 c1 q2 c2 : Nat) : (ownE C q1 c1 q2 c2).ok := ⟨ownC_ok h.o_fCut _ _⟩
theorem ownE_is {W : World} {C : Cert} {D : DCert} {vs : List Vote} {q1 c1 q2 c2 : Nat} (h : CertIs W C D) (hv : SeqIs Vote.cells 132 VoteIs W C.fVotes vs D.dVotes) (h1 : C.fCut.fHeads.n ≤ c1) (h2 : C.fVotes.n ≤ c2) (n1 : C.fCut.fHeads.n ≤ 1000000) (n2 : C.fVotes.n ≤ 1000000) :
    ∀ W2, Lies [⟨q2, (vs.map Vote.cells).flatten, 81, c2 * 132⟩, ⟨q1, Cb D.dCut.dHeads, 50, c1 * 32⟩] W2 → CertIs W2 (ownE C q1 c1 q2 c2) D := fun W2 hl => by
  have a2 : Acc ⟨some ⟨q2, 0, none⟩, C.fVotes.n, c2⟩ [⟨q2, (vs.map Vote.cells).flatten, 81, c2 * 132⟩] (vs.map Vote.cells).flatten 81 C.fVotes.n 132 := Acc.some h2 hv.flat
  exact ⟨ownE_ok h.ok _ _ _ _, ownC_is h.fCut h1 n1 W2 (hl.sub (by intro b hb; rw [List.mem_singleton.1 hb]; exact List.mem_cons_of_mem _ List.mem_cons_self)),
    ⟨vs, acc_seq a2 (hl.sub (by intro b hb; rw [List.mem_singleton.1 hb]; exact List.mem_cons_self)) hv.nr hv.nd hv.len n2 fun i r d hr hd => (by
      have := hv.is i r d hr hd
      exact ⟨this.ok, this.eq, this.wf⟩)⟩⟩

theorem kit_own_certs (s : Sl) (ds : List DCert) (hn : s.n ≤ 1000) (hsm : ∀ d ∈ ds, d.dCut.dHeads.length ≤ 500000 ∧ d.dVotes.length ≤ 500000) : Meets Tryz.prog 39 [s.v] [] (fun W => CertsAt W s ds) (fun v out => ∃ sl bl bl2 rs, v = sl.v ∧ out = bl ++ bl2 ∧ OwnSeq Cert.cells 35 CertIs 55 sl bl bl2 rs ds s.n) := by
 intro W hW
 obtain ⟨rs, hs⟩ := hW
 have hnd := hs.nd
 refine An Tryz.func39 rfl 32 Tryz.ntmps39 rfl ?_
 refine Sat.seq (Sat.region ?_)
 refine Tr.a rfl rfl rfl ?_
 refine Tr.nil (Aa (Sat.seq (Sat.region ?_)))
 refine Tr.a rfl rfl rfl ?_
 refine Tr.nil (Aa (Sat.seq (Sat.seq (Sat.region ?_))))
 refine Tr.a rfl rfl rfl ?_
 refine Tr.nil (Aa (Sat.block ?_))
 refine Sat.loop (ι := Nat × Sl × List Blk × List Blk × List Cert) (fun p => ⟨[(0, s.v), (3, p.2.1.v), (4, i64 (p.1 : Int))], (p.2.2.1 ++ (p.2.2.2.1 ++ []))⟩) (fun p => p.1 ≤ s.n ∧ OwnSeq Cert.cells 35 CertIs 55 p.2.1 p.2.2.1 p.2.2.2.1 p.2.2.2.2 (ds.take p.1) p.1) (fun p => s.n - p.1) ((0, Sl.nil, [], [], [])) ?_ ?_ ?_
 · exact ⟨Nat.zero_le _, OwnSeq.none⟩
 · exact Af (wk1 rfl (wk1 rfl (wk1 rfl wk0))) (Aj sG (Aj sG Ad))
 ·
  rintro p ⟨hk, hos⟩
  refine Sat.seq (Sat.seq (Sat.region ?_))
  refine Tr.m rfl rfl rfl ?_
  refine Tr.m rfl rfl rfl ?_
  refine Tr.lenSl rfl rfl rfl Y23 ?_
  refine Tr.lss rfl rfl rfl rfl rfl ?_
  refine Tr.nil (Aa ?_)
  first
   | refine Sat.condP rfl (fun hc0 => ?_) (fun hc0 => ?_)
   | refine Sat.condNP rfl (fun hc0 => ?_) (fun hc0 => ?_)
   | refine Sat.cond rfl (fun hc0 => ?_) (fun hc0 => ?_)
  ·
   have hk2 : p.1 < s.n := by omega
   obtain ⟨b, o, r, d, hsp, hr, hd, his, hlen, hsee⟩ := hs.at dE hk2
   obtain ⟨vs, hvs⟩ := his.fVotes
   have hs1 := (hsm d (List.mem_of_getElem? hd)).1
   have hs2 := (hsm d (List.mem_of_getElem? hd)).2
   rw [his.fCut.fHeads.len] at hs1
   rw [hvs.nd] at hs2
   refine Sat.skip (Aa (Sat.seq (Sat.block (Sat.seq (Sat.region ?_)))))
   refine Tr.m rfl rfl rfl ?_
   refine Tr.m rfl rfl rfl ?_
   refine Tr.idxSlP 35 rfl rfl rfl hsp rfl Y23 Sz55 p.1 rfl oM ?_
   refine Tr.loadEN r.cells rfl rfl rfl Y55 rfl Sz55 sP hlen hsee ?_
   refine Tr.alloc (cs := Cert.zero.cells) rfl Cert.zr rfl ?_
   intro n5 hn5 hf5
   refine Tr.sA rfl rfl rfl rfl (Cert.isCell (by first | exact oK  | exact his.ok | exact ⟨ownC_ok his.ok.o_fCut _ _⟩ | exact ownE_ok his.ok _ _ _ _)) Sz55 (Cert.length (by first | exact oK  | exact his.ok | exact ⟨ownC_ok his.ok.o_fCut _ _⟩ | exact ownE_ok his.ok _ _ _ _)) mM (Cert.length (by first | exact oK  | exact his.ok | exact ⟨ownC_ok his.ok.o_fCut _ _⟩ | exact ownE_ok his.ok _ _ _ _)) uU ?_
   refine Tr.nil (Aa (Sat.seq ?_))
   refine Sat.draw [(0, 0), (0, 1), (1, 2), (0, 5), (1, 6), (3, 3), (0, 8), (0, 9), (2, 4), (4, 7), (4, 10), (0, 11), (4, 12)] B2 zK ?_
   refine Tr.fld rfl rfl rfl Y55 rfl Sz53 dE _ rfl ?_
   refine Tr.fld rfl rfl rfl Y53 rfl Sz51 dE _ rfl ?_
   refine Tr.load1 rfl rfl rfl Y51 rfl mM (Cert.see_fCut his.ok 33 _ (Cut.get_fHeads his.ok.o_fCut)) ?_
   refine Tr.fld rfl rfl rfl Y55 rfl Sz24 dE _ rfl ?_
   refine Tr.load1 rfl rfl rfl Y24 rfl mM (by first | exact Cert.get_fVotes (by first | exact oK  | exact his.ok | exact ⟨ownC_ok his.ok.o_fCut _ _⟩ | exact ownE_ok his.ok _ _ _ _) | exact vL) ?_
   refine Tr.call rfl rfl rfl rfl Body124 (kit_names r.fCut.fHeads d.dCut.dHeads (by rw [← his.fCut.fHeads.len]; exact (hsm d (List.mem_of_getElem? hd)).1)) (FreshRow.loose _ _ _ _) (fun w h => rows_ext h rfl his.fCut.fHeads) ?_
   rintro v18 out18 ⟨q1, c1, rfl, hq1, rfl⟩
   refine Tr.fld rfl rfl rfl Y55 rfl Sz53 dE _ rfl ?_
   refine Tr.fld rfl rfl rfl Y53 rfl Sz51 dE _ rfl ?_
   refine Tr.mkRow2 (z := agg Vote.zero.cells) [] [] rfl rfl Y24 Sz81 Vote.zr rfl rfl (by intro v hv; cases hv) dE rfl ?_
   intro q20
   refine Tr.appendSl (z := agg Vote.zero.cells) (by' := 160) ((vs.map Vote.cells).flatten) rfl rfl rfl rfl rfl Y24 Y24 Sz81 Zr81 (by unfold By; kernel_rfl) rfl (fun w h => Aw h rfl hvs.see) (fun e => by have := hvs.nil e; have := hvs.cap; omega) (votes_cell (seq_votes hvs)) rM rfl rfl oM oM oM hvs.flat ?_
   intro q2 c2 hq2
   rw [Nat.zero_add r.fVotes.n]
   have hoi := ownE_is (q1 := q1) (q2 := q2) his hvs hq1 (show r.fVotes.n ≤ c2 by omega) oM oM
   have hok2 := ownE_ok his.ok q1 c1 q2 c2
   refine Tr.s1 rfl rfl rfl rfl rfl Sz51 mM (by rw [Cert.length his.ok]; decide) (Cert.setS_heads his.ok _ _ _) uU ?_
   refine Tr.fld rfl rfl rfl Y55 rfl Sz24 dE _ rfl ?_
   refine Tr.s1 rfl rfl rfl rfl rfl Sz24 mM (by rw [Cert.length (by first | exact oK  | exact his.ok | exact ⟨ownC_ok his.ok.o_fCut _ _⟩ | exact ownE_ok his.ok _ _ _ _)]; decide) (by first | exact Cert.set_fVotes (by first | exact oK  | exact his.ok | exact ⟨ownC_ok his.ok.o_fCut _ _⟩ | exact ownE_ok his.ok _ _ _ _) _ | exact Cert.setS_fVotes (by first | exact oK  | exact his.ok | exact ⟨ownC_ok his.ok.o_fCut _ _⟩ | exact ownE_ok his.ok _ _ _ _) _ _ _) uU ?_
   refine Tr.nil (Aa (Sat.region ?_))
   refine Tr.m rfl rfl rfl ?_
   refine Tr.lA rfl rfl rfl Y55 rfl Sz55 mM (Cert.length (by first | exact oK  | exact his.ok | exact ⟨ownC_ok his.ok.o_fCut _ _⟩ | exact ownE_ok his.ok _ _ _ _)) ?_
   refine Tr.mkRow (z := agg Cert.zero.cells) [agg (ownE r q1 c1 q2 c2).cells] (ownE r q1 c1 q2 c2).cells rfl rfl rfl Y23 Sz55 Cert.zr rfl rfl (by intro v hv; rw [List.mem_singleton.1 hv]; exact Cert.length hok2) dE (by simp [Value.cells]) ?_
   intro q17
   refine Tr.appendAcc (z := agg Cert.zero.cells) (by' := 88) ((ownE r q1 c1 q2 c2).cells) rfl rfl rfl rfl rfl Y23 Y23 Sz55 Zr55 (by unfold By; kernel_rfl) rfl hos.acc sG (fun w h => SeesP.of (Aq h mM)) (fun e => by cases e) (Cert.isCell hok2) oM oM (by rw [Cert.length hok2]) ?_
   intro s18 bl18 hac18
   refine Tr.a rfl rfl rfl ?_
   refine Tr.nil (Cc (Aa (Sat.region ?_)))
   refine Tr.m rfl rfl rfl ?_
   refine Tr.aI rfl rfl rfl rfl oM ?_
   refine Tr.a rfl rfl rfl ?_
   refine Tr.nil (Aa ?_)
   exact ⟨(p.1 + 1, s18, bl18, _, p.2.2.2.2 ++ [ownE r q1 c1 q2 c2]), ⟨by simp only []; omega, by simp only [take_snoc hd]; exact hos.snoc hac18 (Cert.length hok2) hoi⟩, by simp only []; omega, Af (wk1 rfl (wk1 rfl (wk1 rfl wk0))) (Aj sG (pm_in2 (Ac rM (Ac rM (Aj sG Ad)))))⟩
  ·
   have hpe : p.1 = s.n := by omega
   refine Sat.exit (Bi (Bi (bl_h (Aa (Sat.seq (Sat.region ?_))))))
   refine Tr.m rfl rfl rfl ?_
   refine Tr.a rfl rfl rfl ?_
   refine Tr.nil (Aa (Sat.ret (Ai ?_)))
   refine Am (out := (p.2.2.1 ++ (p.2.2.2.1 ++ []))) (Ae rfl rfl) (Aj sG (Aj sG Ad)) ?_
   refine ⟨p.2.1, p.2.2.1, p.2.2.2.1, p.2.2.2.2, rfl, by simp, ?_⟩
   rw [hpe, List.take_of_length_le oM] at hos
   exact hos

end Go.Proofs.YtdifpjmfabhpiaaGreat
end

section
namespace Go.Proofs.YtdifpjmfabhpiaaGreat
open Go Hw

def OwnedMsg (D : DMsg) (v : Value) (out : List Blk) : Prop := ∃ m : Msg, m.ok ∧ v = agg m.cells ∧ ∀ W2, Lies out W2 → MsgIs W2 m D
theorem no_lie {n : Nat} {v : Value} {T : TypeId} {W : World} (h : Lies [⟨n, [v], T, 0⟩] W) : False := by
  obtain ⟨full, fr, hb⟩ := h _ (List.mem_singleton.2 rfl)
  have h1 := hb.pre.length_le
  have h2 := hb.size
  simp at h1
  simp only at h2
  omega
theorem OwnedMsg.loose (D : DMsg) : Loose (OwnedMsg D) := fun l hl => by
  obtain ⟨n, _, hn⟩ := fresh_is 0 l
  exact ⟨agg Msg.zero.cells, [⟨n, [undef], 0, 0⟩], ⟨Msg.zero, by exact Msg.zero_ok, rfl, fun W2 h => (no_lie h).elim⟩, by
    rw [List.map_append, List.nodup_append]
    refine ⟨by simp, hl, fun i hi j hj => ?_⟩
    obtain ⟨b, hb, rfl⟩ := List.mem_map.1 hj
    simp at hi
    subst hi
    exact fun e => hn b hb e.symm⟩
structure LightIs (D : DMsg) : Prop where
  heads : D.dHeads.length ≤ 40
  want : D.dWant.length ≤ 40
  votes : D.dVotes.length ≤ 20
  nB : D.dBlocks.length ≤ 10
  nC : D.dCuts.length ≤ 6
  nE : D.dCerts.length ≤ 4
  blocks : ∀ d ∈ D.dBlocks, d.ls.length ≤ 500000 ∧ d.ds.length ≤ 500000
  cuts : ∀ d ∈ D.dCuts, d.dHeads.length ≤ 500000
  certs : ∀ d ∈ D.dCerts, d.dCut.dHeads.length ≤ 500000 ∧ d.dVotes.length ≤ 500000
theorem light_small {D : DMsg} (h : D.light = true) : LightIs D := by
  simp only [DMsg.light, lightOf, lightBf, lightCf, lightEf, Bool.and_eq_true, decide_eq_true_eq, Bool.not_eq_true', decide_eq_false_iff_not, List.all_eq_true] at h
  obtain ⟨h1, h2, ⟨h3, h4⟩, h5, ⟨h6, h7⟩, h8, h9⟩ := h
  exact ⟨by omega, by omega, by omega, by omega, by omega, by omega, fun d hd => by have := h4 d hd; omega, fun d hd => by have := h7 d hd; omega, fun d hd => by have := h9 d hd; omega⟩

theorem kit_own_msg (m : Msg) (D : DMsg) (hl : D.light = true) : Meets Tryz.prog 33 [agg m.cells] [] (fun W => MsgIs W m D) (OwnedMsg D) := by
 intro W hW
 obtain ⟨vs, hvs⟩ := hW.fVotes
 have hok := hW.ok
 have hlen := hW.len
 have hsm := light_small hl
 have e1 := hlen.heads
 have e2 := hlen.want
 have e3 := hlen.blocks
 have e4 := hlen.votes
 have e5 := hlen.cuts
 have e6 := hlen.certs
 have f1 := hsm.heads
 have f2 := hsm.want
 have f3 := hsm.nB
 have f4 := hsm.votes
 have f5 := hsm.nC
 have f6 := hsm.nE
 clear hl
 refine An Tryz.func33 rfl 29 Tryz.ntmps33 rfl ?_
 refine Sat.seq (Sat.region ?_)
 refine Tr.boxA rfl rfl ?_
 intro n1 hn1 hf1
 refine Tr.alloc (cs := Msg.zero.cells) rfl Msg.zr rfl ?_
 intro n2 hn2 hf2
 refine Tr.nil (Aa (Sat.seq ?_))
 refine Sat.drawK (sp_v (sp_k sp_n)) rfl [(0, 0), (0, 1), (0, 3), (0, 4), (0, 6), (0, 7), (4, 2), (0, 9), (4, 5), (4, 8)] [(4, 10), (0, 11), (4, 12), (0, 13), (4, 14)] B2 zK zK ?_
 refine Tr.fld rfl rfl rfl Y57 rfl Sz51 dE _ rfl ?_
 refine Tr.kload1 rfl rfl rfl Y51 rfl mM (by first | exact Msg.get_fHeads (by first | exact oK  | exact hW.ok | exact ⟨trivial⟩) | exact vL) ?_
 refine Tr.fld rfl rfl rfl Y57 rfl Sz51 dE _ rfl ?_
 refine Tr.kload1 rfl rfl rfl Y51 rfl mM (by first | exact Msg.get_fWant (by first | exact oK  | exact hW.ok | exact ⟨trivial⟩) | exact vL) ?_
 refine Tr.fld rfl rfl rfl Y57 rfl Sz22 dE _ rfl ?_
 refine Tr.kload1 rfl rfl rfl Y22 rfl mM (by first | exact Msg.get_fBlocks (by first | exact oK  | exact hW.ok | exact ⟨trivial⟩) | exact vL) ?_
 refine Tr.call4 rfl rfl rfl rfl rfl Body124 (kit_names m.fHeads D.dHeads oM) (fun w h => rows_ext h rfl hW.fHeads) ?_
 rintro v5 out5 ⟨q1, c1, rfl, hq1, rfl⟩
 refine Tr.fld rfl rfl rfl Y57 rfl Sz51 dE _ rfl ?_
 refine Tr.call4 rfl rfl rfl rfl rfl Body124 (kit_names m.fWant D.dWant oM) (fun w h => rows_ext h rfl hW.fWant) ?_
 rintro v8 out8 ⟨q2, c2, rfl, hq2, rfl⟩
 refine Tr.call4 rfl rfl rfl rfl rfl Body72 (kit_own_blocks m.fBlocks D.dBlocks oM hsm.blocks) (fun w h => Blocks_ext h rfl hW.fBlocks) ?_
 rintro v11 out11 ⟨sB, bB, bB2, rB, rfl, rfl, hoB⟩
 simp only [List.append_assoc, List.cons_append, List.nil_append]
 refine Tr.nil ?_
 refine Tr.s1 rfl rfl rfl rfl rfl Sz51 mM (by rw [Msg.length (by first | exact oK  | exact hW.ok | exact ⟨trivial⟩)]; decide) (by first | exact Msg.set_fHeads (by first | exact oK  | exact hW.ok | exact ⟨trivial⟩) _ | exact Msg.setS_fHeads (by first | exact oK  | exact hW.ok | exact ⟨trivial⟩) _ _ _) uU ?_
 refine Tr.fld rfl rfl rfl Y57 rfl Sz51 dE _ rfl ?_
 refine Tr.s1 rfl rfl rfl rfl rfl Sz51 mM (by rw [Msg.length (by first | exact oK  | exact hW.ok | exact ⟨trivial⟩)]; decide) (by first | exact Msg.set_fWant (by first | exact oK  | exact hW.ok | exact ⟨trivial⟩) _ | exact Msg.setS_fWant (by first | exact oK  | exact hW.ok | exact ⟨trivial⟩) _ _ _) uU ?_
 refine Tr.fld rfl rfl rfl Y57 rfl Sz22 dE _ rfl ?_
 refine Tr.s1 rfl rfl rfl rfl rfl Sz22 mM (by rw [Msg.length (by first | exact oK  | exact hW.ok | exact ⟨trivial⟩)]; decide) (by first | exact Msg.set_fBlocks (by first | exact oK  | exact hW.ok | exact ⟨trivial⟩) _ | exact Msg.setS_fBlocks (by first | exact oK  | exact hW.ok | exact ⟨trivial⟩) _ _ _) uU ?_
 refine Tr.nil (Aa (Sat.seq ?_))
 refine Sat.drawK (sp_k (sp_x (sp_x (sp_v (sp_v (sp_v sp_n)))))) rfl [(0, 1), (0, 2), (0, 4), (0, 5), (0, 7), (0, 8), (2, 0), (4, 3), (0, 10), (4, 6), (4, 9)] [(4, 11), (0, 12), (4, 13), (0, 14), (4, 15)] B2 zK zK ?_
 refine Tr.fld rfl rfl rfl Y57 rfl Sz24 dE _ rfl ?_
 refine Tr.kload1 rfl rfl rfl Y24 rfl mM (by first | exact Msg.get_fVotes (by first | exact oK  | exact hW.ok | exact ⟨trivial⟩) | exact vL) ?_
 refine Tr.fld rfl rfl rfl Y57 rfl Sz25 dE _ rfl ?_
 refine Tr.kload1 rfl rfl rfl Y25 rfl mM (by first | exact Msg.get_fCuts (by first | exact oK  | exact hW.ok | exact ⟨trivial⟩) | exact vL) ?_
 refine Tr.fld rfl rfl rfl Y57 rfl Sz23 dE _ rfl ?_
 refine Tr.kload1 rfl rfl rfl Y23 rfl mM (by first | exact Msg.get_fCerts (by first | exact oK  | exact hW.ok | exact ⟨trivial⟩) | exact vL) ?_
 dsimp only
 refine Tr.mkRow2 (z := agg Vote.zero.cells) [] [] rfl rfl Y24 Sz81 Vote.zr rfl rfl (by intro v hv; cases hv) dE rfl ?_
 intro q15
 refine Tr.appendSl (z := agg Vote.zero.cells) (by' := 160) ((vs.map Vote.cells).flatten) rfl rfl rfl rfl rfl Y24 Y24 Sz81 Zr81 (by unfold By; kernel_rfl) rfl (fun w h => Aw h rfl hvs.see) (fun e => by have := hvs.nil e; have := hvs.cap; omega) (votes_cell (seq_votes hvs)) rM rfl rfl oM oM oM hvs.flat ?_
 intro q18 c18 hq18
 rw [Nat.zero_add m.fVotes.n]
 refine Tr.fld rfl rfl rfl Y57 rfl Sz24 dE _ rfl ?_
 refine Tr.call4 rfl rfl rfl rfl rfl Body38 (kit_own_cuts m.fCuts D.dCuts oM hsm.cuts) (fun w h => Cuts_ext h rfl hW.fCuts) ?_
 rintro v21 out21 ⟨sC, bC, bC2, rC, rfl, rfl, hoC⟩
 simp only [List.append_assoc, List.cons_append, List.nil_append]
 refine Tr.call4 rfl rfl rfl rfl rfl Body39 (kit_own_certs m.fCerts D.dCerts oM hsm.certs) (fun w h => Certs_ext h rfl hW.fCerts) ?_
 rintro v24 out24 ⟨sE, bE, bE2, rE, rfl, rfl, hoE⟩
 simp only [List.append_assoc, List.cons_append, List.nil_append]
 refine Tr.nil ?_
 refine Tr.s1 rfl rfl rfl rfl rfl Sz24 mM (by rw [Msg.length (by first | exact oK  | exact hW.ok | exact ⟨trivial⟩)]; decide) (by first | exact Msg.set_fVotes (by first | exact oK  | exact hW.ok | exact ⟨trivial⟩) _ | exact Msg.setS_fVotes (by first | exact oK  | exact hW.ok | exact ⟨trivial⟩) _ _ _) uU ?_
 refine Tr.fld rfl rfl rfl Y57 rfl Sz25 dE _ rfl ?_
 refine Tr.s1 rfl rfl rfl rfl rfl Sz25 mM (by rw [Msg.length (by first | exact oK  | exact hW.ok | exact ⟨trivial⟩)]; decide) (by first | exact Msg.set_fCuts (by first | exact oK  | exact hW.ok | exact ⟨trivial⟩) _ | exact Msg.setS_fCuts (by first | exact oK  | exact hW.ok | exact ⟨trivial⟩) _ _ _) uU ?_
 refine Tr.fld rfl rfl rfl Y57 rfl Sz23 dE _ rfl ?_
 refine Tr.s1 rfl rfl rfl rfl rfl Sz23 mM (by rw [Msg.length (by first | exact oK  | exact hW.ok | exact ⟨trivial⟩)]; decide) (by first | exact Msg.set_fCerts (by first | exact oK  | exact hW.ok | exact ⟨trivial⟩) _ | exact Msg.setS_fCerts (by first | exact oK  | exact hW.ok | exact ⟨trivial⟩) _ _ _) uU ?_
 refine Tr.nil (Aa (Sat.seq (Sat.region ?_)))
 refine Tr.lA rfl rfl rfl Y57 rfl Sz57 mM (Msg.length (by first | exact oK  | exact hW.ok | exact ⟨trivial⟩)) ?_
 refine Tr.sA rfl rfl rfl rfl (Msg.isCell (by first | exact oK  | exact hW.ok | exact ⟨trivial⟩)) Sz57 (Msg.length (by first | exact oK  | exact hW.ok | exact ⟨trivial⟩)) mM (Msg.length (by first | exact oK  | exact hW.ok | exact ⟨trivial⟩)) uU ?_
 refine Tr.nil (Aa (Sat.ret (Ai ?_)))
 refine Am (out := (⟨q1, Cb D.dHeads, 50, c1 * 32⟩ :: (⟨q2, Cb D.dWant, 50, c2 * 32⟩ :: (bB ++ (bB2 ++ (⟨q18, (vs.map Vote.cells).flatten, 81, c18 * 132⟩ :: (bC ++ (bC2 ++ (bE ++ (bE2 ++ [])))))))))) (res_cell rfl rfl Y57 rfl Sz57 mM (by first | (simp; done) | exact Msg.length (by first | exact oK  | exact hW.ok | exact ⟨trivial⟩))) (Ac rM (Ac rM (Aj sG (Aj sG (Ac rM (Aj sG (Aj sG (Aj sG (Aj sG Ad))))))))) ?_
 refine ⟨({ m with fHeads := ⟨some ⟨q1, 0, none⟩, m.fHeads.n, c1⟩, fWant := ⟨some ⟨q2, 0, none⟩, m.fWant.n, c2⟩, fBlocks := sB, fVotes := ⟨some ⟨q18, 0, none⟩, m.fVotes.n, c18⟩, fCuts := sC, fCerts := sE } : Msg), ⟨trivial⟩, rfl, fun W2 hl => ⟨⟨trivial⟩, hW.fKind, hW.wKind, hW.fHeight, acc_rows (Acc.some (E := 50) hq1 (by rw [Ca hW.fHeads.row, hW.fHeads.len])) (hl.sub (by intro b hb; rw [List.mem_singleton.1 hb]; repeat (first | exact List.mem_cons_self | refine List.mem_cons_of_mem _ ?_ | refine mem_seg ?_))) hW.fHeads.row hW.fHeads.len oM, acc_rows (Acc.some (E := 50) hq2 (by rw [Ca hW.fWant.row, hW.fWant.len])) (hl.sub (by intro b hb; rw [List.mem_singleton.1 hb]; repeat (first | exact List.mem_cons_self | refine List.mem_cons_of_mem _ ?_ | refine mem_seg ?_))) hW.fWant.row hW.fWant.len oM, ⟨_, hoB.seq (hl.sub iN) (hl.sub iN) oM⟩, ⟨vs, ?_⟩, ⟨_, hoC.seq (hl.sub iN) (hl.sub iN) oM⟩, ⟨_, hoE.seq (hl.sub iN) (hl.sub iN) oM⟩⟩⟩
 exact acc_seq (Acc.some (E := 81) (show m.fVotes.n ≤ c18 by omega) hvs.flat) (hl.sub (by intro b hb; rw [List.mem_singleton.1 hb]; repeat (first | exact List.mem_cons_self | refine List.mem_cons_of_mem _ ?_ | refine mem_seg ?_))) hvs.nr hvs.nd hvs.len oM fun i r d hr hd => (by
  have := hvs.is i r d hr hd
  exact ⟨this.ok, this.eq, this.wf⟩)

end Go.Proofs.YtdifpjmfabhpiaaGreat
end

section
namespace Go.Proofs.YtdifpjmfabhpiaaGreat
open Go Hw

theorem put_digest (q n c : Nat) (l d : List UInt8) (hl : l.length = n) (hd : d.length = 32) (hnc : n ≤ c) (hn : n ≤ 100000) : Meets Tryz.prog 108 [.slice (some ⟨q, 0, none⟩) n c, agg (Ab d)] [q] (fun W => BlkOk W ⟨q, Ab (l), 5, c * 1⟩) (fun v out => FreshRow v out (Ab (l ++ d)) 5 (n + 32) 1) := by
 intro W hW
 refine A8 (hp0 := [⟨q, Ab (l), 5, c * 1⟩]) Tryz.func108 rfl 8 Tryz.ntmps108 rfl (HRep.one hW) ?_
 refine Sat.seq (Sat.region ?_)
 refine Tr.boxA rfl rfl ?_
 intro n3 hn3 hf3
 refine Tr.a rfl rfl rfl ?_
 refine Tr.nil (Aa (Sat.seq (Sat.region ?_)))
 refine Tr.m rfl rfl rfl ?_
 refine Tr.sliceArr rfl rfl rfl Y50 Sz5 ?_
 refine Tr.appendSl (z := u8 0) (by' := 1) (Ab d) rfl rfl rfl rfl rfl Y58 Y58 Sz5 Zr5 (by unfold By; kernel_rfl) rfl (fun w h => SeesP.of (Aq h mM)) (fun e => by cases e) (Bd _) rM rfl (by rw [Ab, List.length_map, hl, Nat.mul_one]) hnc oM oM (by rw [Ab, List.length_map, hd]) ?_
 intro q1 c1 hq1
 refine Tr.a rfl rfl rfl ?_
 refine Tr.nil (Aa (Sat.ret (Ai ?_)))
 refine ⟨_, [⟨q1, Ab (l ++ d), 5, c1 * 1⟩], Ae rfl rfl, (by intro b hb; rw [List.mem_singleton.1 hb]; simp only [Ab, List.map_append]; exact mem0), B0, ⟨q1, c1, rfl, hq1, rfl⟩⟩

theorem put_digests (a : Option Addr) (n c : Nat) (l : List UInt8) (s : Sl) (ls : List (List UInt8)) (hl : l.length = n) (hp : a = none → n = 0) (hn : n ≤ 50000) (hs : s.n ≤ 1000) : Meets Tryz.prog 107 [.slice a n c, s.v, .func (.func 108) #[] #[]] [] (fun W => SeesP W a (Ab l) ∧ RowsAt W s 32 ls) (fun v out => FreshRow v out (Ab (l ++ Av (UInt64.ofNat s.n) ++ ls.flatten)) 5 (n + szN s.n + s.n * 32) 1) := by
 intro W hW
 have hz := A9 s.n
 have hon := A2 (n := s.n) oM
 have hll := hW.2.len
 refine An Tryz.func107 rfl 26 Tryz.ntmps107 rfl ?_
 refine Sat.seq (Sat.region ?_)
 refine Tr.a rfl rfl rfl ?_
 refine Tr.nil (Aa (Sat.seq (Sat.region ?_)))
 refine Tr.m rfl rfl rfl ?_
 refine Tr.m rfl rfl rfl ?_
 refine Tr.lenSl rfl rfl rfl Y51 ?_
 refine Tr.conv rfl rfl rfl Y3 Y48 (Bg _) ?_
 rw [word_nat (n := s.n) oM]
 refine Tr.call4 rfl rfl rfl rfl rfl Body106 (oct_Number a n c l (UInt64.ofNat s.n) hl hp oM) (fun w h => Aw h rfl hW.1) ?_
 rintro v13 out13 ⟨q1, c1, rfl, hc1, rfl⟩
 rw [hon] at hc1 ⊢
 refine Tr.a rfl rfl rfl ?_
 refine Tr.nil (Aa (Sat.seq (Sat.seq (Sat.region ?_))))
 refine Tr.m rfl rfl rfl ?_
 refine Tr.lenSl rfl rfl rfl Y51 ?_
 refine Tr.m rfl rfl rfl ?_
 refine Tr.nil (Aa (Sat.block ?_))
 refine Sat.loop (ι := Nat × Nat × Nat) (fun p => ⟨[(0, .slice (some ⟨p.2.1, 0, none⟩) (n + szN s.n + p.1 * 32) p.2.2), (2, .func (.func 108) #[] #[]), (14, s.v), (15, i64 (s.n : Int)), (16, i64 (p.1 : Int))], [⟨p.2.1, Ab (l ++ Av (UInt64.ofNat s.n) ++ (ls.take p.1).flatten), 5, p.2.2 * 1⟩]⟩) (fun p => p.1 ≤ s.n ∧ n + szN s.n + p.1 * 32 ≤ p.2.2) (fun p => s.n - p.1) ((0, q1, c1)) ?_ ?_ ?_
 · exact ⟨Nat.zero_le _, by simp only []; omega⟩
 · exact Ar (wk1 (by simp only [Nat.zero_mul, Nat.add_zero]; rfl) (wk1 rfl (wk1 rfl (wk1 rfl (wk1 rfl wk0))))) (wh1 (by simp only [List.take_zero, List.flatten_nil, List.append_nil]; exact mem0) wh0) nD
 ·
  rintro p ⟨hp1, hp2⟩
  refine Sat.seq (Sat.region ?_)
  refine Tr.lss rfl rfl rfl rfl rfl ?_
  refine Tr.nil (Aa (Sat.seq ?_))
  first
   | refine Sat.condP rfl (fun hc0 => ?_) (fun hc0 => ?_)
   | refine Sat.condNP rfl (fun hc0 => ?_) (fun hc0 => ?_)
   | refine Sat.cond rfl (fun hc0 => ?_) (fun hc0 => ?_)
  ·
   have hk2 : p.1 < s.n := by omega
   obtain ⟨b, o, hbp, hbs⟩ := hW.2.see.at (by rw [Ca hW.2.row]; omega)
   have hr0 : (ls.getD p.1 []).length = 32 := getD_len hW.2.row oM
   refine Sat.skip (Aa (Sat.seq (Sat.block (Sat.seq (Sat.region ?_)))))
   refine Tr.idxSlP 32 rfl rfl rfl hbp rfl Y51 Be p.1 rfl oM ?_
   refine Tr.loadEN (Ab (ls.getD (p.1) [])) rfl rfl rfl Y50 rfl Be sP (by rw [Ab, List.length_map]; exact getD_len hW.2.row oM) (sees_row hW.2.row hbs oM) ?_
   refine Tr.alloc (cs := (Ab (List.replicate 32 0))) rfl Zr50 rfl ?_
   intro n8 hn8 hf8
   first
    | refine Tr.sA rfl rfl rfl rfl cB Be (by first | (simp [hr0]; done) | assumption | (rw [Ab, List.length_map]; assumption)) mM (by first | (simp [hr0]; done) | assumption | (rw [Ab, List.length_map]; assumption)) uU ?_
    | refine Tr.storeN _ rfl rfl rfl rfl rfl cB Be (by first | (simp [hr0]; done) | assumption | (rw [Ab, List.length_map]; assumption)) mM (by first | (simp [hr0]; done) | assumption | (rw [Ab, List.length_map]; assumption)) (by exact rfl) uU ?_
   refine Tr.nil (Aa (Sat.region ?_))
   refine Tr.m rfl rfl rfl ?_
   refine Tr.m rfl rfl rfl ?_
   first
    | refine Tr.lA rfl rfl rfl Y50 rfl Be mM (by first | (simp [hr0]; done) | assumption | (rw [Ab, List.length_map]; assumption)) ?_
    | refine Tr.lN _ rfl rfl rfl Y50 rfl Be mM (by exact rfl) (by first | (simp [hr0]; done) | assumption | (rw [Ab, List.length_map]; assumption)) ?_
   refine Tr.callL (L := [⟨p.2.1, Ab (l ++ Av (UInt64.ofNat s.n) ++ (ls.take p.1).flatten), 5, p.2.2 * 1⟩]) rfl rfl rfl rfl rfl Body108 (put_digest p.2.1 (n + szN s.n + p.1 * 32) p.2.2 (l ++ Av (UInt64.ofNat s.n) ++ (ls.take p.1).flatten) (ls.getD p.1 []) (by simp only [List.length_append, As, hon, hl, Bp hW.2.row (show p.1 ≤ ls.length by omega)]) hr0 hp2 oM) rM lO (fun w h => Ah h mM) ?_
   rintro v23 out23 ⟨q2, c2, rfl, hq2, rfl⟩
   refine Tr.a rfl rfl rfl ?_
   refine Tr.nil (Cc (Aa (Sat.region ?_)))
   refine Tr.aI rfl rfl rfl rfl oM ?_
   refine Tr.m rfl rfl rfl ?_
   refine Tr.nil (Aa ?_)
   exact ⟨(p.1 + 1, q2, c2), ⟨by simp only []; omega, by simp only []; omega⟩, by simp only []; omega, Ar (wk1 (by rw [show n + szN s.n + (p.1 + 1) * 32 = n + szN s.n + p.1 * 32 + 32 by omega]; rfl) (wk1 rfl (wk1 rfl (wk1 rfl (wk1 rfl wk0))))) (wh1 (by rw [flatten_take_step (show p.1 < ls.length by omega), ← List.append_assoc]; exact mem0) wh0) nD⟩
  ·
   have hpe : p.1 = s.n := by omega
   refine Sat.exit (Bi (Bi (bl_h (Aa (Sat.seq (Sat.region ?_))))))
   refine Tr.m rfl rfl rfl ?_
   refine Tr.a rfl rfl rfl ?_
   refine Tr.nil (Aa (Sat.ret (Ai ?_)))
   refine ⟨_, [⟨p.2.1, Ab (l ++ Av (UInt64.ofNat s.n) ++ ls.flatten), 5, p.2.2 * 1⟩], Ae rfl rfl, (by intro b hb; rw [List.mem_singleton.1 hb, show ls.flatten = (ls.take p.1).flatten by rw [List.take_of_length_le oM]]; exact mem0), B0, ⟨p.2.1, p.2.2, by rw [hpe], by omega, rfl⟩⟩

def mz (k : Int) (h : UInt64) : Msg := ⟨k, h, Sl.nil, Sl.nil, Sl.nil, Sl.nil, Sl.nil, Sl.nil⟩
def dz (k : Int) (h : UInt64) : DMsg := ⟨k, h, [], [], [], [], [], []⟩
theorem rows_none {W : World} {m : Nat} : RowsAt W Sl.nil m [] := ⟨rfl, fun l h => (by cases h), Nat.le_refl _, SeesP.nil, by decide, fun _ => rfl⟩
theorem mz_is {W : World} (k : Int) (h : UInt64) (hk : (Lit.int .i64 k).wf = true) : MsgIs W (mz k h) (dz k h) :=
  ⟨⟨trivial⟩, rfl, hk, rfl, rows_none, rows_none, ⟨[], SeqIs.none⟩, ⟨[], SeqIs.none⟩, ⟨[], SeqIs.none⟩, ⟨[], SeqIs.none⟩⟩
theorem mz_hello : (dz 1 3).check = 0 := Bo (by unfold DMsg.bad; decide)
theorem mz_blocks : (dz 3 0).check = 2 := Bz (by unfold DMsg.bad; decide)
def helloB (D : DMsg) : List UInt8 := [1] ++ Av D.dHeight ++ Av (UInt64.ofNat D.dHeads.length) ++ D.dHeads.flatten
theorem hello_ex : helloB (dz 1 3) = [1, 3, 0] := by kernel_rfl

theorem bytes_hello (m : Msg) (D : DMsg) (hk : D.dKind = 1) (hc : D.check = 0) (hh : D.dHeads.length ≤ 40) : Meets Tryz.prog 28 [agg m.cells] [] (fun W => MsgIs W m D) (fun v out => ∃ q c, v = .tuple #[.slice (some ⟨q, 0, none⟩) (helloB D).length c, i64 0] ∧ (helloB D).length ≤ c ∧ out = [⟨q, Ab (helloB D), 5, c * 1⟩]) := by
 intro W hW
 have hok := hW.ok
 have hkm : m.fKind = 1 := hW.fKind.trans hk
 have hpk : Ao m.fKind = 3 := by rw [hkm]; rfl
 have hhl := hW.fHeads.len
 have hz1 := A9 m.fHeight.toNat
 have hz2 := A9 m.fHeads.n
 have hbk : Hw.Bq m.fKind = 1 := by rw [hkm]; rfl
 refine An Tryz.func28 rfl 73 Tryz.ntmps28 rfl ?_
 refine Sat.seq (Sat.region ?_)
 refine Tr.boxA rfl rfl ?_
 intro n1 hn1 hf1
 refine Tr.a rfl rfl rfl ?_
 refine Tr.a rfl rfl rfl ?_
 refine Tr.nil (Aa (Sat.seq (Sat.seq (Sat.region ?_))))
 refine Tr.lA rfl rfl rfl Y57 rfl Sz57 mM (Msg.length (by first | exact oK  | exact hok)) ?_
 refine Tr.cV rfl rfl rfl rfl Body34 (msg_check m D) (fun w h => hW.ext h rfl) ?_
 refine Tr.a rfl rfl rfl ?_
 refine Tr.nil (Aa (Sat.seq (Sat.region ?_)))
 refine Tr.m rfl rfl rfl ?_
 refine Tr.nei rfl rfl rfl rfl (show (!decide _) = false from congrArg not (decide_eq_true (hc))) ?_
 refine Tr.nil (Aa ?_)
 refine Sat.cond_f rfl (rfl) ?_
 refine Sat.skip (Aa (Sat.seq (Sat.region ?_)))
 refine Tr.fld rfl rfl rfl Y57 rfl Sz3 dE _ rfl ?_
 refine Tr.load1 rfl rfl rfl Y3 rfl mM (by first | exact Msg.get_fKind (by first | exact oK  | exact hok) | exact vL) ?_
 refine Tr.cV rfl rfl rfl rfl Body93 ((show Meets _ _ _ _ _ (fun v out => v = i64 3 ∧ out = []) from by have h := sync_parts m.fKind; rwa [hpk] at h)) tV ?_
 refine Tr.a rfl rfl rfl ?_
 refine Tr.nil (Aa (Sat.seq (Sat.region ?_)))
 refine Tr.fld rfl rfl rfl Y57 rfl Sz3 dE _ rfl ?_
 refine Tr.load1 rfl rfl rfl Y3 rfl mM (by first | exact Msg.get_fKind (by first | exact oK  | exact hok) | exact vL) ?_
 refine Tr.conv rfl rfl rfl Y3 Y5 (cv_i64_u8 _) ?_
 rw [hbk]
 refine Tr.mkRow (z := u8 0) [u8 1] (Ab [1]) rfl rfl rfl Y58 Sz5 Zr5 rfl rfl (by intro v hv; rw [List.mem_singleton.1 hv]; rfl) dE rfl ?_
 intro q18
 refine Tr.a rfl rfl rfl ?_
 refine Tr.nil (Aa (Sat.seq (Sat.seq (Sat.region ?_))))
 refine Tr.m rfl rfl rfl ?_
 refine Tr.and_i64 rfl rfl rfl rfl ?_
 refine Tr.nei rfl rfl rfl rfl (show (!decide _) = true from congrArg not (decide_eq_false dE)) ?_
 refine Tr.nil (Aa ?_)
 refine Sat.cond_t rfl (rfl) ?_
 refine Sat.region ?_
 refine Tr.m rfl rfl rfl ?_
 refine Tr.fld rfl rfl rfl Y57 rfl B6 dE _ rfl ?_
 refine Tr.load1 rfl rfl rfl Y48 rfl mM (by first | exact Msg.get_fHeight (by first | exact oK  | exact hok) | exact vL) ?_
 refine Tr.call4 rfl rfl rfl rfl rfl Body106 (oct_Number (some ⟨q18, 0, none⟩) 1 1 [1] m.fHeight rfl (fun e => by cases e) dE) (fun w h => SeesP.of (Aq h mM)) ?_
 rintro v25 out25 ⟨q25, c25, rfl, hc25, rfl⟩
 refine Tr.a rfl rfl rfl ?_
 refine Tr.nil (Aa (Sat.seq (Sat.seq (Sat.region ?_))))
 refine Tr.m rfl rfl rfl ?_
 refine Tr.and_i64 rfl rfl rfl rfl ?_
 refine Tr.nei rfl rfl rfl rfl (show (!decide _) = true from congrArg not (decide_eq_false dE)) ?_
 refine Tr.nil (Aa ?_)
 refine Sat.cond_t rfl (rfl) ?_
 refine Sat.region ?_
 refine Tr.m rfl rfl rfl ?_
 refine Tr.fld rfl rfl rfl Y57 rfl Sz51 dE _ rfl ?_
 refine Tr.load1 rfl rfl rfl Y51 rfl mM (by first | exact Msg.get_fHeads (by first | exact oK  | exact hok) | exact vL) ?_
 refine Tr.call4 rfl rfl rfl rfl rfl Body107 (put_digests (some ⟨q25, 0, none⟩) (1 + szN m.fHeight.toNat) c25 ([1] ++ Av m.fHeight) m.fHeads D.dHeads (by simp [As]; omega) (fun e => by cases e) oM oM) (fun w h => ⟨SeesP.of (Aq h mM), rows_ext h rfl hW.fHeads⟩) ?_
 rintro v32 out32 ⟨q32, c32, rfl, hc32, rfl⟩
 refine Tr.a rfl rfl rfl ?_
 refine Tr.nil (Aa (Sat.seq (Sat.seq (Sat.region ?_))))
 refine Tr.m rfl rfl rfl ?_
 refine Tr.and_i64 rfl rfl rfl rfl ?_
 refine Tr.nei rfl rfl rfl rfl (show (!decide _) = false from congrArg not (decide_eq_true dE)) ?_
 refine Tr.nil (Aa ?_)
 refine Sat.cond_f rfl (rfl) ?_
 refine Sat.skip (Aa (Sat.seq (Sat.seq (Sat.region ?_))))
 refine Tr.m rfl rfl rfl ?_
 refine Tr.and_i64 rfl rfl rfl rfl ?_
 refine Tr.nei rfl rfl rfl rfl (show (!decide _) = false from congrArg not (decide_eq_true dE)) ?_
 refine Tr.nil (Aa ?_)
 refine Sat.cond_f rfl (rfl) ?_
 refine Sat.skip (Aa (Sat.seq (Sat.seq (Sat.region ?_))))
 refine Tr.m rfl rfl rfl ?_
 refine Tr.and_i64 rfl rfl rfl rfl ?_
 refine Tr.nei rfl rfl rfl rfl (show (!decide _) = false from congrArg not (decide_eq_true dE)) ?_
 refine Tr.nil (Aa ?_)
 refine Sat.cond_f rfl (rfl) ?_
 refine Sat.skip (Aa (Sat.seq (Sat.seq (Sat.region ?_))))
 refine Tr.m rfl rfl rfl ?_
 refine Tr.and_i64 rfl rfl rfl rfl ?_
 refine Tr.nei rfl rfl rfl rfl (show (!decide _) = false from congrArg not (decide_eq_true dE)) ?_
 refine Tr.nil (Aa ?_)
 refine Sat.cond_f rfl (rfl) ?_
 refine Sat.skip (Aa (Sat.seq (Sat.seq (Sat.region ?_))))
 refine Tr.m rfl rfl rfl ?_
 refine Tr.and_i64 rfl rfl rfl rfl ?_
 refine Tr.nei rfl rfl rfl rfl (show (!decide _) = false from congrArg not (decide_eq_true dE)) ?_
 refine Tr.nil (Aa ?_)
 refine Sat.cond_f rfl (rfl) ?_
 refine Sat.skip (Aa (Sat.seq (Sat.region ?_)))
 refine Tr.m rfl rfl rfl ?_
 refine Tr.a rfl rfl rfl ?_
 refine Tr.a rfl rfl rfl ?_
 refine Tr.nil (Aa (Sat.ret (Ai ?_)))
 have hN : (helloB D).length = 1 + szN m.fHeight.toNat + szN m.fHeads.n + m.fHeads.n * 32 := by
  have hfl := Bp hW.fHeads.row (Nat.le_refl D.dHeads.length)
  rw [List.take_length] at hfl
  simp only [helloB, List.length_append, As, hfl, ← hW.fHeight, hhl, A2 (n := m.fHeads.n) oM, List.length_cons, List.length_nil]
 have hE : [1] ++ Av m.fHeight ++ Av (UInt64.ofNat m.fHeads.n) ++ D.dHeads.flatten = helloB D := by rw [helloB, hW.fHeight, hhl]
 refine ⟨_, [⟨q32, Ab (helloB D), 5, c32 * 1⟩], Bc rfl rfl rfl, (by intro b hb; rw [List.mem_singleton.1 hb, ← hE]; exact mem0), B0, ⟨q32, c32, by rw [hN], by rw [hN]; exact hc32, rfl⟩⟩

theorem law25_lives  : Meets Tryz.prog 23 [] [] (fun _ => True) (fun v out => v = .bool true ∧ out = []) := by
 intro W hW
 refine An Tryz.func23 rfl 20 Tryz.ntmps23 rfl ?_
 refine Sat.seq (Sat.region ?_)
 refine Tr.a rfl rfl rfl ?_
 refine Tr.nil (Aa (Sat.seq (Sat.region ?_)))
 refine Tr.build (cs := (mz 1 3).cells) rfl rfl rfl (fun w => by kernel_rfl) ?_
 refine Tr.call4 rfl rfl rfl rfl rfl Body28 (bytes_hello (mz 1 3) (dz 1 3) rfl mz_hello dE) (fun w h => mz_is 1 3 rfl) ?_
 rintro v5 out5 ⟨q5, c5, rfl, hc5, rfl⟩
 refine Tr.m rfl rfl rfl ?_
 refine Tr.eX rfl rfl rfl rfl ?_
 refine Tr.eX rfl rfl rfl rfl ?_
 refine Tr.a rfl rfl rfl ?_
 refine Tr.a rfl rfl rfl ?_
 refine Tr.nil (Aa (Sat.seq (Sat.region ?_)))
 refine Tr.m rfl rfl rfl ?_
 refine Tr.eqi rfl rfl rfl rfl (decide_eq_true (rfl)) ?_
 refine Tr.m rfl rfl rfl ?_
 refine Tr.m rfl rfl rfl ?_
 refine Tr.toStr rfl rfl rfl Y58 Y5 Y9 (fun w h => SeesP.of (Aq h mM)) rfl ?_
 refine Tr.eql_str rfl rfl rfl rfl (decide_eq_true (hello_ex)) ?_
 refine Tr.pick rfl rfl rfl rfl rfl rfl ?_
 refine Tr.m rfl rfl rfl ?_
 refine Tr.build (cs := (mz 3 0).cells) rfl rfl rfl (fun w => by kernel_rfl) ?_
 refine Tr.cV rfl rfl rfl rfl Body34 (msg_check (mz 3 0) (dz 3 0)) (fun w h => mz_is 3 0 rfl) ?_
 refine Tr.eqi rfl rfl rfl rfl (decide_eq_true (by rw [mz_blocks])) ?_
 refine Tr.pick rfl rfl rfl rfl rfl rfl ?_
 refine Tr.a rfl rfl rfl ?_
 refine Tr.nil (Aa (Sat.ret (Ai ?_)))
 refine ⟨_, [], Ae rfl rfl, sP, sP, ?_, rfl⟩
 rfl

end Go.Proofs.YtdifpjmfabhpiaaGreat
end

section
namespace Hw
open Go Go.RowKit

def MeetsD (P : Program) (f : FuncId) (args : List Value) (lent : List Nat) (Pre : World → Prop) (R : Value → List Blk → Prop) : Prop :=
  ∀ W, Pre W → ∀ u, CallsD P f args.toArray u W fun e u' W' => u' = u ∧ ∃ v out, e = .returned v ∧ R v out ∧ Ret lent out W W'

theorem callsD_of {P : Program} {f : FuncId} {fn : Func} {code : Code} {args : List Value} {W : World} {u : FrameMode} {lent : List Nat} {hp0 : List Blk} {R : Value → List Blk → Prop}
    (hf : P.funcs[f]? = some fn) (hb : fn.body = some code) (N : Nat) (hN : fn.ntmps = N) (hlen : Nat.ble args.length N = true)
    (hh : HRep ⟨P, W, N, lent, [], []⟩ hp0 W)
    (h : Sat ⟨P, W, N, lent, [], []⟩ code ⟨argSlots 0 args, hp0⟩ (endQ ⟨P, W, N, lent, [], []⟩ fn R)) :
    CallsD P f args.toArray u W fun e u' W' => u' = u ∧ ∃ v out, e = .returned v ∧ R v out ∧ Ret lent out W W' := by
  have hlen := Nat.le_of_ble_eq_true hlen
  subst hN
  refine callsD_of_wp hf hb (wp_mono (h _ _ ⟨⟨?_, rfl, fun t v ht => ?_⟩, hh⟩) fun e a' w' ⟨s', r', q⟩ => ?_)
  · simp; omega
  · have := argSlots_look args 0 t v ht
    rw [Array.getElem?_append]
    have hlt : t < args.length := by
      rcases Nat.lt_or_ge t args.length with h1 | h1
      · exact h1
      · rw [List.getElem?_eq_none oM] at this; cases this.2
    simp only [List.size_toArray]
    rw [if_pos hlt]
    simpa using this.2
  · have fin : (∃ v out, Res ⟨P, W, fn.ntmps, lent, [], []⟩ fn s' v ∧ (∀ b ∈ out, b ∈ s'.hp) ∧ ((s'.hp.map (·.n)).Nodup → (out.map (·.n)).Nodup) ∧ R v out) →
        a'.defers = [] ∧ ∃ v, (results fn a'.tmps).run P w' = .ok v w' ∧ ∃ v' out, Ending.returned v = .returned v' ∧ R v' out ∧ Ret lent out W w' := by
      rintro ⟨v, out, hr, hsub, hnd, hR⟩
      exact ⟨r'.rs.defers, v, hr a' w' r', v, out, rfl, hR, r'.rh.keeps, fun b hb => r'.rh.cells b (hsub b hb), hnd r'.rh.nodup, fun b hb => r'.rh.own b (hsub b hb)⟩
    cases e with
    | normal => exact fin q
    | ret => exact fin q
    | _ => exact q.elim

theorem res_cell_cell {C : Cx} {fn : Func} {s : St} {t t2 : Tmp} {T T2 : TypeId} {td td2 : TypeDesc} {n b b2 : Nat} {cs cs2 : List Value} {BT BT2 : TypeId} {m m2 : Nat} {v2 : Value} (hr : fn.results = #[.cell t T, .cell t2 T2]) (hv : look s.sl t = some (ptr b 0)) (hv2 : look s.sl t2 = some (ptr b2 0)) (hu : C.P.underlying T = some td) (hp' : Bx td = false) (hs : Sz C.P T n) (hb : (⟨b, cs, BT, m⟩ : Blk) ∈ s.hp) (hn : cs.length = n)
    (hu2 : C.P.underlying T2 = some td2) (hp2 : Bx td2 = true) (hb2 : (⟨b2, v2 :: cs2, BT2, m2⟩ : Blk) ∈ s.hp) : Res C fn s (.tuple #[agg cs, v2]) := by
  intro a w r
  have h1 := r.rs.slots t _ hv
  have h2 := r.rs.slots t2 _ hv2
  have h3 : w.cell? ⟨b2, 0, none⟩ = some v2 := (r.rh.cells _ hb2).cell (o := 0) rfl
  have k1 := run_cellAll r.rh hu hp' hs hb hn
  have k2 : (loadVar T2 ⟨b2, 0, none⟩).run C.P w = .ok v2 w := by simp [loadVar, run_isAgg_plain hu2 hp2, load, Sem.run, h3]
  simp [results, hr, h1, h2, asAddr, k1, k2]

abbrev dfr (g : Nat) (cap : Array Value) : Deferred := { target := .fn (.func g) cap, args := #[] }

def endAtD (C : Cx) (g : Nat) (cap : Array Value) (fn : Func) (R : Value → List Blk → Prop) (s : St) : Prop :=
  ∃ (lent : List Nat) (L keep : List Blk) (Pre : World → Prop) (R' : Value → List Blk → Prop), s.hp.Perm (L ++ keep) ∧ (∀ n ∈ lent, ∃ b ∈ L, b.n = n) ∧ MeetsD C.P g cap.toList lent Pre R' ∧ (∀ w, HRep C s.hp w → Pre w) ∧ ∀ v' out', R' v' out' → endAt C fn R ⟨s.sl, out' ++ keep⟩
def endQD (C : Cx) (g : Nat) (cap : Array Value) (fn : Func) (R : Value → List Blk → Prop) : Exit → St → Prop
  | .normal, s | .ret, s => endAtD C g cap fn R s
  | _, _ => False
theorem enD_r {C : Cx} {g : Nat} {cap : Array Value} {fn : Func} {R : Value → List Blk → Prop} {s : St} (h : endAtD C g cap fn R s) : endQD C g cap fn R .ret s := h

theorem run_defer {P : Program} {ρ : Operand → Value} {w : World} {x : Operand} {g : Nat} {cap : Array Value} {ty : TypeId} {pos : String} {af : Array Edge} (hx : ρ x = .func (.func g) #[] cap) :
    (execOp ρ ⟨none, .defer ⟨.value x, #[], #[]⟩, ty, pos, af, none⟩).run P w = .ok (.defer (dfr g cap)) w := by
  simp [execOp, resolve, hx, Deferred.ofValue]

theorem calls_defer {P : Program} {f : FuncId} {fn : Func} {r0 rest : Code} {id : Nat} {o0 : Oper} {x : Operand} {ty : TypeId} {pos : String} {af : Array Edge} {args : List Value} {W : World} {R : Value → List Blk → Prop}
    (hf : P.funcs[f]? = some fn) (hb : fn.body = some (.seq r0 (.seq (.region id [o0, ⟨none, .defer ⟨.value x, #[], #[]⟩, ty, pos, af, none⟩].toArray false) rest))) (N : Nat) (hN : fn.ntmps = N) (hlen : Nat.ble args.length N = true)
    (h : Sat ⟨P, W, N, [], [], []⟩ r0 ⟨argSlots 0 args, []⟩ (thenQ (fun s => Tr ⟨P, W, N, [], [], []⟩ [o0, ⟨none, .defer ⟨.value x, #[], #[]⟩, ty, pos, af, none⟩].toArray [(4, o0)] s (fun s' => ∃ g cap, Ak s'.sl x = some (.func (.func g) #[] cap) ∧ A4 P g ∧
      Sat ⟨P, W, N, [], [], [dfr g cap]⟩ rest s' (endQD ⟨P, W, N, [], [], [dfr g cap]⟩ g cap fn R))) (fun _ _ => False))) :
    Calls P f args.toArray W fun e W' => ∃ v out, e = .returned v ∧ R v out ∧ Ret [] out W W' := by
  have hlen := Nat.le_of_ble_eq_true hlen
  subst hN
  refine calls_of_wp_defers hf hb ?_
  have rep0 : Rep ⟨P, W, fn.ntmps, [], [], []⟩ ⟨argSlots 0 args, []⟩ { tmps := args.toArray ++ Array.replicate (fn.ntmps - args.toArray.size) undef, defers := [] } W := by
    refine ⟨⟨?_, rfl, fun t v ht => ?_⟩, HRep.nil _⟩
    · simp; omega
    · have := argSlots_look args 0 t v ht
      rw [Array.getElem?_append]
      have hlt : t < args.length := by
        rcases Nat.lt_or_ge t args.length with h1 | h1
        · exact h1
        · rw [List.getElem?_eq_none oM] at this; cases this.2
      simp only [List.size_toArray]
      rw [if_pos hlt]
      simpa using this.2
  refine wp_seq (wp_mono (h _ _ rep0) fun e a w ⟨s, r, q⟩ => ?_)
  cases e with
  | normal =>
    refine wp_seq (wp_region ?_)
    simp only [List.toArray, Array.size]
    show wpOps P _ _ [0, 1] a w
    rw [wpOps_cons]
    refine Tr.step (C := ⟨P, W, fn.ntmps, [], [], []⟩) (c := 4) (o := o0) (by rfl) q a w r _ (fun s1 a1 w1 r1 k1 => ?_) _
    rw [wpOps_cons]
    cases k1 with
    | dup h => exact absurd r1.rh.nodup h
    | nil h =>
      obtain ⟨g, cap, hx, hbody, hrest⟩ := h
      have hex := run_defer (P := P) (ρ := a1.eval) (w := w1) (ty := ty) (pos := pos) (af := af) (r1.rs.eval hx)
      have hw : wantS [o0, ⟨none, .defer ⟨.value x, #[], #[]⟩, ty, pos, af, none⟩].toArray s1.sl ⟨none, .defer ⟨.value x, #[], #[]⟩, ty, pos, af, none⟩ = some true := rfl
      unfold wpOp
      have hi : [o0, (⟨none, .defer ⟨.value x, #[], #[]⟩, ty, pos, af, none⟩ : Oper)].toArray[1]? = some ⟨none, .defer ⟨.value x, #[], #[]⟩, ty, pos, af, none⟩ := rfl
      simp only [hi, wantS_ok r1.rs hw, if_true]
      refine .inl ?_
      unfold Oper.wp
      rw [hex, Oper.upon_defer]
      have r2 : Rep ⟨P, W, fn.ntmps, [], [], [dfr g cap]⟩ s1 ({ a1 with defers := dfr g cap :: a1.defers }.put none undef) w1 := by
        refine ⟨⟨r1.rs.size, ?_, r1.rs.slots⟩, r1.rh.cells, r1.rh.nodup, r1.rh.own, r1.rh.keeps, r1.rh.kok, r1.rh.kd⟩
        show dfr g cap :: a1.defers = _
        rw [r1.rs.defers]
      show wpOps P _ _ [] _ _
      refine wp_mono (hrest _ _ r2) fun e a3 w3 ⟨s3, r3, q3⟩ => ?_
      have fin : endAtD ⟨P, W, fn.ntmps, [], [], [dfr g cap]⟩ g cap fn R s3 → Leaves P fn a3.tmps (fun e W' => ∃ v out, e = .returned v ∧ R v out ∧ Ret [] out W W') a3.defers .returning w3 := by
        rintro ⟨lent, L, keep, Pre, R', hsp, hl, hc, hpre, hk⟩
        rw [show a3.defers = [dfr g cap] from r3.rs.defers]
        refine leaves_cons (f := g) (args := cap.toList.toArray) (fun h => by cases h) ?_ ?_
        · have := hbody (#[] ++ cap) w3
          simpa [invoke] using this
        · refine (hc w3 (hpre w3 r3.rh) .returning).mono fun e u' w4 ⟨hu, v', out', he, hR', hret⟩ => ?_
          subst hu; subst he
          have r4 : Rep ⟨P, W, fn.ntmps, [], [], [dfr g cap]⟩ ⟨s3.sl, out' ++ keep⟩ a3 w4 := ⟨r3.rs, r3.rh.lentRet hsp hl hret⟩
          obtain ⟨v, out, hr, hsub, hnd, hR⟩ := hk v' out' hR'
          exact ⟨v, hr a3 w4 r4, v, out, rfl, hR, r4.rh.keeps, fun b hb => r4.rh.cells b (hsub b hb), hnd r4.rh.nodup, fun b hb => r4.rh.own b (hsub b hb)⟩
      cases e with
      | normal => exact fin q3
      | ret => exact fin q3
      | _ => exact q3.elim
  | _ => exact q.elim
end Hw
end

section
namespace Go.Proofs.YtdifpjmfabhpiaaGreat
open Go Hw

def DCut.zero : DCut := ⟨0, List.replicate 32 0, []⟩
def cutP (xs : List UInt8) : DCut × Nat × Int :=
  let r1 := A7 xs 0 0
  let r2 := digR xs r1.2.1 r1.2.2
  let r3 := A7 xs r2.2.1 r2.2.2
  let r4 := Bk xs (min r3.1.toNat 33) r3.2.1 r3.2.2
  (⟨r1.1, r2.1, r4.1⟩, r4.2)
def B5 (xs : List UInt8) : DCut × Int :=
  if endR xs.length (cutP xs).2.1 (cutP xs).2.2 = 0 ∧ (cutP xs).1.check = 0 then ((cutP xs).1, 0) else (DCut.zero, 4)
theorem cutz_is (W : World) : CutIs W Cut.zero DCut.zero := ⟨Cut.zero_ok, rfl, rfl, rows_none⟩
def CutRead (xs : List UInt8) (v : Value) (out : List Blk) : Prop := ∃ C : Cut, C.ok ∧ v = .tuple #[agg C.cells, i64 (B5 xs).2] ∧ ∀ W2, Lies out W2 → CutIs W2 C (B5 xs).1
theorem cut_bad {xs : List UInt8} {out : List Blk} (h : ¬ (endR xs.length (cutP xs).2.1 (cutP xs).2.2 = 0 ∧ (cutP xs).1.check = 0)) : CutRead xs (.tuple #[agg Cut.zero.cells, i64 4]) out := by
  refine ⟨Cut.zero, Cut.zero_ok, ?_, fun W2 _ => ?_⟩ <;> rw [show B5 xs = (DCut.zero, 4) from if_neg h]
  exact cutz_is W2
theorem cut_ok {xs : List UInt8} {out : List Blk} {C : Cut} (h : endR xs.length (cutP xs).2.1 (cutP xs).2.2 = 0 ∧ (cutP xs).1.check = 0) (hok : C.ok) (hC : ∀ W2, Lies out W2 → CutIs W2 C (cutP xs).1) : CutRead xs (.tuple #[agg C.cells, i64 0]) out := by
  refine ⟨C, hok, ?_, fun W2 h2 => ?_⟩ <;> rw [show B5 xs = ((cutP xs).1, 0) from if_pos h]
  exact hC W2 h2

theorem cut_r1_ok (b c : Nat) (X : Cut) (hX : X.ok) (hbc : b ≠ c) : MeetsD Tryz.prog 175 [ptr b 0, ptr c 0] [b, c] (fun W => BlkOk W ⟨b, [i64 0], 32, 1⟩ ∧ BlkOk W ⟨c, (X).cells, 53, 34⟩) (fun v out => v = .tuple #[] ∧ out = [⟨b, [i64 0], 32, 1⟩, ⟨c, (X).cells, 53, 34⟩]) := by
 intro W hW
 intro u
 refine callsD_of (hp0 := [⟨b, [i64 0], 32, 1⟩, ⟨c, (X).cells, 53, 34⟩]) Tryz.func175 rfl 5 Tryz.ntmps175 rfl (HRep.two hW.1 hW.2 hbc) ?_
 refine Sat.seq (Sat.region ?_)
 refine Tr.load1 rfl rfl rfl Y32 rfl mM (by first | rfl | exact Az (by first | omega | (simp [hX.l_fPrev]; done) | (simp [hX.l_fPrev]; omega)) | exact Ba (by first | omega | (simp [hX.l_fPrev]; done) | (simp [hX.l_fPrev]; omega)) | exact Bu (by first | omega | (simp [hX.l_fPrev]; done) | (simp [hX.l_fPrev]; omega))) ?_
 refine Tr.nei rfl rfl rfl rfl (show (!decide _) = false from congrArg not (decide_eq_true dE)) ?_
 refine Tr.nil (Aa ?_)
 refine Sat.cond_f rfl (rfl) ?_
 refine Sat.skip (en_n ?_)
 refine Am (out := (⟨b, [i64 0], 32, 1⟩ :: (⟨c, (X).cells, 53, 34⟩ :: []))) (res_none rfl) (Ac rM (Ac rM Ad)) ?_
 exact ⟨rfl, rfl⟩

theorem cut_r1_bad (b c : Nat) (X : Cut) (hX : X.ok) (hbc : b ≠ c) : MeetsD Tryz.prog 175 [ptr b 0, ptr c 0] [b, c] (fun W => BlkOk W ⟨b, [i64 4], 32, 1⟩ ∧ BlkOk W ⟨c, (X).cells, 53, 34⟩) (fun v out => v = .tuple #[] ∧ out = [⟨b, [i64 4], 32, 1⟩, ⟨c, (Cut.zero).cells, 53, 34⟩]) := by
 intro W hW
 intro u
 refine callsD_of (hp0 := [⟨b, [i64 4], 32, 1⟩, ⟨c, (X).cells, 53, 34⟩]) Tryz.func175 rfl 5 Tryz.ntmps175 rfl (HRep.two hW.1 hW.2 hbc) ?_
 refine Sat.seq (Sat.region ?_)
 refine Tr.load1 rfl rfl rfl Y32 rfl mM (by first | rfl | exact Az (by first | omega | (simp [hX.l_fPrev]; done) | (simp [hX.l_fPrev]; omega)) | exact Ba (by first | omega | (simp [hX.l_fPrev]; done) | (simp [hX.l_fPrev]; omega)) | exact Bu (by first | omega | (simp [hX.l_fPrev]; done) | (simp [hX.l_fPrev]; omega))) ?_
 refine Tr.nei rfl rfl rfl rfl (show (!decide _) = true from congrArg not (decide_eq_false dE)) ?_
 refine Tr.nil (Aa ?_)
 refine Sat.cond_t rfl (rfl) ?_
 refine Sat.region ?_
 refine Tr.build (cs := Cut.zero.cells) rfl rfl rfl (fun w => by kernel_rfl) ?_
 refine Tr.sA rfl rfl rfl rfl (Cut.isCell (by first | (simp [hX.l_fPrev]; done) | exact oK  | exact hX)) Sz53 (Cut.length (by first | (simp [hX.l_fPrev]; done) | exact oK  | exact hX)) mM (Cut.length (by first | (simp [hX.l_fPrev]; done) | exact oK  | exact hX)) uU ?_
 refine Tr.nil (en_n ?_)
 refine Am (out := (⟨b, [i64 4], 32, 1⟩ :: (⟨c, (Cut.zero).cells, 53, 34⟩ :: []))) (res_none rfl) (Ac rM (Ac rM Ad)) ?_
 exact ⟨rfl, rfl⟩

theorem cut_read (a : Option Addr) (n c : Nat) (xs : List UInt8) (hl : xs.length = n) (hp : a = none → n = 0) (hn : n ≤ 90000) : Meets Tryz.prog 79 [.slice a n c] [] (fun W => SeesP W a (Ab xs)) (CutRead xs) := by
 intro W hW
 obtain ⟨x1, r1, h1⟩ : ∃ l r, A7 xs 0 0 = (l, r) := ⟨_, _, rfl⟩
 obtain ⟨a1, e1⟩ := r1
 obtain ⟨l2, r2, h2⟩ : ∃ l r, digR xs a1 e1 = (l, r) := ⟨_, _, rfl⟩
 obtain ⟨a2, e2⟩ := r2
 obtain ⟨x3, r3, h3⟩ : ∃ l r, A7 xs a2 e2 = (l, r) := ⟨_, _, rfl⟩
 obtain ⟨a3, e3⟩ := r3
 obtain ⟨ls, r4, h4⟩ : ∃ l r, Bk xs (min x3.toNat 33) a3 e3 = (l, r) := ⟨_, _, rfl⟩
 obtain ⟨a4, e4⟩ := r4
 have hcp : cutP xs = (⟨x1, l2, ls⟩, a4, e4) := by simp only [cutP, h1, h2, h3, h4]
 have hd1 := Ce h1 hl (Nat.zero_le _)
 have hd2 := digE_le h2 hl hd1
 have hd3 := Ce h3 hl hd2.1
 have hd4 := digsR_at (e := e3) hl hd3 (min x3.toNat 33)
 rw [h4] at hd4
 have ok1 : ({ Cut.zero with fHeight := x1 } : Cut).ok := ⟨rfl⟩
 have ok2 : ({ Cut.zero with fHeight := x1, fPrev := l2 } : Cut).ok := ⟨hd2.2⟩
 have okX : ∀ s, ({ Cut.zero with fHeight := x1, fPrev := l2, fHeads := s } : Cut).ok := fun s => ⟨hd2.2⟩
 refine calls_defer Tryz.func79 rfl 37 Tryz.ntmps79 rfl ?_
 refine Sat.region ?_
 refine Tr.alloc (cs := Cut.zero.cells) rfl Cut.zr rfl ?_
 intro n2 hn2 hf2
 refine Tr.alloc (cs := [i64 0]) rfl Zr32 rfl ?_
 intro n3 hn3 hf3
 refine Tr.nil (Aa ?_)
 refine Tr.makeFunc rfl rfl rfl rfl ?_
 refine Tr.nil ?_
 refine ⟨_, _, rfl, Body175, ?_⟩
 refine Sat.seq (Sat.region ?_)
 refine Tr.m rfl rfl rfl ?_
 refine Tr.call4 rfl rfl rfl rfl rfl Body91 (oct_Read a n c xs hl hp hn) (fun w h => Aw h rfl hW) ?_
 rintro v7 out7 ⟨n7, q7, cp7, rfl, hcp7, rfl⟩
 refine Tr.nd (fun hnd => ?_)
 have hne : q7 ≠ n7 := by intro e; simp [RB, e] at hnd
 have hn32 : n3 ≠ n2 := by intro e; simp [RB, e] at hnd
 clear hnd
 refine Tr.a rfl rfl rfl ?_
 refine Tr.nil (Aa (Sat.seq (Sat.region ?_)))
 refine Tr.m rfl rfl rfl ?_
 refine Tr.callL (L := [RB n7 q7 n cp7 0 0]) rfl rfl rfl rfl rfl Body94 (rd_NumberE n7 q7 n cp7 0 0 xs hl (Nat.zero_le _) hcp7 oM x1 a1 e1 h1) (Ac rM Ad) (A3 rfl) (fun w h => ⟨Ah h mM, Aq h mM, hne⟩) ?_
 rintro v9 out9 ⟨rfl, rfl⟩
 refine Tr.m rfl rfl rfl ?_
 refine Tr.callL (L := [RB n7 q7 n cp7 a1 e1]) rfl rfl rfl rfl rfl Body173 (rd_DigestE n7 q7 n cp7 a1 e1 xs hl hd1 hcp7 oM l2 a2 e2 h2) (Ac rM Ad) (A3 rfl) (fun w h => ⟨Ah h mM, Aq h mM, hne⟩) ?_
 rintro v9 out9 ⟨rfl, rfl⟩
 refine Tr.fld rfl rfl rfl Y53 rfl B6 dE _ rfl ?_
 refine Tr.s1 rfl rfl rfl rfl rfl B6 mM (by rw [Cut.length (by first | (simp [hd2.2]; done) | exact oK  | exact okX _ | exact ok1 | exact ok2)]; decide) (Cut.set_fHeight (by first | (simp [hd2.2]; done) | exact oK  | exact okX _ | exact ok1 | exact ok2) _) uU ?_
 refine Tr.fld rfl rfl rfl Y53 rfl Be dE _ rfl ?_
 refine Tr.storeN (Ab _) rfl rfl rfl rfl rfl cB Be (by simp [hd2.2]) mM (by rw [Cut.length (by first | (simp [hd2.2]; done) | exact oK  | exact okX _ | exact ok1 | exact ok2)]; simp [hd2.2]) (Cut.upd_fPrev (by first | (simp [hd2.2]; done) | exact oK  | exact okX _ | exact ok1 | exact ok2) _ (by simp [hd2.2])) uU ?_
 refine Tr.nil (Aa (Sat.seq (Sat.seq (Sat.region ?_))))
 refine Tr.m rfl rfl rfl ?_
 refine Tr.callL (L := [RB n7 q7 n cp7 a2 e2]) rfl rfl rfl rfl rfl Body94 (rd_NumberE n7 q7 n cp7 a2 e2 xs hl hd2.1 hcp7 oM x3 a3 e3 h3) (Ac rM Ad) (A3 rfl) (fun w h => ⟨Ah h mM, Aq h mM, hne⟩) ?_
 rintro v9 out9 ⟨rfl, rfl⟩
 refine Tr.min2 rfl rfl rfl rfl (show Value.int .u64 (if (33 : Int) < (x3.toNat : Int) then 33 else (x3.toNat : Int)) = .int .u64 ((min x3.toNat 33 : Nat) : Int) from by congr 1; split <;> omega) ?_
 refine Tr.m rfl rfl rfl ?_
 refine Tr.nil (Aa (Sat.block ?_))
 refine Sat.loop (ι := Nat × Sl × List Blk) (fun p => ⟨[(2, ptr n2 0), (3, ptr n3 0), (4, ptr n7 0), (16, .int .u64 ((min x3.toNat 33 : Nat) : Int)), (17, u64 (UInt64.ofNat p.1))], (RB n7 q7 n cp7 (Bk xs p.1 a3 e3).2.1 (Bk xs p.1 a3 e3).2.2 :: (⟨q7, Ab xs, 5, cp7 * 1⟩ :: (⟨n3, [i64 0], 32, 1⟩ :: (⟨n2, (({ Cut.zero with fHeight := x1, fPrev := l2, fHeads := p.2.1 } : Cut)).cells, 53, 34⟩ :: (p.2.2 ++ [])))))⟩) (fun p => p.1 ≤ min x3.toNat 33 ∧ Acc p.2.1 p.2.2 (Cb (Bk xs p.1 a3 e3).1) 50 p.1 32) (fun p => min x3.toNat 33 - p.1) ((0, Sl.nil, [])) ?_ ?_ ?_
 · exact ⟨Nat.zero_le _, Acc.none⟩
 · exact Af (wk1 rfl (wk1 rfl (wk1 rfl (wk1 rfl (wk1 rfl wk0))))) (Ac rM (Ac rM (Ac rM (Ac rM (B3 Ad)))))
 ·
  rintro p ⟨hp1, hac⟩
  have hD := digsR_at (e := e3) hl hd3 p.1
  obtain ⟨l5, r5, hd5⟩ : ∃ l r, digR xs (Bk xs p.1 a3 e3).2.1 (Bk xs p.1 a3 e3).2.2 = (l, r) := ⟨_, _, rfl⟩
  obtain ⟨a5, e5⟩ := r5
  have hdl := digE_le hd5 hl hD.1
  have hs := digsR_succ hd5
  have hj64 : (UInt64.ofNat p.1).toNat = p.1 := A2 oM
  refine Sat.seq (Sat.region ?_)
  refine Tr.lss rfl rfl rfl rfl rfl ?_
  refine Tr.nil (Aa (Sat.seq ?_))
  first
   | refine Sat.condP rfl (fun hc0 => ?_) (fun hc0 => ?_)
   | refine Sat.condNP rfl (fun hc0 => ?_) (fun hc0 => ?_)
   | refine Sat.cond rfl (fun hc0 => ?_) (fun hc0 => ?_)
  ·
   have hp3 : p.1 < min x3.toNat 33 := by omega
   refine Sat.skip (Aa (Sat.seq (Sat.block ?_)))
   refine Sat.drawK (sp_v (sp_v (sp_v (sp_k (sp_x sp_n))))) rfl [(0, 0), (0, 1), (0, 2), (4, 3), (2, 4), (4, 5), (0, 6)] [(4, 7)] B2 zK zK ?_
   refine Tr.fld rfl rfl rfl Y53 rfl Sz51 dE _ rfl ?_
   refine Tr.kload1 rfl rfl rfl Y51 rfl mM (by first | exact Cut.get_fHeads (by first | (simp [hd2.2]; done) | exact oK  | exact okX _ | exact ok1 | exact ok2) | exact (by first | rfl | exact Az (by first | omega | (simp [hd2.2]; done) | (simp [hd2.2]; omega)) | exact Ba (by first | omega | (simp [hd2.2]; done) | (simp [hd2.2]; omega)) | exact Bu (by first | omega | (simp [hd2.2]; done) | (simp [hd2.2]; omega)))) ?_
   refine Tr.m rfl rfl rfl ?_
   refine Tr.callL (L := [RB n7 q7 n cp7 (Bk xs p.1 a3 e3).2.1 (Bk xs p.1 a3 e3).2.2]) rfl rfl rfl rfl rfl Body173 (rd_DigestE n7 q7 n cp7 (Bk xs p.1 a3 e3).2.1 (Bk xs p.1 a3 e3).2.2 xs hl hD.1 hcp7 oM l5 a5 e5 hd5) (Ac rM Ad) (A3 rfl) (fun w h => ⟨Ah h mM, Aq h mM, hne⟩) ?_
   rintro v9 out9 ⟨rfl, rfl⟩
   refine Tr.mkRow2 (z := agg (Ab (List.replicate 32 0))) [agg (Ab l5)] (Ab l5) rfl rfl Y51 Be Zr50 rfl rfl (by intro v hv; rw [List.mem_singleton.1 hv]; simp [Value.cells, hdl.2]) dE (by simp [Value.cells]) ?_
   intro q23
   refine Tr.appendAcc (z := agg (Ab (List.replicate 32 0))) (by' := 32) (Ab l5) rfl rfl rfl rfl rfl Y51 Y51 Be Zr50 (by unfold By; kernel_rfl) rfl hac sG (fun w h => SeesP.of (Aq h mM)) (fun e => by cases e) (Bd _) oM oM (by simp [Ab, hdl.2]) ?_
   intro s24 bl24 hac24
   refine Tr.fld rfl rfl rfl Y53 rfl Sz51 dE _ rfl ?_
   refine Tr.nil ?_
   refine Tr.s1 rfl rfl rfl rfl rfl Sz51 mM (by rw [Cut.length (by first | (simp [hd2.2]; done) | exact oK  | exact okX _ | exact ok1 | exact ok2)]; decide) (by first | exact Cut.set_fHeads (by first | (simp [hd2.2]; done) | exact oK  | exact okX _ | exact ok1 | exact ok2) _ | exact Cut.setS_fHeads (by first | (simp [hd2.2]; done) | exact oK  | exact okX _ | exact ok1 | exact ok2) _ _ _) uU ?_
   refine Tr.nil (Cc (Aa (Sat.region ?_)))
   refine Tr.add_u64 rfl rfl rfl (show Ak _ _ = some (u64 1) from rfl) ?_
   refine Tr.m rfl rfl rfl ?_
   refine Tr.nil (Aa ?_)
   refine ⟨(p.1 + 1, s24, bl24), ⟨by simp only []; omega, ?_⟩, by simp only []; omega, Af (wk1 rfl (wk1 rfl (wk1 rfl (wk1 rfl (wk1 (congrArg (fun z => some (u64 z)) (ofNat_step _)) wk0))))) (pm_consE rM (by simp only [hs]) rfl (Ac rM (Ac rM (Ac rM (Aj sG Ad)))))⟩
   simp only [hs]
   rw [flatB_append]
   simpa [Cb] using hac24
  ·
   have hp3 : p.1 = min x3.toNat 33 := by omega
   rw [hp3, h4] at hac
   rw [hp3, h4]
   refine Sat.exit (Bi (Bi (bl_h (Aa (Sat.seq (Sat.seq (Sat.region ?_)))))))
   refine Tr.m rfl rfl rfl ?_
   refine Tr.cV rfl rfl rfl rfl Body105 (rd_End n7 q7 n cp7 a4 e4 hd4.1 oM) (fun w h => Ah h mM) ?_
   refine two (fun r hr k => Tr.nei rfl rfl rfl rfl hr k) (fun hs8_20 => ?_) (fun hs8_20 => ?_)
   ·
    first | have hs8_2 := of_decide_eq_true hs8_20 | have hs8_2 := of_decide_eq_false hs8_20 | have hs8_2 := A0 hs8_20 | have hs8_2 := A1 hs8_20 | have hs8_2 := hs8_20
    refine Tr.m rfl rfl rfl ?_
    refine Tr.skp rfl rfl ?_
    refine Tr.skp rfl rfl ?_
    refine Tr.skp rfl rfl ?_
    refine Tr.pick rfl rfl rfl rfl rfl rfl ?_
    refine Tr.nil (Aa ?_)
    refine Sat.cond_t rfl rfl ?_
    refine Sat.seq (Sat.region ?_)
    refine Tr.lA rfl rfl rfl Y53 rfl Sz53 mM (Cut.length (by first | (simp [hd2.2]; done) | exact oK  | exact okX _ | exact ok1 | exact ok2)) ?_
    refine Tr.sA rfl rfl rfl rfl (Cut.isCell (by first | (simp [hd2.2]; done) | exact oK  | exact okX _ | exact ok1 | exact ok2)) Sz53 (Cut.length (by first | (simp [hd2.2]; done) | exact oK  | exact okX _ | exact ok1 | exact ok2)) mM (Cut.length (by first | (simp [hd2.2]; done) | exact oK  | exact okX _ | exact ok1 | exact ok2)) uU ?_
    refine Tr.s1 rfl rfl rfl rfl rfl Sz32 mM (by first | (simp [hd2.2]; done) | (simp [hd2.2]; omega)) sT uU ?_
    refine Tr.nil (Aa (Sat.ret (Ap ?_)))
    refine enD_r ?_
    refine ⟨[n3, n2], [⟨n3, [i64 4], 32, 1⟩, ⟨n2, (({ Cut.zero with fHeight := x1, fPrev := l2, fHeads := p.2.1 } : Cut)).cells, 53, 34⟩], _, _, _, (Ac rM (Ac rM Ad)), A3 rfl, cut_r1_bad n3 n2 (({ Cut.zero with fHeight := x1, fPrev := l2, fHeads := p.2.1 } : Cut)) (okX _) hn32, (fun w h => ⟨Ah h mM, Ah h mM⟩), fun v2 out2 h => ?_⟩
    obtain ⟨rfl, rfl⟩ := h
    refine Am (out := []) (res_cell_cell rfl rfl rfl Y53 rfl Sz53 mM (Cut.length (by first | exact okX _ | exact Cut.zero_ok)) Y32 rfl mM) Ad ?_
    exact cut_bad (by rw [hcp, hl]; exact fun h => hs8_2 h.1)
   ·
    first | have hs8_2 := of_decide_eq_true hs8_20 | have hs8_2 := of_decide_eq_false hs8_20 | have hs8_2 := A0 hs8_20 | have hs8_2 := A1 hs8_20 | have hs8_2 := hs8_20
    refine Tr.m rfl rfl rfl ?_
    refine Tr.lA rfl rfl rfl Y53 rfl Sz53 mM (Cut.length (by first | (simp [hd2.2]; done) | exact oK  | exact okX _ | exact ok1 | exact ok2)) ?_
    refine Tr.cV rfl rfl rfl rfl Body87 (cut_check ({ Cut.zero with fHeight := x1, fPrev := l2, fHeads := p.2.1 } : Cut) ⟨x1, l2, ls⟩) (fun w h => ⟨okX _, rfl, rfl, acc_rows hac (Lies.of h iN) hd4.2.1 (by rw [hd4.2.2]) oM⟩) ?_
    refine Tr.nei rfl rfl rfl rfl rfl ?_
    refine Tr.pick rfl rfl rfl rfl rfl rfl ?_
    refine Tr.nil (Aa ?_)
    first
     | refine Sat.condP rfl (fun hc1 => ?_) (fun hc1 => ?_)
     | refine Sat.condNP rfl (fun hc1 => ?_) (fun hc1 => ?_)
     | refine Sat.cond rfl (fun hc1 => ?_) (fun hc1 => ?_)
    ·
     refine Sat.seq (Sat.region ?_)
     refine Tr.lA rfl rfl rfl Y53 rfl Sz53 mM (Cut.length (by first | (simp [hd2.2]; done) | exact oK  | exact okX _ | exact ok1 | exact ok2)) ?_
     refine Tr.sA rfl rfl rfl rfl (Cut.isCell (by first | (simp [hd2.2]; done) | exact oK  | exact okX _ | exact ok1 | exact ok2)) Sz53 (Cut.length (by first | (simp [hd2.2]; done) | exact oK  | exact okX _ | exact ok1 | exact ok2)) mM (Cut.length (by first | (simp [hd2.2]; done) | exact oK  | exact okX _ | exact ok1 | exact ok2)) uU ?_
     refine Tr.s1 rfl rfl rfl rfl rfl Sz32 mM (by first | (simp [hd2.2]; done) | (simp [hd2.2]; omega)) sT uU ?_
     refine Tr.nil (Aa (Sat.ret (Ap ?_)))
     refine enD_r ?_
     refine ⟨[n3, n2], [⟨n3, [i64 4], 32, 1⟩, ⟨n2, (({ Cut.zero with fHeight := x1, fPrev := l2, fHeads := p.2.1 } : Cut)).cells, 53, 34⟩], _, _, _, (Ac rM (Ac rM Ad)), A3 rfl, cut_r1_bad n3 n2 (({ Cut.zero with fHeight := x1, fPrev := l2, fHeads := p.2.1 } : Cut)) (okX _) hn32, (fun w h => ⟨Ah h mM, Ah h mM⟩), fun v2 out2 h => ?_⟩
     obtain ⟨rfl, rfl⟩ := h
     refine Am (out := []) (res_cell_cell rfl rfl rfl Y53 rfl Sz53 mM (Cut.length (by first | exact okX _ | exact Cut.zero_ok)) Y32 rfl mM) Ad ?_
     exact cut_bad (by rw [hcp, hl]; exact fun h => hc1 h.2)
    ·
     refine Sat.skip (Aa (Sat.seq (Sat.region ?_)))
     refine Tr.lA rfl rfl rfl Y53 rfl Sz53 mM (Cut.length (by first | (simp [hd2.2]; done) | exact oK  | exact okX _ | exact ok1 | exact ok2)) ?_
     refine Tr.sA rfl rfl rfl rfl (Cut.isCell (by first | (simp [hd2.2]; done) | exact oK  | exact okX _ | exact ok1 | exact ok2)) Sz53 (Cut.length (by first | (simp [hd2.2]; done) | exact oK  | exact okX _ | exact ok1 | exact ok2)) mM (Cut.length (by first | (simp [hd2.2]; done) | exact oK  | exact okX _ | exact ok1 | exact ok2)) uU ?_
     refine Tr.s1 rfl rfl rfl rfl rfl Sz32 mM (by first | (simp [hd2.2]; done) | (simp [hd2.2]; omega)) sT uU ?_
     refine Tr.nil (Aa (Sat.ret ?_))
     refine enD_r ?_
     refine ⟨[n3, n2], [⟨n3, [i64 0], 32, 1⟩, ⟨n2, (({ Cut.zero with fHeight := x1, fPrev := l2, fHeads := p.2.1 } : Cut)).cells, 53, 34⟩], _, _, _, (Ac rM (Ac rM Ad)), A3 rfl, cut_r1_ok n3 n2 (({ Cut.zero with fHeight := x1, fPrev := l2, fHeads := p.2.1 } : Cut)) (okX _) hn32, (fun w h => ⟨Ah h mM, Ah h mM⟩), fun v2 out2 h => ?_⟩
     obtain ⟨rfl, rfl⟩ := h
     refine Am (out := (p.2.2 ++ [])) (res_cell_cell rfl rfl rfl Y53 rfl Sz53 mM (Cut.length (by first | exact okX _ | exact Cut.zero_ok)) Y32 rfl mM) (Aj sG Ad) ?_
     exact cut_ok (by rw [hcp, hl]; exact ⟨hs8_2, hc1⟩) (okX _) (fun W2 h2 => by
      rw [hcp]
      exact ⟨okX _, rfl, rfl, acc_rows hac (h2.sub in_here) hd4.2.1 (by rw [hd4.2.2]) oM⟩)

end Go.Proofs.YtdifpjmfabhpiaaGreat
end

section
namespace Go.Proofs.YtdifpjmfabhpiaaGreat
open Go Hw

theorem Acc.hrep {P : Program} {W : World} {N : Nat} {s : Sl} {bl : List Blk} {cells : List Value} {E : TypeId} {n size : Nat} (h : Hw.Acc s bl cells E n size) (hl : Lies bl W) : HRep ⟨P, W, N, bl.map (·.n), [], []⟩ bl W :=
  ⟨hl, by rcases h with ⟨_, rfl, _⟩ | ⟨q, c, _, _, _, rfl⟩ <;> simp, fun b hb => .inr (List.mem_map.2 ⟨b, hb, rfl⟩), Keeps.refl _ _, fun _ h => (by cases h), fun _ _ _ h => (by cases h)⟩
theorem sees_kok {w : World} {b o : Nat} {cs l : List Value} {T : TypeId} {m : Nat} (hb : BlkOk w ⟨b, cs, T, m⟩) (hs : ∀ (j : Nat) (v : Value), l[j]? = some v → cs[o + j]? = some v) : Cg w b o l := fun j v hj => hb.cell (o := o + j) (hs j v hj)
theorem sp_e {X A K : List Blk} (h : ([] : List Blk).Perm (A ++ K)) : X.Perm ((X ++ A) ++ K) := by rw [List.append_assoc]; exact (List.Perm.append_left X h).symm.symm.trans (.refl _) |> fun k => (by rw [List.append_nil] at k; exact k)
theorem seesP_na {C : Cx} {hp : List Blk} {w : World} {p : Option Addr} {cs : List Value} (h : HRep C hp w) (hs : SeesP C.W0 p cs) (hna : ∀ a, p = some a → a.block ∉ C.lent) : SeesP w p cs := fun j v hj => by
  obtain ⟨b, o, e, hc⟩ := hs j v hj
  exact ⟨b, o, e, h.keeps.cell (show b ∉ C.lent from hna ⟨b, o, none⟩ e) hc⟩
theorem na_kb {C : Cx} {hp bl : List Blk} {w : World} {k : Blk} {o : Nat} (h : HRep C hp w) (hk : k ∈ C.kb) (hb : ∀ b ∈ bl, b ∈ hp) : ∀ a, (some ⟨k.n, o, none⟩ : Option Addr) = some a → a.block ∉ bl.map (·.n) := fun a e hm => by
  cases e
  obtain ⟨b, hb2, e2⟩ := List.mem_map.1 hm
  exact h.kd b (hb b hb2) k hk e2
def voteT (V : Vote) : List UInt8 := Av V.fHeight ++ Av V.fRound ++ Av (Hw.Bq V.fPhase).toUInt64 ++ V.fValue ++ Av V.fProof ++ V.fVoter
def Bb (V : Vote) : List UInt8 := if Bt V = 0 then voteT V ++ V.fSig else []
def voteN (V : Vote) : Nat := szN V.fHeight.toNat + szN V.fRound.toNat + szN (Hw.Bq V.fPhase).toUInt64.toNat + 32 + szN V.fProof.toNat + 32
theorem voteT_length {V : Vote} (h : V.ok) : (voteT V).length = voteN V := by simp only [voteT, voteN, List.length_append, As, h.l_fValue, h.l_fVoter]
theorem voteN_le (V : Vote) : voteN V ≤ 100 := by
  have h1 := A9 V.fHeight.toNat
  have h2 := A9 V.fRound.toNat
  have h3 := A9 (Hw.Bq V.fPhase).toUInt64.toNat
  have h4 := A9 V.fProof.toNat
  unfold voteN
  omega

theorem text_number (s : Sl) (bl : List Blk) (l : List UInt8) (n : Nat) (hac : Hw.Acc s bl (Ab l) 5 n 1) (hn : n ≤ 1000) (x : UInt64) : Meets Tryz.prog 234 [s.v, u64 x] (bl.map (·.n)) (fun W => Lies bl W ∧ True) (fun v out => ∃ s', v = s'.v ∧ Hw.Acc s' out (Ab (l ++ Av x)) 5 (n + szN x.toNat) 1) := by
 intro W hW
 have hz := A9 x.toNat
 refine A8 (hp0 := bl) Tryz.func234 rfl 9 Tryz.ntmps234 rfl (Acc.hrep hac hW.1) ?_
 refine Sat.seq (Sat.region ?_)
 refine Tr.a rfl rfl rfl ?_
 refine Tr.nil (Aa (Sat.seq (Sat.region ?_)))
 refine Tr.m rfl rfl rfl ?_
 refine Tr.m rfl rfl rfl ?_
 refine Tr.call4 rfl rfl rfl rfl rfl Body106 (oct_Number none 0 0 [] x rfl (fun _ => rfl) oM) (fun _ _ => SeesP.nil) ?_
 rintro v7 out7 ⟨q7, c7, rfl, hc7, rfl⟩
 simp only [Nat.zero_add, List.nil_append, List.cons_append]
 refine Tr.appendAcc (z := u8 0) (by' := 1) (Ab (Av x)) rfl rfl rfl rfl rfl Tryz.underlying234 Y58 Sz5 Zr5 (by unfold By; kernel_rfl) rfl hac (by repeat (first | exact sg_end | apply sg_there)) (fun w h => SeesP.of (Aq h Z0)) (fun e => by cases e) (Bd _) oM oM (by simp [As]) ?_
 intro s8 bl8 hac8
 refine Tr.a rfl rfl rfl ?_
 refine Tr.nil (Aa (Sat.ret (Ai ?_)))
 refine Am (out := (bl8 ++ [])) (Ae rfl rfl) (Aj sG Ad) ?_
 exact ⟨s8, rfl, by rw [bytesV_app, List.append_nil]; exact hac8⟩

theorem text_raw (s : Sl) (bl : List Blk) (l : List UInt8) (n : Nat) (hac : Hw.Acc s bl (Ab l) 5 n 1) (hn : n ≤ 1000) (p : Option Addr) (m c : Nat) (ys : List UInt8) (hy : ys.length = m) (hm : m ≤ 1000) (hpn : p = none → m = 0) : Meets Tryz.prog 203 [s.v, .slice p m c] (bl.map (·.n)) (fun W => Lies bl W ∧ SeesP W p (Ab ys) ∧ ∀ a, p = some a → a.block ∉ bl.map (·.n)) (fun v out => ∃ s', v = s'.v ∧ Hw.Acc s' out (Ab (l ++ ys)) 5 (n + m) 1) := by
 intro W hW
 refine A8 (hp0 := bl) Tryz.func203 rfl 8 Tryz.ntmps203 rfl (Acc.hrep hac hW.1) ?_
 refine Sat.seq (Sat.region ?_)
 refine Tr.a rfl rfl rfl ?_
 refine Tr.nil (Aa (Sat.seq (Sat.region ?_)))
 refine Tr.m rfl rfl rfl ?_
 refine Tr.m rfl rfl rfl ?_
 refine Tr.appendAcc (z := u8 0) (by' := 1) (Ab ys) rfl rfl rfl rfl rfl Tryz.underlying234 Y58 Sz5 Zr5 (by unfold By; kernel_rfl) rfl hac (by repeat (exact sg_end)) (fun w h => seesP_na h hW.2.1 hW.2.2) hpn (Bd _) oM oM (by rw [Ab, List.length_map, hy, Nat.mul_one]) ?_
 intro s7 bl7 hac7
 refine Tr.a rfl rfl rfl ?_
 refine Tr.nil (Aa (Sat.ret (Ai ?_)))
 refine Am (out := (bl7 ++ [])) (Ae rfl rfl) (Aj sG Ad) ?_
 exact ⟨s7, rfl, by rw [bytesV_app, List.append_nil]; exact hac7⟩

theorem text_vote (s : Sl) (bl : List Blk) (l : List UInt8) (n : Nat) (hac : Hw.Acc s bl (Ab l) 5 n 1) (hn : n ≤ 100) (V : Vote) (hV : V.ok) : Meets Tryz.prog 202 [s.v, agg V.cells] (bl.map (·.n)) (fun W => Lies bl W) (fun v out => ∃ s', v = s'.v ∧ Hw.Acc s' out (Ab (l ++ voteT V)) 5 (n + voteN V) 1) := by
 intro W hW
 have z1 := A9 V.fHeight.toNat
 have z2 := A9 V.fRound.toNat
 have z3 := A9 (Hw.Bq V.fPhase).toUInt64.toNat
 have z4 := A9 V.fProof.toNat
 refine A8 (hp0 := bl) Tryz.func202 rfl 27 Tryz.ntmps202 rfl (Acc.hrep hac hW) ?_
 refine Sat.seq (Sat.region ?_)
 refine Tr.boxA rfl rfl ?_
 intro n3 hn3 hf3
 refine Tr.a rfl rfl rfl ?_
 refine Tr.nil (Aa ?_)
 refine Sat.join (ι := Sl × List Blk) (fun p => ⟨[(0, p.1.v), (3, ptr n3 0)], (p.2 ++ (⟨n3, V.cells, 81, V.cells.length⟩ :: []))⟩) (fun p => Hw.Acc p.1 p.2 (Ab (l ++ Av V.fHeight ++ Av V.fRound ++ Av (Hw.Bq V.fPhase).toUInt64)) 5 (n + szN V.fHeight.toNat + szN V.fRound.toNat + szN (Hw.Bq V.fPhase).toUInt64.toNat) 1) ?_ ?_
 ·
  refine Sat.withK (sp_k (sp_e sp_n)) rfl ?_
  refine Sat.draw [(0, 0), (0, 1), (0, 2), (0, 4), (0, 5), (0, 7), (0, 8), (0, 9), (0, 10), (4, 3), (4, 6), (4, 11), (0, 12)] B2 zK ?_
  refine Tr.m rfl rfl rfl ?_
  refine Tr.fld rfl rfl rfl Y81 rfl B6 dE _ rfl ?_
  refine Tr.kload1 rfl rfl rfl Y48 rfl Z0 (by exact Vote.get_fHeight zA) ?_
  refine Tr.fld rfl rfl rfl Y81 rfl B6 dE _ rfl ?_
  refine Tr.kload1 rfl rfl rfl Y48 rfl Z0 (by exact Vote.get_fRound zA) ?_
  refine Tr.fld rfl rfl rfl Y81 rfl Sz3 dE _ rfl ?_
  refine Tr.kload1 rfl rfl rfl Y3 rfl Z0 (by exact Vote.get_fPhase zA) ?_
  refine Tr.conv rfl rfl rfl Y3 Y5 (cv_i64_u8 _) ?_
  refine Tr.conv rfl rfl rfl Y5 Y48 (cv_u8_u64 _) ?_
  refine Tr.callL (L := bl) rfl rfl rfl rfl rfl Body234 (text_number s bl (l) (n) hac oM (V.fHeight)) sG (A3 rfl) (fun w h => ⟨Lies.of h (by repeat (exact in_here)), trivial⟩) ?_
  rintro v8 out8 ⟨s8, rfl, hac8⟩
  refine Tr.callL (L := out8) rfl rfl rfl rfl rfl Body234 (text_number s8 out8 (l ++ Av V.fHeight) (n + szN V.fHeight.toNat) hac8 oM (V.fRound)) sG (A3 rfl) (fun w h => ⟨Lies.of h (by repeat (exact in_here)), trivial⟩) ?_
  rintro v11 out11 ⟨s11, rfl, hac11⟩
  refine Tr.callL (L := out11) rfl rfl rfl rfl rfl Body234 (text_number s11 out11 (l ++ Av V.fHeight ++ Av V.fRound) (n + szN V.fHeight.toNat + szN V.fRound.toNat) hac11 oM ((Hw.Bq V.fPhase).toUInt64)) sG (A3 rfl) (fun w h => ⟨Lies.of h (by repeat (exact in_here)), trivial⟩) ?_
  rintro v16 out16 ⟨s16, rfl, hac16⟩
  refine Tr.a rfl rfl rfl ?_
  refine Tr.nil (Aa ?_)
  simp only [List.cons_append, List.nil_append, List.append_nil]
  exact ⟨(s16, out16), hac16, Af (wk1 rfl (wk1 rfl wk0)) (Aj sG (Ac rM Ad))⟩
 ·
  intro p hj
  have hap := hj
  refine Sat.seq ?_
  refine Sat.withK (sp_x (sp_k sp_n)) rfl ?_
  refine Sat.draw [(0, 0), (0, 1), (0, 2), (0, 4), (0, 5), (0, 7), (0, 8), (4, 3), (4, 6), (4, 9), (0, 10)] B2 zK ?_
  refine Tr.m rfl rfl rfl ?_
  refine Tr.fld rfl rfl rfl Y81 rfl Be dE _ rfl ?_
  refine Tr.sliceArr rfl rfl rfl Y50 Sz5 ?_
  refine Tr.fld rfl rfl rfl Y81 rfl B6 dE _ rfl ?_
  refine Tr.kload1 rfl rfl rfl Y48 rfl Z0 (by exact Vote.get_fProof zA) ?_
  refine Tr.fld rfl rfl rfl Y81 rfl Sz75 dE _ rfl ?_
  refine Tr.sliceArr rfl rfl rfl Y75 Sz5 ?_
  refine Tr.callL (L := p.2) rfl rfl rfl rfl rfl Body203 (text_raw p.1 p.2 (l ++ Av V.fHeight ++ Av V.fRound ++ Av (Hw.Bq V.fPhase).toUInt64) (n + szN V.fHeight.toNat + szN V.fRound.toNat + szN (Hw.Bq V.fPhase).toUInt64.toNat) hap oM (some ⟨n3, 0 + 3, none⟩) 32 32 V.fValue hV.l_fValue dE (fun e => by cases e)) sG (A3 rfl) (fun w h => ⟨Lies.of h (by repeat (exact in_here)), SeesP.of (sees_kok (h.kok _ List.mem_cons_self) (Vote.see_fValue hV)), na_kb h List.mem_cons_self (by repeat (exact in_here))⟩) ?_
  rintro v20 out20 ⟨s20, rfl, hac20⟩
  refine Tr.callL (L := out20) rfl rfl rfl rfl rfl Body234 (text_number s20 out20 (l ++ Av V.fHeight ++ Av V.fRound ++ Av (Hw.Bq V.fPhase).toUInt64 ++ V.fValue) (n + szN V.fHeight.toNat + szN V.fRound.toNat + szN (Hw.Bq V.fPhase).toUInt64.toNat + 32) hac20 oM (V.fProof)) sG (A3 rfl) (fun w h => ⟨Lies.of h (by repeat (exact in_here)), trivial⟩) ?_
  rintro v23 out23 ⟨s23, rfl, hac23⟩
  refine Tr.callL (L := out23) rfl rfl rfl rfl rfl Body203 (text_raw s23 out23 (l ++ Av V.fHeight ++ Av V.fRound ++ Av (Hw.Bq V.fPhase).toUInt64 ++ V.fValue ++ Av V.fProof) (n + szN V.fHeight.toNat + szN V.fRound.toNat + szN (Hw.Bq V.fPhase).toUInt64.toNat + 32 + szN V.fProof.toNat) hac23 oM (some ⟨n3, 0 + 36, none⟩) 32 32 V.fVoter hV.l_fVoter dE (fun e => by cases e)) sG (A3 rfl) (fun w h => ⟨Lies.of h (by repeat (exact in_here)), SeesP.of (sees_kok (h.kok _ List.mem_cons_self) (Vote.see_fVoter hV)), na_kb h List.mem_cons_self (by repeat (exact in_here))⟩) ?_
  rintro v26 out26 ⟨s26, rfl, hac26⟩
  refine Tr.a rfl rfl rfl ?_
  refine Tr.nil (Aa (Sat.ret (Ai ?_)))
  simp only [List.cons_append, List.nil_append, List.append_nil]
  refine Am (out := (out26 ++ [])) (Ae rfl rfl) (Aj sG Ad) ?_
  refine ⟨s26, rfl, ?_⟩
  rw [List.append_nil, show l ++ voteT V = l ++ Av V.fHeight ++ Av V.fRound ++ Av (Hw.Bq V.fPhase).toUInt64 ++ V.fValue ++ Av V.fProof ++ V.fVoter by simp only [voteT, List.append_assoc], show n + voteN V = n + szN V.fHeight.toNat + szN V.fRound.toNat + szN (Hw.Bq V.fPhase).toUInt64.toNat + 32 + szN V.fProof.toNat + 32 by unfold voteN; omega]
  exact hac26

theorem vote_bytes (V : Vote) (hV : V.ok) : Meets Tryz.prog 114 [agg V.cells] [] (fun _ => True) (fun v out => ∃ s, v = .tuple #[s.v, i64 (Bt V)] ∧ Hw.Acc s out (Ab (Bb V)) 5 (Bb V).length 1) := by
 intro W hW
 have hvl := voteT_length hV
 have hvn := voteN_le V
 have hsl := hV.l_fSig
 refine An Tryz.func114 rfl 15 Tryz.ntmps114 rfl ?_
 refine Sat.seq (Sat.region ?_)
 refine Tr.boxA rfl rfl ?_
 intro n1 hn1 hf1
 refine Tr.a rfl rfl rfl ?_
 refine Tr.a rfl rfl rfl ?_
 refine Tr.nil (Aa (Sat.seq (Sat.seq (Sat.region ?_))))
 refine Tr.lA rfl rfl rfl Y81 rfl Sz81 Z0 (Vote.length zA) ?_
 refine Tr.cV rfl rfl rfl rfl Body85 (vote_check V hV) tV ?_
 refine Tr.a rfl rfl rfl ?_
 refine Tr.nil (Aa (Sat.seq (Sat.region ?_)))
 refine Tr.m rfl rfl rfl ?_
 refine Tr.nei rfl rfl rfl rfl rfl ?_
 refine Tr.nil (Aa ?_)
 refine Sat.condNP rfl (fun hc0 => ?_) (fun hc0 => ?_)
 ·
  refine Sat.seq (Sat.region ?_)
  refine Tr.m rfl rfl rfl ?_
  refine Tr.a rfl rfl rfl ?_
  refine Tr.a rfl rfl rfl ?_
  refine Tr.nil (Aa (Sat.ret (Ap (Ai ?_))))
  refine Am (out := []) (Bc rfl rfl rfl) Ad ?_
  exact ⟨Sl.nil, rfl, by rw [show Bb V = [] from if_neg hc0]; exact Acc.none⟩
 ·
  refine Sat.skip (Aa (Sat.seq ?_))
  refine Sat.withK (sp_k sp_n) rfl ?_
  refine Sat.draw [(0, 0), (0, 2), (0, 3), (4, 1), (4, 4), (0, 5), (0, 6)] B2 zK ?_
  refine Tr.kloadAll rfl rfl rfl Y81 rfl Sz81 Z0 (Vote.length zA) ?_
  refine Tr.fld rfl rfl rfl Y81 rfl Sz77 dE _ rfl ?_
  refine Tr.sliceArr rfl rfl rfl Y77 Sz5 ?_
  refine Tr.callL (L := []) rfl rfl rfl rfl rfl Body202 (text_vote Sl.nil [] [] 0 Acc.none dE V hV) (.refl _) (A3 rfl) (fun w h => fun b hb => (by cases hb)) ?_
  rintro v11 out11 ⟨s11, rfl, hac11⟩
  simp only [List.nil_append, Nat.zero_add] at hac11
  refine Tr.callL (L := out11) rfl rfl rfl rfl rfl Body203 (text_raw s11 out11 (voteT V) (voteN V) hac11 oM (some ⟨n1, 0 + 68, none⟩) 64 64 V.fSig hV.l_fSig dE (fun e => by cases e)) sG (A3 rfl) (fun w h => ⟨Lies.of h (by repeat (exact in_here)), SeesP.of (sees_kok (h.kok _ List.mem_cons_self) (Vote.see_fSig hV)), na_kb h List.mem_cons_self (by repeat (exact in_here))⟩) ?_
  rintro v14 out14 ⟨s14, rfl, hac14⟩
  refine Tr.a rfl rfl rfl ?_
  refine Tr.a rfl rfl rfl ?_
  refine Tr.nil (Aa (Sat.ret (Ai ?_)))
  simp only [List.cons_append, List.nil_append, List.append_nil]
  refine Am (out := (out14 ++ [])) (Bc rfl rfl rfl) (Aj sG Ad) ?_
  refine ⟨s14, by rw [show Bt V = 0 by omega], ?_⟩
  rw [show Bb V = voteT V ++ V.fSig from if_pos oM, List.append_nil, show (voteT V ++ V.fSig).length = voteN V + 64 by rw [List.length_append, hvl, hsl]]
  exact hac14

theorem upd_vsig {X : Vote} (h : X.ok) {l : List UInt8} (hl : l = [] ∨ l.length = 64) : upd X.cells 68 (Ab l) = ({ X with fSig := l ++ X.fSig.drop l.length } : Vote).cells := by
  rcases hl with rfl | hl
  · exact upd_nil _ _
  · rw [Vote.upd_fSig h l hl, hl, List.drop_of_length_le (by rw [h.l_fSig]; exact Nat.le_refl _), List.append_nil]
def voteP (xs : List UInt8) : Vote × Nat × Int :=
  let r1 := A7 xs 0 0
  let r2 := A7 xs r1.2.1 r1.2.2
  let r3 := A7 xs r2.2.1 r2.2.2
  let r4 := digR xs r3.2.1 r3.2.2
  let r5 := A7 xs r4.2.1 r4.2.2
  let r6 := digR xs r5.2.1 r5.2.2
  let r7 := takR xs 64 r6.2.1 r6.2.2
  (⟨r1.1, r2.1, ((min r3.1.toNat 4 : Nat) : Int), r4.1, r5.1, r6.1, r7.1 ++ (List.replicate 64 0).drop r7.1.length⟩, r7.2)
def Bs (xs : List UInt8) : Vote × Int :=
  if endR xs.length (voteP xs).2.1 (voteP xs).2.2 = 0 ∧ Bt (voteP xs).1 = 0 then ((voteP xs).1, 0) else (Vote.zero, 4)
theorem voteRd_bad {xs : List UInt8} (h : ¬ (endR xs.length (voteP xs).2.1 (voteP xs).2.2 = 0 ∧ Bt (voteP xs).1 = 0)) : Bs xs = (Vote.zero, 4) := if_neg h
theorem voteRd_ok {xs : List UInt8} (h : endR xs.length (voteP xs).2.1 (voteP xs).2.2 = 0 ∧ Bt (voteP xs).1 = 0) : Bs xs = ((voteP xs).1, 0) := if_pos h

theorem vote_read (a : Option Addr) (n c : Nat) (xs : List UInt8) (hl : xs.length = n) (hp : a = none → n = 0) (hn : n ≤ 90000) : Meets Tryz.prog 77 [.slice a n c] [] (fun W => SeesP W a (Ab xs)) (fun v out => v = .tuple #[agg (Bs xs).1.cells, i64 (Bs xs).2] ∧ out = []) := by
 intro W hW
 obtain ⟨x1, r1, h1⟩ : ∃ l r, A7 xs 0 0 = (l, r) := ⟨_, _, rfl⟩
 obtain ⟨a1, e1⟩ := r1
 obtain ⟨x2, r2, h2⟩ : ∃ l r, A7 xs a1 e1 = (l, r) := ⟨_, _, rfl⟩
 obtain ⟨a2, e2⟩ := r2
 obtain ⟨x3, r3, h3⟩ : ∃ l r, A7 xs a2 e2 = (l, r) := ⟨_, _, rfl⟩
 obtain ⟨a3, e3⟩ := r3
 obtain ⟨l4, r4, h4⟩ : ∃ l r, digR xs a3 e3 = (l, r) := ⟨_, _, rfl⟩
 obtain ⟨a4, e4⟩ := r4
 obtain ⟨x5, r5, h5⟩ : ∃ l r, A7 xs a4 e4 = (l, r) := ⟨_, _, rfl⟩
 obtain ⟨a5, e5⟩ := r5
 obtain ⟨l6, r6, h6⟩ : ∃ l r, digR xs a5 e5 = (l, r) := ⟨_, _, rfl⟩
 obtain ⟨a6, e6⟩ := r6
 obtain ⟨l7, r7, h7⟩ : ∃ l r, takR xs 64 a6 e6 = (l, r) := ⟨_, _, rfl⟩
 obtain ⟨a7, e7⟩ := r7
 have hvp : voteP xs = (({ Vote.zero with fHeight := x1, fRound := x2, fPhase := ((min x3.toNat 4 : Nat) : Int), fValue := l4, fProof := x5, fVoter := l6, fSig := l7 ++ Vote.zero.fSig.drop l7.length } : Vote), a7, e7) := by simp only [voteP, h1, h2, h3, h4, h5, h6, h7]; rfl
 have hd1 := Ce h1 hl (Nat.zero_le _)
 have hd2 := Ce h2 hl hd1
 have hd3 := Ce h3 hl hd2
 have hd4 := digE_le h4 hl hd3
 have hd5 := Ce h5 hl hd4.1
 have hd6 := digE_le h6 hl hd5
 have hd7 := takE_le h7 hl hd6.1
 have hlen7 : l7.length ≤ 64 := by rcases hd7.2 with h | h <;> simp [h]
 have hs64 : (l7 ++ Vote.zero.fSig.drop l7.length).length = 64 := by rcases hd7.2 with h | h <;> simp [h, Vote.zero]
 have ok2 : ({ Vote.zero with fHeight := x1, fRound := x2 } : Vote).ok := ⟨rfl, rfl, rfl⟩
 have ok3 : ({ Vote.zero with fHeight := x1, fRound := x2, fPhase := ((min x3.toNat 4 : Nat) : Int) } : Vote).ok := ⟨rfl, rfl, rfl⟩
 have ok4 : ({ Vote.zero with fHeight := x1, fRound := x2, fPhase := ((min x3.toNat 4 : Nat) : Int), fValue := l4 } : Vote).ok := ⟨hd4.2, rfl, rfl⟩
 have ok5 : ({ Vote.zero with fHeight := x1, fRound := x2, fPhase := ((min x3.toNat 4 : Nat) : Int), fValue := l4, fProof := x5 } : Vote).ok := ⟨hd4.2, rfl, rfl⟩
 have ok6 : ({ Vote.zero with fHeight := x1, fRound := x2, fPhase := ((min x3.toNat 4 : Nat) : Int), fValue := l4, fProof := x5, fVoter := l6 } : Vote).ok := ⟨hd4.2, hd6.2, rfl⟩
 have okX : ({ Vote.zero with fHeight := x1, fRound := x2, fPhase := ((min x3.toNat 4 : Nat) : Int), fValue := l4, fProof := x5, fVoter := l6, fSig := l7 ++ Vote.zero.fSig.drop l7.length } : Vote).ok := ⟨hd4.2, hd6.2, hs64⟩
 refine An Tryz.func77 rfl 42 Tryz.ntmps77 rfl ?_
 refine Sat.seq (Sat.region ?_)
 refine Tr.alloc (cs := Vote.zero.cells) rfl Vote.zr rfl ?_
 intro n2 hn2 hf2
 refine Tr.a rfl rfl rfl ?_
 refine Tr.nil (Aa (Sat.seq (Sat.region ?_)))
 refine Tr.m rfl rfl rfl ?_
 refine Tr.call4 rfl rfl rfl rfl rfl Body91 (oct_Read a n c xs hl hp hn) (fun w h => Aw h rfl hW) ?_
 rintro v7 out7 ⟨n7, q7, cp7, rfl, hcp7, rfl⟩
 refine Tr.nd (fun hnd => ?_)
 have hne : q7 ≠ n7 := by intro e; simp [RB, e] at hnd
 clear hnd
 refine Tr.a rfl rfl rfl ?_
 refine Tr.nil (Aa (Sat.seq (Sat.region ?_)))
 refine Tr.m rfl rfl rfl ?_
 refine Tr.callL (L := [RB n7 q7 n cp7 0 0]) rfl rfl rfl rfl rfl Body94 (rd_NumberE n7 q7 n cp7 0 0 xs hl (Nat.zero_le _) hcp7 oM x1 a1 e1 h1) (Ac rM Ad) (A3 rfl) (fun w h => ⟨Ah h Z0, Aq h Z1, hne⟩) ?_
 rintro v9 out9 ⟨rfl, rfl⟩
 refine Tr.m rfl rfl rfl ?_
 refine Tr.callL (L := [RB n7 q7 n cp7 a1 e1]) rfl rfl rfl rfl rfl Body94 (rd_NumberE n7 q7 n cp7 a1 e1 xs hl hd1 hcp7 oM x2 a2 e2 h2) (Ac rM Ad) (A3 rfl) (fun w h => ⟨Ah h Z0, Aq h Z1, hne⟩) ?_
 rintro v9 out9 ⟨rfl, rfl⟩
 refine Tr.build (cs := ({ Vote.zero with fHeight := x1, fRound := x2 } : Vote).cells) rfl rfl rfl (fun w => by kernel_rfl) ?_
 refine Tr.alloc (cs := Vote.zero.cells) rfl Vote.zr rfl ?_
 intro n5 hn5 hf5
 refine Tr.sA rfl rfl rfl rfl (Vote.isCell zA) Sz81 (Vote.length zA) Z0 (Vote.length zT) zU ?_
 refine Tr.nil (Aa (Sat.seq (Sat.region ?_)))
 refine Tr.m rfl rfl rfl ?_
 refine Tr.callL (L := [RB n7 q7 n cp7 a2 e2]) rfl rfl rfl rfl rfl Body94 (rd_NumberE n7 q7 n cp7 a2 e2 xs hl hd2 hcp7 oM x3 a3 e3 h3) (Ac rM Ad) (A3 rfl) (fun w h => ⟨Ah h Z1, Aq h Z2, hne⟩) ?_
 rintro v9 out9 ⟨rfl, rfl⟩
 refine Tr.min2 rfl rfl rfl rfl (show Value.int .u64 (if (4 : Int) < (x3.toNat : Int) then 4 else (x3.toNat : Int)) = .int .u64 ((min x3.toNat 4 : Nat) : Int) from by congr 1; split <;> omega) ?_
 refine Tr.conv rfl rfl rfl Y48 Y3 (show Value.int .i64 (IntKind.i64.wrap ((min x3.toNat 4 : Nat) : Int)) = i64 ((min x3.toNat 4 : Nat) : Int) by rw [i64_wrap oM]) ?_
 refine Tr.fld rfl rfl rfl Y81 rfl Sz3 dE _ rfl ?_
 refine Tr.s1 rfl rfl rfl rfl rfl Sz3 Z1 (by rw [Vote.length zA]; decide) (Vote.set_fPhase zA _) zV ?_
 refine Tr.nil (Aa (Sat.seq (Sat.region ?_)))
 refine Tr.m rfl rfl rfl ?_
 refine Tr.callL (L := [RB n7 q7 n cp7 a3 e3]) rfl rfl rfl rfl rfl Body173 (rd_DigestE n7 q7 n cp7 a3 e3 xs hl hd3 hcp7 oM l4 a4 e4 h4) (Ac rM Ad) (A3 rfl) (fun w h => ⟨Ah h Z0, Aq h Z2, hne⟩) ?_
 rintro v9 out9 ⟨rfl, rfl⟩
 refine Tr.fld rfl rfl rfl Y81 rfl Be dE _ rfl ?_
 refine Tr.storeN (Ab _) rfl rfl rfl rfl rfl zE Be (by simp [hd4.2]) Z1 (by rw [Vote.length zA]; simp [hd4.2]) (Vote.upd_fValue zA _ (by simp [hd4.2])) zV ?_
 refine Tr.nil (Aa (Sat.seq (Sat.region ?_)))
 refine Tr.m rfl rfl rfl ?_
 refine Tr.callL (L := [RB n7 q7 n cp7 a4 e4]) rfl rfl rfl rfl rfl Body94 (rd_NumberE n7 q7 n cp7 a4 e4 xs hl hd4.1 hcp7 oM x5 a5 e5 h5) (Ac rM Ad) (A3 rfl) (fun w h => ⟨Ah h Z0, Aq h Z2, hne⟩) ?_
 rintro v9 out9 ⟨rfl, rfl⟩
 refine Tr.fld rfl rfl rfl Y81 rfl B6 dE _ rfl ?_
 refine Tr.s1 rfl rfl rfl rfl rfl B6 Z1 (by rw [Vote.length zA]; decide) (Vote.set_fProof zA _) zV ?_
 refine Tr.nil (Aa (Sat.seq (Sat.region ?_)))
 refine Tr.m rfl rfl rfl ?_
 refine Tr.callL (L := [RB n7 q7 n cp7 a5 e5]) rfl rfl rfl rfl rfl Body173 (rd_DigestE n7 q7 n cp7 a5 e5 xs hl hd5 hcp7 oM l6 a6 e6 h6) (Ac rM Ad) (A3 rfl) (fun w h => ⟨Ah h Z0, Aq h Z2, hne⟩) ?_
 rintro v9 out9 ⟨rfl, rfl⟩
 refine Tr.fld rfl rfl rfl Y81 rfl Sz75 dE _ rfl ?_
 refine Tr.storeN (Ab _) rfl rfl rfl rfl rfl zE Sz75 (by simp [hd6.2]) Z1 (by rw [Vote.length zA]; simp [hd6.2]) (Vote.upd_fVoter zA _ (by simp [hd6.2])) zV ?_
 refine Tr.nil (Aa (Sat.seq ?_))
 refine Sat.draw [(0, 0), (0, 1), (0, 2), (4, 3), (4, 4)] B2 zK ?_
 refine Tr.fld rfl rfl rfl Y81 rfl Sz77 dE _ rfl ?_
 refine Tr.sliceArr rfl rfl rfl Y77 Sz5 ?_
 refine Tr.m rfl rfl rfl ?_
 refine Tr.callL (L := [RB n7 q7 n cp7 a6 e6]) rfl rfl rfl rfl rfl Body174 (rd_TakeE n7 q7 n cp7 a6 e6 64 dE dE xs hl hd6.1 hcp7 oM l7 a7 e7 h7) (Ac rM Ad) (A3 rfl) (fun w h => ⟨Ah h Z0, Aq h Z2, hne⟩) ?_
 rintro v30 out30 ⟨s30, bl30, rfl, hac30, rfl⟩
 simp only [List.append_assoc, List.cons_append, List.nil_append]
 refine Tr.copyP (Ab l7) l7.length rfl rfl rfl rfl rfl Y58 Sz5 (fun w h => hac30.see (Lies.of h (by repeat (exact in_here)))) (fun e => hac30.nil e) (by simp [Ab, hac30.num]) (by rw [hac30.num]; omega) (List.take_of_length_le (by simp [Ab])) (Bd _) mR (by rw [Vote.length ok6]; show 68 + l7.length ≤ 132; omega) (upd_vsig ok6 hd7.2) uU ?_
 refine Tr.nil (Aa (Sat.seq (Sat.seq (Sat.region ?_))))
 refine Tr.m rfl rfl rfl ?_
 refine Tr.cV rfl rfl rfl rfl Body105 (rd_End n7 q7 n cp7 a7 e7 hd7.1 oM) (fun w h => Ah h mR) ?_
 refine two (fun r hr k => Tr.nei rfl rfl rfl rfl hr k) (fun hs8_20 => ?_) (fun hs8_20 => ?_)
 ·
  have hs8_2 := A0 hs8_20
  refine Tr.m rfl rfl rfl ?_
  refine Tr.skp rfl rfl ?_
  refine Tr.skp rfl rfl ?_
  refine Tr.skp rfl rfl ?_
  refine Tr.pick rfl rfl rfl rfl rfl rfl ?_
  refine Tr.nil (Aa ?_)
  refine Sat.cond_t rfl rfl ?_
  refine Sat.seq (Sat.region ?_)
  refine Tr.build (cs := Vote.zero.cells) rfl rfl rfl (fun w => by kernel_rfl) ?_
  refine Tr.sA rfl rfl rfl rfl (Vote.isCell zT) Sz81 (Vote.length zT) mR (Vote.length zT) uU ?_
  refine Tr.a rfl rfl rfl ?_
  refine Tr.nil (Aa (Sat.ret (Ap (Ai ?_))))
  refine Am (out := []) (A6 rfl rfl rfl Y81 rfl Sz81 mR (by exact Vote.length zT)) Ad ?_
  exact ⟨by rw [voteRd_bad (by rw [hvp, hl]; exact fun h => hs8_2 h.1)], rfl⟩
 ·
  have hs8_2 := A1 hs8_20
  refine Tr.m rfl rfl rfl ?_
  refine Tr.lA rfl rfl rfl Y81 rfl Sz81 mR (Vote.length zA) ?_
  refine Tr.cV rfl rfl rfl rfl Body85 (vote_check ({ Vote.zero with fHeight := x1, fRound := x2, fPhase := ((min x3.toNat 4 : Nat) : Int), fValue := l4, fProof := x5, fVoter := l6, fSig := l7 ++ Vote.zero.fSig.drop l7.length } : Vote) okX) tV ?_
  refine Tr.nei rfl rfl rfl rfl rfl ?_
  refine Tr.pick rfl rfl rfl rfl rfl rfl ?_
  refine Tr.nil (Aa ?_)
  refine Sat.condNP rfl (fun hc0 => ?_) (fun hc0 => ?_)
  ·
   refine Sat.seq (Sat.region ?_)
   refine Tr.build (cs := Vote.zero.cells) rfl rfl rfl (fun w => by kernel_rfl) ?_
   refine Tr.sA rfl rfl rfl rfl (Vote.isCell zT) Sz81 (Vote.length zT) mR (Vote.length zT) uU ?_
   refine Tr.a rfl rfl rfl ?_
   refine Tr.nil (Aa (Sat.ret (Ap (Ai ?_))))
   refine Am (out := []) (A6 rfl rfl rfl Y81 rfl Sz81 mR (by exact Vote.length zT)) Ad ?_
   exact ⟨by rw [voteRd_bad (by rw [hvp, hl]; exact fun h => hc0 h.2)], rfl⟩
  ·
   refine Sat.skip (Aa (Sat.seq (Sat.region ?_)))
   refine Tr.lA rfl rfl rfl Y81 rfl Sz81 mR (Vote.length zA) ?_
   refine Tr.sA rfl rfl rfl rfl (Vote.isCell zA) Sz81 (Vote.length zA) mR (Vote.length zT) uU ?_
   refine Tr.a rfl rfl rfl ?_
   refine Tr.nil (Aa (Sat.ret (Ai ?_)))
   refine Am (out := []) (A6 rfl rfl rfl Y81 rfl Sz81 mR (by exact Vote.length zA)) Ad ?_
   exact ⟨by rw [voteRd_ok (by rw [hvp, hl]; exact ⟨hs8_2, hc0⟩), hvp], rfl⟩

end Go.Proofs.YtdifpjmfabhpiaaGreat
end

section
namespace Go.Proofs.YtdifpjmfabhpiaaGreat
open Go Hw

def blkB (ys : List UInt8) : List UInt8 := Av (UInt64.ofNat ys.length) ++ ys
def Au {D : Type} (f : D → List UInt8) (ds : List D) : List UInt8 := (ds.map fun d => blkB (f d)).flatten
theorem blkB_length {ys : List UInt8} (h : ys.length ≤ 1000000) : (blkB ys).length = szN ys.length + ys.length := by rw [blkB, List.length_append, As, A2 h]
theorem listB_step {D : Type} (f : D → List UInt8) {ds : List D} {k : Nat} {d : D} (h : ds[k]? = some d) : Au f (ds.take (k + 1)) = Au f (ds.take k) ++ blkB (f d) := by
  rw [take_snoc h, Au, List.map_append, List.flatten_append]; simp [Au]
theorem listB_le {D : Type} (f : D → List UInt8) (M : Nat) (hM : M ≤ 100000) : ∀ ds : List D, (∀ d ∈ ds, (f d).length ≤ M) → (Au f ds).length ≤ ds.length * (M + 9)
  | [], _ => by simp [Au]
  | d :: ds, h => by
    have ih := listB_le f M hM ds (fun x hx => h x (List.mem_cons_of_mem _ hx))
    have h1 := h d List.mem_cons_self
    have h2 := A9 (f d).length
    have e : Au f (d :: ds) = blkB (f d) ++ Au f ds := rfl
    rw [e, List.length_append, blkB_length oM, List.length_cons, Nat.add_mul]
    omega
theorem listB_take_le {D : Type} (f : D → List UInt8) (M : Nat) (hM : M ≤ 100000) (ds : List D) (h : ∀ d ∈ ds, (f d).length ≤ M) (k : Nat) : (Au f (ds.take k)).length ≤ ds.length * (M + 9) := by
  have h1 := listB_le f M hM (ds.take k) (fun d hd => h d (List.mem_of_mem_take hd))
  have h2 : (ds.take k).length ≤ ds.length := by rw [List.length_take]; omega
  exact Nat.le_trans h1 (Nat.mul_le_mul_right _ h2)

theorem blk_vote_1 (a : Option Addr) (n c : Nat) (l : List UInt8) (hl : l.length = n) (hp : a = none → n = 0) (hn : n ≤ 40000) (X : Vote) (D : Vote) (q : Nat) (hsz : (Bb D).length ≤ 40000) : Meets Tryz.prog 201 [.slice a n c, agg X.cells, ptr q 0] [] (fun W => SeesP W a (Ab l) ∧ VoteIs W X D ∧ W.cell? ⟨q, 0, none⟩ = some (.func (.func 114) #[] #[])) (fun v out => FreshRow v out (Ab (l ++ blkB (Bb D))) 5 (l ++ blkB (Bb D)).length 1) := by
 intro W hW
 obtain rfl : D = X := hW.2.1.eq.symm
 refine An Tryz.func201 rfl 17 Tryz.ntmps201 rfl ?_
 refine Sat.seq (Sat.region ?_)
 refine Tr.boxA rfl rfl ?_
 intro n4 hn4 hf4
 refine Tr.a rfl rfl rfl ?_
 refine Tr.nil (Aa (Sat.seq (Sat.region ?_)))
 refine Tr.loadE rfl rfl rfl Tryz.underlying164 rfl (by first | (simp; done) | (simp; exact hW.2.2) | (simp [Cx.with]; done) | (simp [Cx.with]; omega)) (hW.2.2) ?_
 refine Tr.lA rfl rfl rfl Y81 rfl Sz81 mM (Vote.length (by first | exact oK  | exact hW.2.1.ok)) ?_
 refine Tr.call4 rfl rfl rfl rfl rfl Body114 (vote_bytes D hW.2.1.ok) (fun w h => trivial) ?_
 rintro v11 out11 ⟨s11, rfl, hac11⟩
 have hnm := hac11.num
 refine Tr.m rfl rfl rfl ?_
 refine Tr.eX rfl rfl rfl rfl ?_
 refine Tr.eX rfl rfl rfl rfl ?_
 refine Tr.a rfl rfl rfl ?_
 refine Tr.a rfl rfl rfl ?_
 refine Tr.nil (Aa (Sat.seq (Sat.region ?_)))
 refine Tr.m rfl rfl rfl ?_
 refine Tr.m rfl rfl rfl ?_
 refine Tr.call4 rfl rfl rfl rfl rfl Body121 (oct_Block a s11.p n c s11.n s11.c l (Bb D) hl hnm.symm hp (fun e => hac11.nil e) hn oM) (fun w h => ⟨Aw h rfl hW.1, hac11.see (Lies.of h iN)⟩) ?_
 rintro v16 out16 ⟨q16, c16, rfl, hc16, rfl⟩
 have hq16 : n + szN s11.n + s11.n = (l ++ blkB (Bb D)).length := by rw [List.length_append, blkB_length oM, hl, hnm]; omega
 refine Tr.a rfl rfl rfl ?_
 refine Tr.nil (Aa (Sat.ret (Ai ?_)))
 refine Am (out := (⟨q16, Ab (l ++ blkB (Bb D)), 5, c16 * 1⟩ :: [])) (Ae rfl rfl) (pm_consE rM (by rw [blkB, hnm, List.append_assoc]) rfl Ad) ?_
 exact ⟨q16, c16, by rw [hq16], by rw [← hq16]; exact hc16, rfl⟩

theorem mk_blk_vote  : Meets Tryz.prog 113 [.func (.func 114) #[] #[]] [] (fun _ => True) (fun v out => ∃ c, v = .func (.func 201) #[] #[ptr c 0] ∧ out = [⟨c, [.func (.func 114) #[] #[]], 164, 1⟩]) := by
 intro W hW
 refine An Tryz.func113 rfl 4 Tryz.ntmps113 rfl ?_
 refine Sat.seq (Sat.region ?_)
 refine Tr.box1 rfl rfl rfl ?_
 intro n1 hn1 hf1
 refine Tr.a rfl rfl rfl ?_
 refine Tr.nil (Aa (Sat.seq (Sat.region ?_)))
 refine Tr.makeFunc rfl rfl rfl rfl ?_
 refine Tr.a rfl rfl rfl ?_
 refine Tr.nil (Aa (Sat.ret (Ai ?_)))
 refine Am (out := (⟨n1, [.func (.func 114) #[] #[]], 164, 1⟩ :: [])) (Ae rfl rfl) (Ac rM Ad) ?_
 exact ⟨n1, rfl, by simp⟩

theorem put_votes (a : Option Addr) (n c : Nat) (l : List UInt8) (s : Sl) (ds : List Vote) (q M : Nat) (hl : l.length = n) (hp : a = none → n = 0) (hM : M ≤ 40000) (hsz : ∀ d ∈ ds, (Bb d).length ≤ M) (hs : s.n ≤ 1000) (hN : n + 9 + s.n * (M + 9) ≤ 40000) : Meets Tryz.prog 112 [.slice a n c, s.v, .func (.func 201) #[] #[ptr q 0]] [] (fun W => SeesP W a (Ab l) ∧ VotesAt W s ds ∧ W.cell? ⟨q, 0, none⟩ = some (.func (.func 114) #[] #[])) (fun v out => FreshRow v out (Ab (l ++ Av (UInt64.ofNat s.n) ++ Au Bb ds)) 5 (l ++ Av (UInt64.ofNat s.n) ++ Au Bb ds).length 1) := by
 intro W hW
 obtain ⟨rs, hs1⟩ := hW.2.1
 have hnd := hs1.nd
 have hz := A9 s.n
 have hon := A2 (n := s.n) oM
 have hmul : ds.length * (M + 9) = s.n * (M + 9) := by rw [hnd]
 have hle : ∀ k, (l ++ Av (UInt64.ofNat s.n) ++ Au Bb (ds.take k)).length ≤ 40000 := fun k => by
  have := listB_take_le Bb M oM ds hsz k
  simp only [List.length_append, As, hon, hl]
  omega
 refine An Tryz.func112 rfl 26 Tryz.ntmps112 rfl ?_
 refine Sat.seq (Sat.region ?_)
 refine Tr.a rfl rfl rfl ?_
 refine Tr.nil (Aa (Sat.seq (Sat.region ?_)))
 refine Tr.m rfl rfl rfl ?_
 refine Tr.m rfl rfl rfl ?_
 refine Tr.lenSl rfl rfl rfl Y24 ?_
 refine Tr.conv rfl rfl rfl Y3 Y48 (Bg _) ?_
 rw [word_nat (n := s.n) oM]
 refine Tr.call4 rfl rfl rfl rfl rfl Body106 (oct_Number a n c l (UInt64.ofNat s.n) hl hp oM) (fun w h => Aw h rfl hW.1) ?_
 rintro v13 out13 ⟨q1, c1, rfl, hc1, rfl⟩
 have e13 : n + szN (UInt64.ofNat s.n).toNat = (l ++ Av (UInt64.ofNat s.n) ++ Au Bb (ds.take 0)).length := by simp [Au, As, hl]
 rw [e13] at hc1 ⊢
 refine Tr.a rfl rfl rfl ?_
 refine Tr.nil (Aa (Sat.seq (Sat.seq (Sat.region ?_))))
 refine Tr.m rfl rfl rfl ?_
 refine Tr.lenSl rfl rfl rfl Y24 ?_
 refine Tr.m rfl rfl rfl ?_
 refine Tr.nil (Aa (Sat.block ?_))
 refine Sat.loop (ι := Nat × Nat × Nat) (fun p => ⟨[(0, .slice (some ⟨p.2.1, 0, none⟩) (l ++ Av (UInt64.ofNat s.n) ++ Au Bb (ds.take p.1)).length p.2.2), (2, .func (.func 201) #[] #[ptr q 0]), (14, s.v), (15, i64 (s.n : Int)), (16, i64 (p.1 : Int))], [⟨p.2.1, Ab (l ++ Av (UInt64.ofNat s.n) ++ Au Bb (ds.take p.1)), 5, p.2.2 * 1⟩]⟩) (fun p => p.1 ≤ s.n ∧ (l ++ Av (UInt64.ofNat s.n) ++ Au Bb (ds.take p.1)).length ≤ p.2.2) (fun p => s.n - p.1) ((0, q1, c1)) ?_ ?_ ?_
 · exact ⟨Nat.zero_le _, hc1⟩
 · exact Ar (wk1 rfl (wk1 rfl (wk1 rfl (wk1 rfl (wk1 rfl wk0))))) (wh1 (by simp only [List.take_zero, Au, List.map_nil, List.flatten_nil, List.append_nil]; exact mem0) wh0) nD
 ·
  rintro p ⟨hp1, hp2⟩
  refine Sat.seq (Sat.region ?_)
  refine Tr.lss rfl rfl rfl rfl rfl ?_
  refine Tr.nil (Aa (Sat.seq ?_))
  first
   | refine Sat.condP rfl (fun hc0 => ?_) (fun hc0 => ?_)
   | refine Sat.condNP rfl (fun hc0 => ?_) (fun hc0 => ?_)
   | refine Sat.cond rfl (fun hc0 => ?_) (fun hc0 => ?_)
  ·
   have hk2 : p.1 < s.n := by omega
   obtain ⟨b, o, r, d, hsp, hr, hd, his, hlen, hsee⟩ := hs1.at dE hk2
   refine Sat.skip (Aa (Sat.seq (Sat.block (Sat.seq (Sat.region ?_)))))
   refine Tr.idxSlP 132 rfl rfl rfl hsp rfl Y24 Sz81 p.1 rfl oM ?_
   refine Tr.loadEN r.cells rfl rfl rfl Y81 rfl Sz81 sP hlen hsee ?_
   refine Tr.alloc (cs := Vote.zero.cells) rfl Vote.zr rfl ?_
   intro n8 hn8 hf8
   refine Tr.sA rfl rfl rfl rfl (Vote.isCell (by first | exact oK  | exact his.ok)) Sz81 (Vote.length (by first | exact oK  | exact his.ok)) mM (Vote.length (by first | exact oK  | exact his.ok)) uU ?_
   refine Tr.nil (Aa (Sat.region ?_))
   refine Tr.m rfl rfl rfl ?_
   refine Tr.m rfl rfl rfl ?_
   refine Tr.lA rfl rfl rfl Y81 rfl Sz81 mM (Vote.length (by first | exact oK  | exact his.ok)) ?_
   refine Tr.call4C rfl rfl rfl rfl rfl rfl Body201 (blk_vote_1 (some ⟨p.2.1, 0, none⟩) (l ++ Av (UInt64.ofNat s.n) ++ Au Bb (ds.take p.1)).length p.2.2 (l ++ Av (UInt64.ofNat s.n) ++ Au Bb (ds.take p.1)) rfl (fun e => by cases e) (hle _) r d q (Nat.le_trans (hsz d (List.mem_of_getElem? hd)) hM)) (fun w h => ⟨SeesP.of (Aq h mM), his.ext h rfl, h.keeps.cell sP hW.2.2⟩) ?_
   rintro v23 out23 ⟨q2, c2, rfl, hq2, rfl⟩
   rw [show l ++ Av (UInt64.ofNat s.n) ++ Au Bb (ds.take p.1) ++ blkB (Bb d) = l ++ Av (UInt64.ofNat s.n) ++ Au Bb (ds.take (p.1 + 1)) by rw [listB_step Bb hd, ← List.append_assoc]] at hq2 ⊢
   refine Tr.a rfl rfl rfl ?_
   refine Tr.nil (Cc (Aa (Sat.region ?_)))
   refine Tr.aI rfl rfl rfl rfl oM ?_
   refine Tr.m rfl rfl rfl ?_
   refine Tr.nil (Aa ?_)
   exact ⟨(p.1 + 1, q2, c2), ⟨by simp only []; omega, hq2⟩, by simp only []; omega, Ar (wk1 rfl (wk1 rfl (wk1 rfl (wk1 rfl (wk1 rfl wk0))))) (wh1 mM wh0) nD⟩
  ·
   have hpe : p.1 = s.n := by omega
   have hds : ds = ds.take p.1 := by rw [List.take_of_length_le oM]
   refine Sat.exit (Bi (Bi (bl_h (Aa (Sat.seq (Sat.region ?_))))))
   refine Tr.m rfl rfl rfl ?_
   refine Tr.a rfl rfl rfl ?_
   refine Tr.nil (Aa (Sat.ret (Ai ?_)))
   refine ⟨_, [⟨p.2.1, Ab (l ++ Av (UInt64.ofNat s.n) ++ Au Bb ds), 5, p.2.2 * 1⟩], Ae rfl rfl, (by intro b hb; rw [List.mem_singleton.1 hb, hds]; simp only [List.take_take, Nat.min_self]; exact mem0), B0, ⟨p.2.1, p.2.2, by rw [← hds], by rw [← hds] at hp2; exact hp2, rfl⟩⟩

end Go.Proofs.YtdifpjmfabhpiaaGreat
end

section
namespace Go.Proofs.YtdifpjmfabhpiaaGreat
open Go Hw

def DCert.bytes (D : DCert) : List UInt8 := blkB (cutR D.dCut) ++ Av (UInt64.ofNat D.dVotes.length) ++ Au Bb D.dVotes
noncomputable def Bm (D : DCert) : List UInt8 := if D.check = 0 then D.bytes else []
theorem seqv_ok {W : World} {s : Sl} {rs ds : List Vote} (h : SeqIs Vote.cells 132 VoteIs W s rs ds) : ∀ d ∈ ds, d.ok := by
  intro d hd
  obtain ⟨j, hj, rfl⟩ := List.getElem_of_mem hd
  have hj2 : j < rs.length := by rw [h.nr, ← h.nd]; exact hj
  have := h.is j _ _ (List.getElem?_eq_getElem hj2) (List.getElem?_eq_getElem hj)
  rw [← this.eq]; exact this.ok
theorem voteBy_le {V : Vote} (h : V.ok) : (Bb V).length ≤ 164 := by
  unfold Bb
  split
  · have := voteN_le V
    rw [List.length_append, voteT_length h, h.l_fSig]; omega
  · simp
theorem DCert.facts {D : DCert} (h : D.check = 0) : D.dCut.check = 0 ∧ 1 ≤ D.dVotes.length ∧ D.dVotes.length ≤ 16 := by
  have h1 : ¬ D.head = true := fun e => by rw [cert_bad1 e] at h; cases h
  simp only [DCert.head, Bool.or_eq_true, Bool.not_eq_true', decide_eq_true_eq, decide_eq_false_iff_not] at h1
  omega
theorem cutR_le {C : Cut} {D : DCut} {W : World} (h : CutIs W C D) : (cutR D).length ≤ 2000 := by
  unfold cutR
  split
  · rename_i h1
    exact D.bytes_small h1 (h.fPrev ▸ h.ok.l_fPrev) h.fHeads.row
  · simp

theorem cert_bytes (C : Cert) (D : DCert) : Meets Tryz.prog 30 [agg C.cells] [] (fun W => CertIs W C D) (fun v out => ∃ s, v = .tuple #[s.v, i64 D.check] ∧ Hw.Acc s out (Ab (Bm D)) 5 (Bm D).length 1) := by
 intro W hW
 obtain ⟨rs, hvs⟩ := hW.fVotes
 have hcl := cutR_le hW.fCut
 have hvok := seqv_ok hvs
 have hvn := hvs.nd
 have hz := A9 (cutR D.dCut).length
 refine An Tryz.func30 rfl 24 Tryz.ntmps30 rfl ?_
 refine Sat.seq (Sat.region ?_)
 refine Tr.boxA rfl rfl ?_
 intro n1 hn1 hf1
 refine Tr.a rfl rfl rfl ?_
 refine Tr.a rfl rfl rfl ?_
 refine Tr.nil (Aa (Sat.seq (Sat.seq (Sat.region ?_))))
 refine Tr.lA rfl rfl rfl Y55 rfl Sz55 mM (Cert.length (by first | exact oK  | exact hW.ok | exact hW.ok.o_fCut)) ?_
 refine Tr.cV rfl rfl rfl rfl Body31 (cert_check C D) (fun w h => hW.ext h rfl) ?_
 refine Tr.a rfl rfl rfl ?_
 refine Tr.nil (Aa (Sat.seq (Sat.region ?_)))
 refine Tr.m rfl rfl rfl ?_
 refine Tr.nei rfl rfl rfl rfl rfl ?_
 refine Tr.nil (Aa ?_)
 first
  | refine Sat.condP rfl (fun hc0 => ?_) (fun hc0 => ?_)
  | refine Sat.condNP rfl (fun hc0 => ?_) (fun hc0 => ?_)
  | refine Sat.cond rfl (fun hc0 => ?_) (fun hc0 => ?_)
 ·
  refine Sat.seq (Sat.region ?_)
  refine Tr.m rfl rfl rfl ?_
  refine Tr.a rfl rfl rfl ?_
  refine Tr.a rfl rfl rfl ?_
  refine Tr.nil (Aa (Sat.ret (Ap (Ai ?_))))
  refine Am (out := []) (Bc rfl rfl rfl) Ad ?_
  exact ⟨Sl.nil, rfl, by rw [show Bm D = [] from if_neg hc0]; exact Acc.none⟩
 ·
  have hck : D.check = 0 := by omega
  obtain ⟨hk1, hk2, hk3⟩ := DCert.facts hck
  refine Sat.skip (Aa (Sat.seq (Sat.region ?_)))
  refine Tr.fld rfl rfl rfl Y55 rfl Sz53 dE _ rfl ?_
  refine Tr.lN (Cut.cells _) rfl rfl rfl Y53 rfl Sz53 mM (Cert.row_fCut (by first | exact oK  | exact hW.ok | exact hW.ok.o_fCut)) (Cert.rl_fCut (by first | exact oK  | exact hW.ok | exact hW.ok.o_fCut)) ?_
  refine Tr.call4 rfl rfl rfl rfl rfl Body117 (cut_bytes C.fCut D.dCut) (fun w h => hW.fCut.ext h rfl) ?_
  rintro v15 out15 ⟨s15, rfl, hac15⟩
  have hn15 := hac15.num
  refine Tr.m rfl rfl rfl ?_
  refine Tr.eX rfl rfl rfl rfl ?_
  refine Tr.eX rfl rfl rfl rfl ?_
  refine Tr.a rfl rfl rfl ?_
  refine Tr.a rfl rfl rfl ?_
  refine Tr.nil (Aa (Sat.seq ?_))
  refine Sat.withK (sp_x (sp_k sp_n)) rfl ?_
  refine Sat.draw [(0, 0), (0, 2), (0, 3), (4, 1), (4, 4), (4, 5), (0, 6), (0, 7)] B2 zK ?_
  refine Tr.m rfl rfl rfl ?_
  refine Tr.fld rfl rfl rfl Y55 rfl Sz24 dE _ rfl ?_
  refine Tr.kload1 rfl rfl rfl Y24 rfl mM (by first | exact Cert.get_fVotes (by first | exact oK  | exact hW.ok | exact hW.ok.o_fCut) | exact vL) ?_
  refine Tr.call4 rfl rfl rfl rfl rfl Body121 (oct_Block none s15.p 0 0 s15.n s15.c [] (cutR D.dCut) rfl hn15.symm (fun _ => rfl) (fun e => hac15.nil e) dE oM) (fun w h => ⟨SeesP.nil, hac15.see (Lies.of h iN)⟩) ?_
  rintro v19 out19 ⟨q19, c19, rfl, hc19, rfl⟩
  have hb19 : [] ++ Av (UInt64.ofNat s15.n) ++ cutR D.dCut = blkB (cutR D.dCut) := by rw [blkB, hn15]; rfl
  rw [hb19]
  refine Tr.call4 rfl rfl rfl rfl rfl Body113 (mk_blk_vote) tV ?_
  rintro v22 out22 ⟨c22, rfl, rfl⟩
  refine Tr.call4 rfl rfl rfl rfl rfl Body112 (put_votes (some ⟨q19, 0, none⟩) (0 + szN s15.n + s15.n) c19 (blkB (cutR D.dCut)) C.fVotes D.dVotes c22 164 (by rw [blkB_length oM, hn15]; omega) (fun e => by cases e) dE (fun d hd => voteBy_le (hvok d hd)) oM (by rw [hn15]; have : C.fVotes.n * (164 + 9) ≤ 16 * 173 := Nat.mul_le_mul oM (Nat.le_refl _); omega)) (fun w h => ⟨SeesP.of (Aq (cs := Ab (blkB (cutR D.dCut))) h mM), Votes_ext h rfl ⟨rs, hvs⟩, (Ah (B := ⟨c22, _, _, _⟩) h mM).cell (o := 0) rfl⟩) ?_
  rintro v23 out23 ⟨q23, c23, rfl, hc23, rfl⟩
  refine Tr.a rfl rfl rfl ?_
  refine Tr.a rfl rfl rfl ?_
  refine Tr.nil (Aa (Sat.ret (Ai ?_)))
  simp only [List.cons_append, List.nil_append, List.append_nil]
  refine Am (out := (⟨q23, Ab (blkB (cutR D.dCut) ++ Av (UInt64.ofNat C.fVotes.n) ++ Au Bb D.dVotes), 5, c23 * 1⟩ :: [])) (Bc rfl rfl rfl) (Ac rM Ad) ?_
  refine ⟨⟨some ⟨q23, 0, none⟩, (blkB (cutR D.dCut) ++ Av (UInt64.ofNat C.fVotes.n) ++ Au Bb D.dVotes).length, c23⟩, (by rw [hck]; try rfl), ?_⟩
  rw [show Bm D = D.bytes from if_pos hck, DCert.bytes, hvn]
  exact Acc.some hc23 (by rw [Ab, List.length_map, Nat.mul_one])

end Go.Proofs.YtdifpjmfabhpiaaGreat
end

section
namespace Hw
open Go Go.RowKit
section
variable {C : Cx} {fn : Func} {s : St}
end

def AccO (s : Sl) (bl : List Blk) (cells : List Value) (E : TypeId) (n : Nat) : Prop :=
  (s = Sl.nil ∧ bl = [] ∧ cells = [] ∧ n = 0) ∨ ∃ q o c m pre post, s = ⟨some ⟨q, o, none⟩, n, c⟩ ∧ n ≤ c ∧ cells.length = n ∧ pre.length = o ∧ (post = [] ∨ n = c) ∧ o + c ≤ m ∧ bl = [⟨q, pre ++ cells ++ post, E, m⟩]
section
variable {s : Sl} {bl : List Blk} {cells : List Value} {E : TypeId} {n : Nat}
theorem AccO.none : AccO Sl.nil [] [] E 0 := .inl ⟨rfl, rfl, rfl, rfl⟩
theorem AccO.num (h : AccO s bl cells E n) : s.n = n := by rcases h with ⟨rfl, _, _, rfl⟩ | ⟨q, o, c, m, pre, post, rfl, _⟩ <;> rfl
theorem AccO.len (h : AccO s bl cells E n) : cells.length = n := by rcases h with ⟨_, _, rfl, rfl⟩ | ⟨q, o, c, m, pre, post, _, _, h, _⟩; rfl; exact h
theorem AccO.cap (h : AccO s bl cells E n) : s.n ≤ s.c := by rcases h with ⟨rfl, _⟩ | ⟨q, o, c, m, pre, post, rfl, h, _⟩; exact Nat.le_refl _; exact h
theorem AccO.nilc (h : AccO s bl cells E n) (hp : s.p = .none) : s.c = 0 := by rcases h with ⟨rfl, _⟩ | ⟨q, o, c, m, pre, post, rfl, _⟩; rfl; cases hp
theorem AccO.see (h : AccO s bl cells E n) {w : World} (hw : Lies bl w) : SeesP w s.p cells := by
  rcases h with ⟨_, _, rfl, _⟩ | ⟨q, o, c, m, pre, post, rfl, _, h3, h4, _, _, rfl⟩
  · exact SeesP.nil
  · refine SeesP.of fun j v hj => ?_
    refine (hw _ (List.mem_singleton.2 rfl)).cell (o := o + j) (v := v) ?_
    show (pre ++ cells ++ post)[o + j]? = some v
    have hlt := (List.getElem?_eq_some_iff.1 hj).1
    rw [List.append_assoc, List.getElem?_append_right oM, h4, Nat.add_sub_cancel_left, List.getElem?_append_left hlt]
    exact hj
theorem AccO.pos (h : AccO s bl cells E n) (hn : 0 < n) : ∃ q o c m pre post, s = ⟨some ⟨q, o, .none⟩, n, c⟩ ∧ n ≤ c ∧ cells.length = n ∧ pre.length = o ∧ (post = [] ∨ n = c) ∧ o + c ≤ m ∧ bl = [⟨q, pre ++ cells ++ post, E, m⟩] := by
  rcases h with ⟨_, _, _, rfl⟩ | h
  · exact absurd hn dE
  · exact h
theorem AccO.cut {q o c m : Nat} {pre post : List Value} {x : Value} {l : List Value} (hc : n + 1 ≤ c) (hl : l.length = n) (hp : pre.length = o) (hpo : post = [] ∨ n + 1 = c) (hm : o + c ≤ m) : AccO ⟨some ⟨q, if c = 1 then o else o + 1 * 1, .none⟩, n + 1 - 1, c - 1⟩ [⟨q, pre ++ (x :: l) ++ post, E, m⟩] l E n := by
  by_cases e : c = 1
  · obtain rfl : n = 0 := by omega
    obtain rfl : l = [] := List.eq_nil_of_length_eq_zero hl
    subst e
    rw [if_pos rfl]
    exact .inr ⟨q, o, 0, m, pre, x :: post, rfl, Nat.le_refl _, rfl, hp, .inr rfl, by omega, by simp⟩
  · rw [if_neg e]
    exact .inr ⟨q, o + 1, c - 1, m, pre ++ [x], post, by simp, by omega, hl, by simp [hp], hpo.imp_right (fun h => by omega), by omega, by simp⟩
theorem Acc.off {c : Nat} (h : Acc s bl cells E n 1) : AccO s bl cells E n := by
  rcases h with ⟨rfl, rfl, rfl, rfl⟩ | ⟨q, c, rfl, h1, h2, rfl⟩
  · exact .inl ⟨rfl, rfl, rfl, rfl⟩
  · exact .inr ⟨q, 0, c, c * 1, [], [], rfl, h1, by omega, rfl, .inl rfl, by omega, by simp⟩
end
section
variable {C : Cx} {ops : Array Oper} {rest : List (Nat × Oper)} {sl : List (Nat × Value)} {hp hp' : List Blk} {Q : St → Prop} {c d : Nat} {ty : TypeId} {pos : String} {af : Array Edge} {g : Option (Nat × Bool)}
theorem Tr.mkRoomN {T E : TypeId} {x y : Operand} {kx ky : IntKind} {z : Value} {by' size : Nat} {mi : Int} (m : Nat) (hg : Al ops sl g = true) (hk : okG c d C.N = true) (hx : Ak sl x = some (.int kx 0)) (hy : Ak sl y = some (.int ky mi)) (hmi : mi = m)
    (hu : C.P.underlying T = some (.slice E)) (hs : Sz C.P E size) (hz : Zr C.P E z) (hb : By C.P E by') (hn : m ≤ 1000000) (hfit : m * by' ≤ 140737488355328)
    (k : ∀ q, Tr C ops rest ⟨(d, .slice (some ⟨q, 0, none⟩) 0 m) :: sl, ⟨q, [], E, m * size⟩ :: hp⟩ Q) : Tr C ops ((c, ⟨some d, .makeSlice T x y, ty, pos, af, g⟩) :: rest) ⟨sl, hp⟩ Q := by
  subst hmi
  simp only [okG, Bool.and_eq_true, Bool.or_eq_true] at hk
  refine Tr.grow (ρ := Nat) (fun _ => True) (fun q => .slice (some ⟨q, 0, none⟩) 0 m) (fun q => [⟨q, [], E, m * size⟩]) (hk.1.imp nbeq' nbeq') (A5 hg) (B9 (nblt hk.2)) ⟨known2 hx hy, fun l hl => ?_, fun a w hf hh => ?_⟩ (fun q _ => k q)
  · obtain ⟨q, _, hq⟩ := fresh_is 0 l
    refine ⟨q, trivial, ?_⟩
    simp only [List.singleton_append, List.map_cons, List.nodup_cons]
    exact ⟨fun h => by obtain ⟨b, hb, e⟩ := List.mem_map.1 h; exact hq b hb e, hl⟩
  · have h1 := hf x (by simp [Op.operands]); rw [hx] at h1
    have h2 := hf y (by simp [Op.operands]); rw [hy] at h2
    simp only [Option.some.injEq] at h1 h2
    have rs := run_sz hs
    unfold Sz at hs; unfold Zr at hz; unfold By at hb
    cases hi : C.P.info? E with
    | none => rw [hi] at hs; simp at hs
    | some i =>
      rw [hi] at hs hz hb
      simp only [Option.map_some, Option.some.injEq, Option.bind_some] at hs hz hb
      have wn : IntKind.i64.wrap (m : Int) = m := i64_wrap oM
      have w0 : IntKind.i64.wrap 0 = 0 := by decide
      have hm2 : ((by' : Int) * m) = ((m * by' : Nat) : Int) := by rw [Int.mul_comm]; simp
      have n1 : ¬ ((m : Int) < 0) := by omega
      have n2 : ¬ (281474976710656 < (i.bytes : Int) * m) := by rw [hb, hm2]; omega
      have n5 : ¬ (140737488355328 < m * i.bytes) := by rw [hb]; omega
      have hrun : ∃ arr : Array Value, arr.size = m * size ∧ (execOp a.eval ⟨some d, .makeSlice T x y, ty, pos, af, g⟩).run C.P w = .ok (.value (.slice (some ⟨w.heap.size, 0, none⟩) 0 m)) { w with heap := w.heap.push (.cells arr E) } := by
        by_cases h0 : m * size = 0
        · refine ⟨(Array.range (m * size)).map fun x => (#[] : Array Value)[x % 0]!, by simp, ?_⟩
          simp [execOp, Instr.makeSlice, run_underlying hu, asInt, asIntOf, typeInfo, hi, rs, zeroValue, hz, ← h1, ← h2, wn, w0, n1, n2, n5, h0, newRow, newObj, askRoom, roomBytes]
          simp [Sem.run]
        · refine ⟨(Array.range (m * size)).map fun x => z.cells[x % z.cells.size]!, by simp, ?_⟩
          simp [execOp, Instr.makeSlice, run_underlying hu, asInt, asIntOf, typeInfo, hi, rs, zeroValue, hz, ← h1, ← h2, wn, w0, n1, n2, n5, h0, newRow, newObj, askRoom, roomBytes]
          simp [Sem.run]
      obtain ⟨arr, ha, hrun⟩ := hrun
      unfold Oper.wp
      rw [hrun]
      refine ⟨w.heap.size, trivial, rfl, ⟨⟨rfl, rfl, rfl, by simp, fun k hk _ => ?_⟩, fun b hb => ?_, by simp, fun b hb => ?_⟩⟩
      · simp only [Array.getElem?_push]
        rw [if_neg oM]
      · obtain rfl := List.mem_singleton.1 hb
        exact ⟨arr, (0, 0), by simp, ha, by simp, free0⟩
      · obtain rfl := List.mem_singleton.1 hb
        exact .inl (Nat.le_refl _)
theorem Tr.extractB {x : Operand} {vs : Array Value} {i : Nat} {b : Bool} (hg : Al ops sl g = true) (hk : okD c d C.N = true) (hx : Ak sl x = some (.tuple vs)) (hv : vs[i]? = some (.bool b))
    (kt : b = true → Tr C ops rest ⟨(d, .bool true) :: sl, hp⟩ Q) (kf : b = false → Tr C ops rest ⟨(d, .bool false) :: sl, hp⟩ Q) : Tr C ops ((c, ⟨some d, .extract x i, ty, pos, af, g⟩) :: rest) ⟨sl, hp⟩ Q := by
  cases b
  · exact Tr.eX hg hk hx hv (kf rfl)
  · exact Tr.eX hg hk hx hv (kt rfl)
end
end Hw
end

section
namespace Go.Proofs.YtdifpjmfabhpiaaGreat
open Go Hw

theorem rdblk_loose (n q N cp a1 : Nat) (e1 : Int) (ys : List UInt8) : LooseL [n] (fun v out => ∃ s bl, v = Sl.v s ∧ Hw.Acc s bl (Ab ys) 5 ys.length 1 ∧ out = bl ++ [RB n q N cp a1 e1]) := fun l h1 h2 => by
  obtain ⟨n0, _, hn0⟩ := fresh_is (n + 1) l
  refine ⟨_, _, ⟨⟨some ⟨n0, 0, none⟩, ys.length, ys.length⟩, [⟨n0, Ab ys, 5, ys.length * 1⟩], rfl, Acc.some (Nat.le_refl _) (by simp [Ab]), rfl⟩, ?_⟩
  simp only [List.cons_append, List.nil_append, List.map_cons, List.nodup_cons, List.mem_cons, RB]
  refine ⟨?_, ?_, h1⟩
  · rintro (h | h)
    · omega
    · obtain ⟨b, hb, e⟩ := List.mem_map.1 h
      exact hn0 b hb e
  · intro h
    obtain ⟨b, hb, e⟩ := List.mem_map.1 h
    exact h2 b hb (by rw [e]; exact List.mem_cons_self)

theorem item_vote (n q N cp at' : Nat) (e : Int) (c : Nat) (xs : List UInt8) (hx : xs.length = N) (hat : at' ≤ N) (hN : N ≤ cp) (hbig : N ≤ 90000) (hcn : c ≠ n) (o : Option (List UInt8)) (a1 : Nat) (e1 : Int) (h1 : blkR xs at' e = (o, a1, e1)) (hvk : (Bs (o.getD [])).1.ok) : Meets Tryz.prog 194 [ptr n 0, ptr c 0] [n] (fun W => BlkOk W (RB n q N cp at' e) ∧ Cg W q 0 (Ab xs) ∧ q ≠ n ∧ W.cell? ⟨c, 0, none⟩ = some (.func (.func 77) #[] #[])) (fun v out => v = .tuple #[agg (Bs (o.getD [])).1.cells, .bool (decide ((Bs (o.getD [])).2 = 0))] ∧ out = [RB n q N cp a1 e1]) := by
 intro W hW
 have hb1 := blkE_le h1 hx hat
 refine A8 (hp0 := [RB n q N cp at' e]) Tryz.func194 rfl 17 Tryz.ntmps194 rfl (HRep.one hW.1) ?_
 refine Sat.seq (Sat.region ?_)
 refine Tr.alloc (cs := Vote.zero.cells) rfl Vote.zr rfl ?_
 intro n3 hn3 hf3
 refine Tr.a rfl rfl rfl ?_
 refine Tr.nil (Aa (Sat.seq ?_))
 refine Sat.withK (sp_v (sp_v sp_n)) rfl ?_
 refine Sat.draw [(0, 0), (0, 1), (5, 2), (3, 3), (0, 4), (0, 5), (0, 6), (2, 7), (4, 8), (0, 9)] B2 zK ?_
 refine Tr.kloadE rfl rfl rfl Tryz.underlying114 rfl (by first | (simp; done) | (simp; exact hW.2.2) | (simp [Cx.with]; done) | (simp [Cx.with]; omega)) (hW.2.2.2) ?_
 refine Tr.m rfl rfl rfl ?_
 refine Tr.callL5 (L := [RB n q N cp at' e]) rfl rfl rfl rfl rfl Body120 (rd_BlockE n q N cp at' e xs hx hat hN hbig o a1 e1 h1) (rdblk_loose n q N cp a1 e1 (o.getD [])) (Ac rM Ad) (A3 rfl) (fun w h => ⟨Ah h mM, Bl h (by simp [Cx.with]; exact hW.2.2.1) hW.2.1, hW.2.2.1⟩) ?_
 rintro v10 out10 ⟨s10, bl10, rfl, hac10, rfl⟩
 simp only [List.append_assoc, List.cons_append, List.nil_append]
 refine Tr.cV rfl rfl rfl rfl Body77 (vote_read s10.p s10.n s10.c (o.getD []) hac10.num.symm (fun e => hac10.nil e) (by rw [hac10.num]; omega)) (fun w h => hac10.see (Lies.of h iN)) ?_
 refine Tr.m rfl rfl rfl ?_
 refine Tr.eX rfl rfl rfl rfl ?_
 refine Tr.eX rfl rfl rfl rfl ?_
 refine Tr.alloc (cs := Vote.zero.cells) rfl Vote.zr rfl ?_
 intro n5 hn5 hf5
 refine Tr.sA rfl rfl rfl rfl (Vote.isCell (by first | exact oK  | exact hvk)) Sz81 (Vote.length (by first | exact oK  | exact hvk)) mM (Vote.length (by first | exact oK  | exact hvk)) uU ?_
 refine Tr.a rfl rfl rfl ?_
 refine Tr.nil (Aa (Sat.seq (Sat.region ?_)))
 simp only [List.cons_append, List.nil_append, List.append_nil, List.append_assoc]
 refine Tr.lA rfl rfl rfl Y81 rfl Sz81 mM (Vote.length (by first | exact oK  | exact hvk)) ?_
 refine Tr.m rfl rfl rfl ?_
 refine Tr.eqi rfl rfl rfl rfl rfl ?_
 refine Tr.sA rfl rfl rfl rfl (Vote.isCell (by first | exact oK  | exact hvk)) Sz81 (Vote.length (by first | exact oK  | exact hvk)) mM (Vote.length (by first | exact oK  | exact hvk)) uU ?_
 refine Tr.a rfl rfl rfl ?_
 refine Tr.nil (Aa (Sat.ret (Ai ?_)))
 refine Am (out := (RB n q N cp a1 e1 :: [])) (A6 rfl rfl rfl Y81 rfl Sz81 mM (by first | (simp; done) | exact Vote.length (by first | exact oK  | exact hvk))) (Ac rM Ad) ?_
 exact ⟨rfl, rfl⟩

theorem pm_one {hp l R : List Blk} {x : Blk} (h : hp.Perm ((x :: l) ++ R)) : hp.Perm (([x] ++ l) ++ R) := h
def votesR (xs : List UInt8) : Nat → Nat → Int → Option (List Vote × Nat × Int)
  | 0, a, e => some ([], a, e)
  | k + 1, a, e => (votesR xs k a e).bind fun r => if (Bs ((blkR xs r.2.1 r.2.2).1.getD [])).2 = 0 ∧ (blkR xs r.2.1 r.2.2).2.2 = 0 then some (r.1 ++ [(Bs ((blkR xs r.2.1 r.2.2).1.getD [])).1], (blkR xs r.2.1 r.2.2).2) else none
def readVL (xs : List UInt8) (M a : Nat) (e : Int) : Option (List Vote × Nat × Int) :=
  if (A7 xs a e).2.2 = 0 ∧ (A7 xs a e).1.toNat ≤ M then votesR xs (A7 xs a e).1.toNat (A7 xs a e).2.1 (A7 xs a e).2.2 else none
theorem votesR_step {xs : List UInt8} {k a : Nat} {e : Int} {vs : List Vote} {a2 a3 : Nat} {e2 e3 : Int} {o : Option (List UInt8)} (h : votesR xs k a e = some (vs, a2, e2)) (hb : blkR xs a2 e2 = (o, a3, e3)) (h1 : (Bs (o.getD [])).2 = 0) (h2 : e3 = 0) : votesR xs (k + 1) a e = some (vs ++ [(Bs (o.getD [])).1], a3, e3) := by
  rw [votesR, h, Option.bind_some]
  simp only [hb]
  rw [if_pos ⟨h1, h2⟩]
theorem votesR_stop {xs : List UInt8} {k a : Nat} {e : Int} {vs : List Vote} {a2 a3 : Nat} {e2 e3 : Int} {o : Option (List UInt8)} (h : votesR xs k a e = some (vs, a2, e2)) (hb : blkR xs a2 e2 = (o, a3, e3)) (h1 : ¬ ((Bs (o.getD [])).2 = 0 ∧ e3 = 0)) : ∀ m, k < m → votesR xs m a e = none
  | 0, hm => absurd hm oM
  | m + 1, hm => by
    rcases Nat.lt_succ_iff_lt_or_eq.1 hm with h3 | rfl
    · rw [votesR, votesR_stop h hb h1 m h3]; rfl
    · rw [votesR, h, Option.bind_some]
      simp only [hb]
      rw [if_neg h1]
theorem voteRd_vok (xs : List UInt8) : (Bs xs).1.ok := by
  unfold Bs
  split
  · obtain ⟨x1, r1, h1⟩ : ∃ l r, A7 xs 0 0 = (l, r) := ⟨_, _, rfl⟩
    obtain ⟨a1, e1⟩ := r1
    obtain ⟨x2, r2, h2⟩ : ∃ l r, A7 xs a1 e1 = (l, r) := ⟨_, _, rfl⟩
    obtain ⟨a2, e2⟩ := r2
    obtain ⟨x3, r3, h3⟩ : ∃ l r, A7 xs a2 e2 = (l, r) := ⟨_, _, rfl⟩
    obtain ⟨a3, e3⟩ := r3
    obtain ⟨l4, r4, h4⟩ : ∃ l r, digR xs a3 e3 = (l, r) := ⟨_, _, rfl⟩
    obtain ⟨a4, e4⟩ := r4
    obtain ⟨x5, r5, h5⟩ : ∃ l r, A7 xs a4 e4 = (l, r) := ⟨_, _, rfl⟩
    obtain ⟨a5, e5⟩ := r5
    obtain ⟨l6, r6, h6⟩ : ∃ l r, digR xs a5 e5 = (l, r) := ⟨_, _, rfl⟩
    obtain ⟨a6, e6⟩ := r6
    obtain ⟨l7, r7, h7⟩ : ∃ l r, takR xs 64 a6 e6 = (l, r) := ⟨_, _, rfl⟩
    obtain ⟨a7, e7⟩ := r7
    have hd1 := Ce h1 rfl (Nat.zero_le _)
    have hd2 := Ce h2 rfl hd1
    have hd3 := Ce h3 rfl hd2
    have hd4 := digE_le h4 rfl hd3
    have hd5 := Ce h5 rfl hd4.1
    have hd6 := digE_le h6 rfl hd5
    have hd7 := takE_le h7 rfl hd6.1
    have hvp : (voteP xs).1 = (⟨x1, x2, ((min x3.toNat 4 : Nat) : Int), l4, x5, l6, l7 ++ (List.replicate 64 0).drop l7.length⟩ : Vote) := by simp only [voteP, h1, h2, h3, h4, h5, h6, h7]
    show (voteP xs).1.ok
    rw [hvp]
    exact ⟨hd4.2, hd6.2, by rcases hd7.2 with h | h <;> simp [h]⟩
  · exact Vote.zero_ok
theorem wf_small {x : Int} (h0 : 0 ≤ x) (h4 : x ≤ 4) : (Lit.int .i64 x).wf = true := by
  have e1 : IntKind.i64.min = -9223372036854775808 := rfl
  have e2 : IntKind.i64.max = 9223372036854775807 := rfl
  simp [Lit.wf]
  omega
structure Vgood (V : Vote) : Prop where
  ok : V.ok
  wf : (Lit.int .i64 V.fPhase).wf = true
theorem voteRd_good (xs : List UInt8) : Vgood (Bs xs).1 := ⟨voteRd_vok xs, by
  unfold Bs
  split
  · refine wf_small ?_ ?_ <;> simp only [voteP] <;> omega
  · exact wf_small dE dE⟩
def VotesRead (xs : List UInt8) (M a : Nat) (e : Int) (n q N cp : Nat) (v : Value) (out : List Blk) : Prop :=
  ∃ s bl a1 e1, a1 ≤ N ∧ out = bl ++ [RB n q N cp a1 e1] ∧ v = .tuple #[Sl.v s, .bool (readVL xs M a e).isSome] ∧ (∀ vs a2 e2, readVL xs M a e = some (vs, a2, e2) → a1 = a2 ∧ e1 = e2 ∧ vs.length ≤ M ∧ (∀ V ∈ vs, Vgood V) ∧ Hw.Acc s bl (vs.map Vote.cells).flatten 81 vs.length 132)
theorem votes_none {xs : List UInt8} {M a : Nat} {e : Int} {n q N cp a1 : Nat} {e1 : Int} (h : readVL xs M a e = none) (ha : a1 ≤ N) : VotesRead xs M a e n q N cp (.tuple #[.slice none 0 0, .bool false]) (RB n q N cp a1 e1 :: []) :=
  ⟨Sl.nil, [], a1, e1, ha, rfl, by rw [h]; rfl, fun vs a2 e2 h2 => by rw [h] at h2; cases h2⟩
structure VSt where
  k : Nat
  s : Sl
  bl : List Blk
  vs : List Vote
  a : Nat
  e : Int

theorem read_votes (n q N cp at' : Nat) (e : Int) (c M : Nat) (xs : List UInt8) (hx : xs.length = N) (hat : at' ≤ N) (hN : N ≤ cp) (hbig : N ≤ 90000) (hcn : c ≠ n) (hM : M ≤ 1000) : Meets Tryz.prog 99 [ptr n 0, i64 (M : Int), .func (.func 194) #[] #[ptr c 0]] [n] (fun W => BlkOk W (RB n q N cp at' e) ∧ Cg W q 0 (Ab xs) ∧ q ≠ n ∧ W.cell? ⟨c, 0, none⟩ = some (.func (.func 77) #[] #[])) (VotesRead xs M at' e n q N cp) := by
 intro W hW
 obtain ⟨x1, r1, h1⟩ : ∃ l r, A7 xs at' e = (l, r) := ⟨_, _, rfl⟩
 obtain ⟨a1, e1⟩ := r1
 have hd1 := Ce h1 hx hat
 have hMw : (UInt64.ofNat M).toNat = M := A2 oM
 have hrv : readVL xs M at' e = if e1 = 0 ∧ x1.toNat ≤ M then votesR xs x1.toNat a1 e1 else none := by simp only [readVL, h1]
 refine A8 (hp0 := [RB n q N cp at' e]) Tryz.func99 rfl 47 Tryz.ntmps99 rfl (HRep.one hW.1) ?_
 refine Sat.seq (Sat.region ?_)
 refine Tr.a rfl rfl rfl ?_
 refine Tr.a rfl rfl rfl ?_
 refine Tr.nil (Aa (Sat.seq (Sat.region ?_)))
 refine Tr.m rfl rfl rfl ?_
 refine Tr.callL (L := [RB n q N cp at' e]) rfl rfl rfl rfl rfl Body94 (rd_NumberE n q N cp at' e xs hx hat hN oM x1 a1 e1 h1) (Ac rM Ad) (A3 rfl) (fun w h => ⟨Ah h mM, Bl h (by simp; exact hW.2.2.1) hW.2.1, hW.2.2.1⟩) ?_
 rintro v13 out13 ⟨rfl, rfl⟩
 refine Tr.a rfl rfl rfl ?_
 refine Tr.nil (Aa (Sat.seq (Sat.seq (Sat.region ?_))))
 refine Tr.m rfl rfl rfl ?_
 refine Tr.cV rfl rfl rfl rfl Body192 (rd_Err n q N cp a1 e1) (fun w h => Ah h mM) ?_
 refine two (fun r hr k => Tr.nei rfl rfl rfl rfl hr k) (fun hs2_20 => ?_) (fun hs2_20 => ?_)
 ·
  first | have hs2_2 := of_decide_eq_true hs2_20 | have hs2_2 := of_decide_eq_false hs2_20 | have hs2_2 := A0 hs2_20 | have hs2_2 := A1 hs2_20 | have hs2_2 := hs2_20
  refine Tr.m rfl rfl rfl ?_
  refine Tr.skp rfl rfl ?_
  refine Tr.skp rfl rfl ?_
  refine Tr.skp rfl rfl ?_
  refine Tr.skp rfl rfl ?_
  refine Tr.pick rfl rfl rfl rfl rfl rfl ?_
  refine Tr.nil (Aa ?_)
  refine Sat.cond_t rfl rfl ?_
  refine Sat.seq (Sat.region ?_)
  refine Tr.a rfl rfl rfl ?_
  refine Tr.a rfl rfl rfl ?_
  refine Tr.nil (Aa (Sat.ret (Ap (Ai ?_))))
  refine Am (out := (RB n q N cp a1 e1 :: [])) (Bc rfl rfl rfl) (Ac rM Ad) ?_
  exact votes_none (by rw [hrv]; exact if_neg (fun h => by omega)) oM
 ·
  first | have hs2_2 := of_decide_eq_true hs2_20 | have hs2_2 := of_decide_eq_false hs2_20 | have hs2_2 := A0 hs2_20 | have hs2_2 := A1 hs2_20 | have hs2_2 := hs2_20
  refine Tr.m rfl rfl rfl ?_
  refine Tr.m rfl rfl rfl ?_
  refine Tr.m rfl rfl rfl ?_
  refine Tr.conv rfl rfl rfl Y3 Y48 (Bg _) ?_
  rw [word_nat (n := M) oM]
  refine Tr.gtr rfl rfl rfl rfl rfl ?_
  refine Tr.pick rfl rfl rfl rfl rfl rfl ?_
  refine Tr.nil (Aa ?_)
  first
   | refine Sat.condP rfl (fun hc0 => ?_) (fun hc0 => ?_)
   | refine Sat.condNP rfl (fun hc0 => ?_) (fun hc0 => ?_)
   | refine Sat.cond rfl (fun hc0 => ?_) (fun hc0 => ?_)
  ·
   have hno : ¬ (e1 = 0 ∧ x1.toNat ≤ M) := by omega
   refine Sat.seq (Sat.region ?_)
   refine Tr.a rfl rfl rfl ?_
   refine Tr.a rfl rfl rfl ?_
   refine Tr.nil (Aa (Sat.ret (Ap (Ai ?_))))
   refine Am (out := (RB n q N cp a1 e1 :: [])) (Bc rfl rfl rfl) (Ac rM Ad) ?_
   exact votes_none (by rw [hrv]; exact if_neg (fun h => by omega)) oM
  ·
   have hyes : e1 = 0 ∧ x1.toNat ≤ M := by omega
   have hx64 : x1 = UInt64.ofNat x1.toNat := by simp
   refine Sat.skip (Aa (Sat.seq (Sat.region ?_)))
   refine Tr.m rfl rfl rfl ?_
   refine Tr.mkRoomN (z := agg Vote.zero.cells) (by' := 160) x1.toNat rfl rfl rfl rfl rfl Y24 Sz81 Vote.zr (by unfold By; kernel_rfl) oM oM ?_
   intro q9
   refine Tr.a rfl rfl rfl ?_
   refine Tr.nil (Aa (Sat.seq (Sat.seq (Sat.region ?_))))
   refine Tr.m rfl rfl rfl ?_
   refine Tr.m rfl rfl rfl ?_
   refine Tr.nil (Aa (Sat.block ?_))
   refine Sat.loop (ι := VSt) (fun p => ⟨[(0, ptr n 0), (2, .func (.func 194) #[] #[ptr c 0]), (9, p.s.v), (25, u64 x1), (26, u64 (UInt64.ofNat p.k))], (RB n q N cp p.a p.e :: (p.bl ++ []))⟩) (fun p => p.k ≤ x1.toNat ∧ votesR xs p.k a1 e1 = some (p.vs, p.a, p.e) ∧ p.a ≤ N ∧ Hw.Acc p.s p.bl (p.vs.map Vote.cells).flatten 81 p.k 132 ∧ p.vs.length = p.k ∧ ∀ V ∈ p.vs, Vgood V) (fun p => x1.toNat - p.k) (⟨0, ⟨some ⟨q9, 0, none⟩, 0, x1.toNat⟩, [⟨q9, [], 81, x1.toNat * 132⟩], [], a1, e1⟩) ?_ ?_ ?_
   · exact ⟨Nat.zero_le _, rfl, hd1, Acc.some (Nat.zero_le _) sP, rfl, fun V h => (by cases h)⟩
   · exact Af (wk1 rfl (wk1 rfl (wk1 rfl (wk1 rfl (wk1 rfl wk0))))) (Ac rM (pm_one (Ac rM Ad)))
   ·
    rintro p hp
    obtain ⟨k, s, bl, vs, a2, e2⟩ := p
    obtain ⟨hk, hvr, ha2, hac, hvl, hvo⟩ := hp
    dsimp only at hk hvr ha2 hac hvl hvo ⊢
    obtain ⟨o, r3, hb3⟩ : ∃ l r, blkR xs a2 e2 = (l, r) := ⟨_, _, rfl⟩
    obtain ⟨a3, e3⟩ := r3
    have hd3 := blkE_le hb3 hx ha2
    refine Sat.seq (Sat.region ?_)
    refine Tr.lss rfl rfl rfl rfl rfl ?_
    refine Tr.nil (Aa (Sat.seq ?_))
    first
     | refine Sat.condP rfl (fun hc1 => ?_) (fun hc1 => ?_)
     | refine Sat.condNP rfl (fun hc1 => ?_) (fun hc1 => ?_)
     | refine Sat.cond rfl (fun hc1 => ?_) (fun hc1 => ?_)
    ·
     have hk64 : (UInt64.ofNat k).toNat = k := A2 oM
     have hk2 : k < x1.toNat := by omega
     refine Sat.skip (Aa (Sat.seq (Sat.block (Sat.seq (Sat.region ?_)))))
     refine Tr.m rfl rfl rfl ?_
     refine Tr.m rfl rfl rfl ?_
     refine Tr.callCL (L := [RB n q N cp a2 e2]) rfl rfl rfl rfl rfl rfl Body194 (item_vote n q N cp a2 e2 c xs hx ha2 hN hbig hcn o a3 e3 hb3 (voteRd_vok _)) (Ac rM Ad) (A3 rfl) (fun w h => ⟨Ah h mM, Bl h (by simp; exact hW.2.2.1) hW.2.1, hW.2.2.1, h.keeps.cell (by simp; exact hcn) hW.2.2.2⟩) ?_
     rintro v31 out31 ⟨rfl, rfl⟩
     refine Tr.m rfl rfl rfl ?_
     refine Tr.eX rfl rfl rfl rfl ?_
     refine Tr.extractB rfl rfl rfl rfl (fun hs7_50 => ?_) (fun hs7_50 => ?_)
     ·
      first | have hs7_5 := of_decide_eq_true hs7_50 | have hs7_5 := of_decide_eq_false hs7_50 | have hs7_5 := A0 hs7_50 | have hs7_5 := A1 hs7_50 | have hs7_5 := hs7_50
      refine Tr.alloc (cs := Vote.zero.cells) rfl Vote.zr rfl ?_
      intro n10 hn10 hf10
      refine Tr.sA rfl rfl rfl rfl (Vote.isCell (by first | exact oK  | exact voteRd_vok _)) Sz81 (Vote.length (by first | exact oK  | exact voteRd_vok _)) mM (Vote.length (by first | exact oK  | exact voteRd_vok _)) uU ?_
      refine Tr.a rfl rfl rfl ?_
      refine Tr.nil (Aa (Sat.seq (Sat.seq (Sat.region ?_))))
      refine Tr.m rfl rfl rfl ?_
      refine Tr.not rfl rfl rfl ?_
      refine Tr.m rfl rfl rfl ?_
      refine Tr.m rfl rfl rfl ?_
      refine Tr.cV rfl rfl rfl rfl Body192 (rd_Err n q N cp a3 e3) (fun w h => Ah h mM) ?_
      refine Tr.nei rfl rfl rfl rfl rfl ?_
      refine Tr.pick rfl rfl rfl rfl rfl rfl ?_
      refine Tr.nil (Aa ?_)
      first
       | refine Sat.condP rfl (fun hc2 => ?_) (fun hc2 => ?_)
       | refine Sat.condNP rfl (fun hc2 => ?_) (fun hc2 => ?_)
       | refine Sat.cond rfl (fun hc2 => ?_) (fun hc2 => ?_)
      ·
       refine Sat.seq (Sat.region ?_)
       refine Tr.a rfl rfl rfl ?_
       refine Tr.a rfl rfl rfl ?_
       refine Tr.nil (Aa (Sat.ret (Ap (B7 (Ap (Ap (B7 (Ap (Ai ?_)))))))))
       refine Am (out := (RB n q N cp a3 e3 :: [])) (Bc rfl rfl rfl) (Ac rM Ad) ?_
       exact votes_none (by rw [hrv, if_pos hyes]; exact votesR_stop hvr hb3 oM _ hk2) hd3.1
      ·
       refine Sat.skip (Aa (Sat.region ?_))
       refine Tr.m rfl rfl rfl ?_
       refine Tr.lA rfl rfl rfl Y81 rfl Sz81 mM (Vote.length (by first | exact oK  | exact voteRd_vok _)) ?_
       refine Tr.mkRow (z := agg Vote.zero.cells) [agg (Bs (o.getD [])).1.cells] (Bs (o.getD [])).1.cells rfl rfl rfl Y24 Sz81 Vote.zr rfl rfl (by intro v hv; rw [List.mem_singleton.1 hv]; exact Vote.length (voteRd_vok _)) dE (by simp [Value.cells]) ?_
       intro q43
       refine Tr.appendAcc (z := agg Vote.zero.cells) (by' := 160) ((Bs (o.getD [])).1.cells) rfl rfl rfl rfl rfl Y24 Y24 Sz81 Zr81 (by unfold By; kernel_rfl) rfl hac sG (fun w h => SeesP.of (Aq h mM)) (fun e => by cases e) (Vote.isCell (voteRd_vok _)) oM oM (by rw [Vote.length (voteRd_vok _)]) ?_
       intro s44 bl44 hac44
       refine Tr.a rfl rfl rfl ?_
       refine Tr.nil (Cc (Aa (Sat.region ?_)))
       refine Tr.add_u64 rfl rfl rfl (show Ak _ _ = some (u64 1) from rfl) ?_
       refine Tr.m rfl rfl rfl ?_
       refine Tr.nil (Aa ?_)
       refine ⟨⟨k + 1, s44, bl44, vs ++ [(Bs (o.getD [])).1], a3, e3⟩, ⟨by simp only []; omega, votesR_step hvr hb3 hs7_5 oM, hd3.1, by simpa using hac44, by simp [hvl], fun V hV => ?_⟩, by simp only []; omega, Af (wk1 rfl (wk1 rfl (wk1 rfl (wk1 rfl (wk1 (congrArg (fun z => some (u64 z)) (ofNat_step _)) wk0))))) (Ac rM (Aj sG Ad))⟩
       rcases List.mem_append.1 hV with h | h
       · exact hvo V h
       · rw [List.mem_singleton.1 h]; exact voteRd_good _
     ·
      first | have hs7_5 := of_decide_eq_true hs7_50 | have hs7_5 := of_decide_eq_false hs7_50 | have hs7_5 := A0 hs7_50 | have hs7_5 := A1 hs7_50 | have hs7_5 := hs7_50
      refine Tr.alloc (cs := Vote.zero.cells) rfl Vote.zr rfl ?_
      intro n10 hn10 hf10
      refine Tr.sA rfl rfl rfl rfl (Vote.isCell (by first | exact oK  | exact voteRd_vok _)) Sz81 (Vote.length (by first | exact oK  | exact voteRd_vok _)) mM (Vote.length (by first | exact oK  | exact voteRd_vok _)) uU ?_
      refine Tr.a rfl rfl rfl ?_
      refine Tr.nil (Aa (Sat.seq (Sat.seq (Sat.region ?_))))
      refine Tr.m rfl rfl rfl ?_
      refine Tr.not rfl rfl rfl ?_
      refine Tr.m rfl rfl rfl ?_
      refine Tr.skp rfl rfl ?_
      refine Tr.skp rfl rfl ?_
      refine Tr.skp rfl rfl ?_
      refine Tr.pick rfl rfl rfl rfl rfl rfl ?_
      refine Tr.nil (Aa ?_)
      refine Sat.cond_t rfl rfl ?_
      refine Sat.seq (Sat.region ?_)
      refine Tr.a rfl rfl rfl ?_
      refine Tr.a rfl rfl rfl ?_
      refine Tr.nil (Aa (Sat.ret (Ap (B7 (Ap (Ap (B7 (Ap (Ai ?_)))))))))
      refine Am (out := (RB n q N cp a3 e3 :: [])) (Bc rfl rfl rfl) (Ac rM Ad) ?_
      exact votes_none (by rw [hrv, if_pos hyes]; exact votesR_stop hvr hb3 oM _ hk2) hd3.1
    ·
     have hk64 : (UInt64.ofNat k).toNat = k := A2 oM
     have hke : k = x1.toNat := by omega
     refine Sat.exit (Bi (Bi (bl_h (Aa (Sat.seq (Sat.region ?_))))))
     refine Tr.m rfl rfl rfl ?_
     refine Tr.a rfl rfl rfl ?_
     refine Tr.a rfl rfl rfl ?_
     refine Tr.nil (Aa (Sat.ret (Ai ?_)))
     refine Am (out := (bl ++ (RB n q N cp a2 e2 :: []))) (Bc rfl rfl rfl) (Aj sG (Ac rM Ad)) ?_
     have hfin : readVL xs M at' e = some (vs, a2, e2) := by rw [hrv, if_pos hyes, ← hke]; exact hvr
     exact ⟨s, bl, a2, e2, ha2, by simp, by rw [hfin]; rfl, fun vs2 a4 e4 h4 => by rw [hfin] at h4; cases h4; exact ⟨rfl, rfl, by omega, hvo, by rw [hvl]; exact hac⟩⟩

end Go.Proofs.YtdifpjmfabhpiaaGreat
end
