/- Contracts of functions of the loaded program, and the lemmas that they need (part 4). It proves no statement by itself; it has no conditions. -/
import Derived.WalkKit
import Derived.Orders
import Derived.Deep.LoopGhost
import Derived.IntWalk
import Derived.Laws.StructEq
import Derived.ArgAppend
import Derived.Deep.AppendSrc
import Derived.Lib.Bytealg
import Derived.Lib.BytesEntry
import Derived.Laws.IdiomStrings
import Derived.WideKeyArr2
import Derived.ProofKit
import Derived.OpenShut
import Derived.Deep.Slices
import Derived.Laws.Pointers
import Derived.Laws.Cover3
import Derived.LaidEqlPtr
import Derived.LoopN
import Derived.RangeFuncLeaves
import Derived.RangeFuncSeq
import Derived.OrdersIn
import Derived.Test.YtdifpjmfabhpiaaGreatRows
import Derived.KernelRfl
import Derived.Laws.Externs
import Derived.Defers
import Derived.ChangeOld
import Derived.Below
import Derived.Test.YtdifpjmfabhpiaaGreatSMostC3
set_option maxRecDepth 100000
set_option maxHeartbeats 8000000
set_option linter.unusedVariables false
set_option linter.unusedSimpArgs false
section
namespace Go.Proofs.YtdifpjmfabhpiaaGreat
open Go Hw

theorem all_cert_1 (x : Cert) (d : DCert) (q : Nat) : Meets Tryz.prog 212 [agg x.cells, ptr q 0] [] (fun W => CertIs W x d ∧ W.cell? ⟨q, 0, none⟩ = some (.func (.func 31) #[] #[])) (fun v out => v = .bool (!decide (d.check = 0)) ∧ out = []) := by
 intro W hW
 refine An Tryz.func212 rfl 8 Tryz.ntmps212 rfl ?_
 refine Sat.seq (Sat.region ?_)
 refine Tr.boxA rfl rfl ?_
 intro n2 hn2 hf2
 refine Tr.a rfl rfl rfl ?_
 refine Tr.nil (Aa (Sat.seq (Sat.region ?_)))
 refine Tr.loadE rfl rfl rfl Tryz.underlying69 rfl (by first | (simp; done) | (simp; exact hW.2.2) | (simp [Cx.with]; done) | (simp [Cx.with]; omega)) (hW.2) ?_
 refine Tr.lA rfl rfl rfl Y55 rfl Sz55 mM (Cert.length (by first | exact oK  | exact hW.1.ok)) ?_
 refine Tr.cV rfl rfl rfl rfl Body31 (cert_check x d) (fun w h => hW.1.ext h rfl) ?_
 refine Tr.nei rfl rfl rfl rfl rfl ?_
 refine Tr.a rfl rfl rfl ?_
 refine Tr.nil (Aa (Sat.ret (Am ?_)))
 refine ⟨_, [], Ae rfl rfl, sP, sP, ?_, rfl⟩
 first
  | rfl
  | simp

theorem index_cert (s : Sl) (ds : List DCert) (q : Nat) : Meets Tryz.prog 229 [s.v, .func (.func 212) #[] #[ptr q 0]] [] (fun W => CertsAt W s ds ∧ W.cell? ⟨q, 0, none⟩ = some (.func (.func 31) #[] #[])) (fun v out => v = i64 (fstBad (fun d : DCert => !decide (d.check = 0)) ds) ∧ out = []) := by
 intro W hW
 obtain ⟨⟨rs, hs⟩, hq⟩ := hW
 have hmax := hs.max
 simp only [maxLen] at hmax
 have hcap := hs.cap
 refine An Tryz.func229 rfl 19 Tryz.ntmps229 rfl ?_
 refine Sat.seq (Sat.region ?_)
 refine Tr.a rfl rfl rfl ?_
 refine Tr.nil (Aa (Sat.seq (Sat.seq (Sat.region ?_))))
 refine Tr.m rfl rfl rfl ?_
 refine Tr.lenSl rfl rfl rfl Y23 ?_
 refine Tr.m rfl rfl rfl ?_
 refine Tr.nil (Aa (Sat.block ?_))
 refine Sat.loop (ι := Nat) (fun k => ⟨[(0, s.v), (1, .func (.func 212) #[] #[ptr q 0]), (7, i64 (s.n : Int)), (8, i64 (k : Int))], []⟩) (fun k => k ≤ s.n ∧ ∀ j, j < k → (ds.map (fun d : DCert => !decide (d.check = 0)))[j]? = some false) (fun k => s.n - k) (0) ?_ ?_ ?_
 · exact ⟨by omega, fun j hj => by omega⟩
 · exact Ar (wk1 rfl (wk1 rfl (wk1 rfl (wk1 rfl wk0)))) wh0 nD
 ·
  rintro k ⟨hk, hg⟩
  refine Sat.seq (Sat.region ?_)
  refine Tr.lss rfl rfl rfl rfl rfl ?_
  refine Tr.nil (Aa (Sat.seq ?_))
  first
   | refine Sat.condP rfl (fun hc0 => ?_) (fun hc0 => ?_)
   | refine Sat.condNP rfl (fun hc0 => ?_) (fun hc0 => ?_)
   | refine Sat.cond rfl (fun hc0 => ?_) (fun hc0 => ?_)
  ·
   have hk2 : k < s.n := by omega
   obtain ⟨b, o, r, d, hsp, hr, hd, his, hlen, hsee⟩ := hs.at dE hk2
   refine Sat.skip (Aa (Sat.seq (Sat.block (Sat.seq (Sat.region ?_)))))
   refine Tr.m rfl rfl rfl ?_
   refine Tr.a rfl rfl rfl ?_
   refine Tr.nil (Aa (Sat.seq (Sat.region ?_)))
   refine Tr.m rfl rfl rfl ?_
   refine Tr.m rfl rfl rfl ?_
   refine Tr.m rfl rfl rfl ?_
   refine Tr.idxSlP 35 rfl rfl rfl hsp rfl Y23 Sz55 k oM oM ?_
   refine Tr.loadEN r.cells rfl rfl rfl Y55 rfl Sz55 sP hlen hsee ?_
   refine Tr.callCV rfl rfl rfl rfl rfl Body212 (all_cert_1 r d q) (fun w h => ⟨his.ext h rfl, h.keeps.cell sP hq⟩) ?_
   refine Tr.nil (Aa ?_)
   first
    | refine Sat.condP rfl (fun hc1 => ?_) (fun hc1 => ?_)
    | refine Sat.condNP rfl (fun hc1 => ?_) (fun hc1 => ?_)
    | refine Sat.cond rfl (fun hc1 => ?_) (fun hc1 => ?_)
   ·
    refine Sat.seq (Sat.region ?_)
    refine Tr.m rfl rfl rfl ?_
    refine Tr.a rfl rfl rfl ?_
    refine Tr.nil (Aa (Sat.ret (B8 (Ao (Ao (B8 (Ao (Am ?_))))))))
    refine ⟨_, [], Ae rfl rfl, sP, sP, ?_, rfl⟩
    first
     | exact congrArg i64 (fstBad_none (by intro j hj; exact hg j (by rw [hs.nd] at hj; exact hj))).symm
     | exact congrArg i64 (fstBad_at hg (by rw [List.getElem?_map, hd]; simpa using hc1)).symm
   ·
    refine Sat.skip (B2 (Aa (Sat.region ?_)))
    refine Tr.aI rfl rfl rfl rfl oM ?_
    refine Tr.m rfl rfl rfl ?_
    refine Tr.nil (Aa ?_)
    exact ⟨k + 1, ⟨by omega, fun j hj => by rcases Nat.lt_succ_iff_lt_or_eq.1 hj with h | rfl; exact hg j h; rw [List.getElem?_map, hd]; simpa using hc1⟩, by omega, Ar (wk1 rfl (wk1 rfl (wk1 rfl (wk1 rfl wk0)))) wh0 nD⟩
  ·
   obtain rfl : k = s.n := by omega
   refine Sat.exit (Bf (Bf (bl_h (Aa (Sat.seq (Sat.region ?_))))))
   refine Tr.a rfl rfl rfl ?_
   refine Tr.nil (Aa (Sat.ret (Am ?_)))
   refine ⟨_, [], Ae rfl rfl, sP, sP, ?_, rfl⟩
   first
    | exact congrArg i64 (fstBad_none (by intro j hj; exact hg j (by rw [hs.nd] at hj; exact hj))).symm
    | exact congrArg i64 (fstBad_at hg (by rw [List.getElem?_map, hd]; simpa using hc1)).symm

theorem contains_cert (s : Sl) (ds : List DCert) (q : Nat) : Meets Tryz.prog 179 [s.v, .func (.func 212) #[] #[ptr q 0]] [] (fun W => CertsAt W s ds ∧ W.cell? ⟨q, 0, none⟩ = some (.func (.func 31) #[] #[])) (fun v out => v = .bool (ds.any (fun d : DCert => !decide (d.check = 0))) ∧ out = []) := by
 intro W hW
 refine An Tryz.func179 rfl 9 Tryz.ntmps179 rfl ?_
 refine Sat.seq (Sat.region ?_)
 refine Tr.a rfl rfl rfl ?_
 refine Tr.nil (Aa (Sat.seq (Sat.region ?_)))
 refine Tr.m rfl rfl rfl ?_
 refine Tr.m rfl rfl rfl ?_
 refine Tr.cV rfl rfl rfl rfl Body229 (index_cert s ds q) (fun w h => ⟨Certs_ext h rfl hW.1, h.keeps.cell sP hW.2⟩) ?_
 refine Tr.geq rfl rfl rfl rfl rfl ?_
 refine Tr.a rfl rfl rfl ?_
 refine Tr.nil (Aa (Sat.ret (Am ?_)))
 refine ⟨_, [], Ae rfl rfl, sP, sP, ?_, rfl⟩
 exact congrArg Value.bool (fstBad_ge _ _)

theorem all_cert (s : Sl) (ds : List DCert) : Meets Tryz.prog 129 [s.v, .func (.func 31) #[] #[]] [] (fun W => CertsAt W s ds) (fun v out => v = .bool (ds.all fun d => decide (d.check = 0)) ∧ out = []) := by
 intro W hW
 refine An Tryz.func129 rfl 9 Tryz.ntmps129 rfl ?_
 refine Sat.seq (Sat.region ?_)
 refine Tr.box1 rfl rfl rfl ?_
 intro n3 hn3 hf3
 refine Tr.a rfl rfl rfl ?_
 refine Tr.nil (Aa (Sat.seq (Sat.region ?_)))
 refine Tr.m rfl rfl rfl ?_
 refine Tr.makeFunc rfl rfl rfl rfl ?_
 refine Tr.cV rfl rfl rfl rfl Body179 (contains_cert s ds n3) (fun w h => ⟨Certs_ext h rfl hW, (Ai h mM).cell (o := 0) rfl⟩) ?_
 refine Tr.not rfl rfl rfl ?_
 refine Tr.a rfl rfl rfl ?_
 refine Tr.nil (Aa (Sat.ret (Am ?_)))
 refine ⟨_, [], Ae rfl rfl, sP, sP, ?_, rfl⟩
 exact congrArg Value.bool (any_all _ _)

def DMsg.bad (D : DMsg) : Prop := As D.dKind = 0 ∨ (4294967295 : Int) < (D.dHeight.toNat : Int) ∨ ¬ andNotI D.used (As D.dKind) = 0 ∨ (32 : Int) < (D.dHeads.length : Int) ∨ (32 : Int) < (D.dWant.length : Int) ∨ (8 : Int) < (D.dBlocks.length : Int) ∨ (20 : Int) < (D.dVotes.length : Int) ∨ (4 : Int) < (D.dCuts.length : Int) ∨ (2 : Int) < (D.dCerts.length : Int) ∨ (¬ D.dKind = 1 ∧ ¬ D.dKind = 2 ∧ D.used = 0) ∨
  ¬ (D.dBlocks.all fun d => decide (d.check = 0)) = true ∨ ¬ (D.dVotes.all fun d => decide (Bw d = 0)) = true ∨ ¬ (D.dCuts.all fun d => decide (d.check = 0)) = true ∨ ¬ (D.dCerts.all fun d => decide (d.check = 0)) = true
open Classical in
noncomputable def DMsg.check (D : DMsg) : Int := if D.bad then 2 else 0
theorem Bu {D : DMsg} (h : D.bad) : D.check = 2 := if_pos h
theorem Bm {D : DMsg} (h : ¬ D.bad) : D.check = 0 := if_neg h

theorem msg_check (m : Msg) (D : DMsg) : Meets Tryz.prog 34 [agg m.cells] [] (fun W => MsgIs W m D) (fun v out => v = i64 D.check ∧ out = []) := by
 intro W hW
 have hok := hW.ok
 have hl := hW.len
 have hbits := mbits_eq hW
 have hu : ((usedN (mbits m) 7 : Nat) : Int) = D.used := by rw [hbits]; rfl
 have eK := hW.fKind
 have eH := hW.fHeight
 refine An Tryz.func34 rfl 90 Tryz.ntmps34 rfl ?_
 refine Sat.seq (Sat.region ?_)
 refine Tr.boxA rfl rfl ?_
 intro n1 hn1 hf1
 refine Tr.a rfl rfl rfl ?_
 refine Tr.nil (Aa (Sat.seq (Sat.region ?_)))
 refine Tr.fld rfl rfl rfl Y57 rfl Sz3 dE _ rfl ?_
 refine Tr.load1 rfl rfl rfl Y3 rfl mM (by first | exact Msg.get_fKind (by first | exact oK  | exact hok) | exact vL) ?_
 refine Tr.cV rfl rfl rfl rfl Body93 (sync_parts m.fKind) tV ?_
 refine Tr.a rfl rfl rfl ?_
 refine Tr.nil (Aa (Sat.seq (Sat.seq (Sat.region ?_))))
 refine Tr.m rfl rfl rfl ?_
 refine two (fun r hr k => Tr.eqi rfl rfl rfl rfl hr k) (fun hs2_10 => ?_) (fun hs2_10 => ?_)
 ·
  first | have hs2_1 := of_decide_eq_true hs2_10 | have hs2_1 := of_decide_eq_false hs2_10 | have hs2_1 := A2 hs2_10 | have hs2_1 := A3 hs2_10 | have hs2_1 := hs2_10
  refine Tr.m rfl rfl rfl ?_
  refine Tr.skp rfl rfl ?_
  refine Tr.skp rfl rfl ?_
  refine Tr.skp rfl rfl ?_
  refine Tr.pick rfl rfl rfl rfl rfl rfl ?_
  refine Tr.m rfl rfl rfl ?_
  refine Tr.skp rfl rfl ?_
  refine Tr.skp rfl rfl ?_
  refine Tr.skp rfl rfl ?_
  refine Tr.skp rfl rfl ?_
  refine Tr.skp rfl rfl ?_
  refine Tr.pick rfl rfl rfl rfl rfl rfl ?_
  refine Tr.nil (Aa ?_)
  refine Sat.cond_t rfl rfl ?_
  refine Sat.seq (Sat.region ?_)
  refine Tr.a rfl rfl rfl ?_
  refine Tr.nil (Aa (Sat.ret (Ao (Am ?_))))
  refine ⟨_, [], Ae rfl rfl, sP, sP, ?_, rfl⟩
  first
   | exact congrArg i64 (Bu (by
     simp only [DMsg.bad, ← eK, ← eH, ← hu, ← hl.heads, ← hl.want, ← hl.blocks, ← hl.votes, ← hl.cuts, ← hl.certs]
     first
      | exact .inl (‹_›)
      | exact .inr (.inl (‹_›))
      | exact .inr (.inr (.inl (‹_›)))
      | exact .inr (.inr (.inr (.inl (‹_›))))
      | exact .inr (.inr (.inr (.inr (.inl (‹_›)))))
      | exact .inr (.inr (.inr (.inr (.inr (.inl (‹_›))))))
      | exact .inr (.inr (.inr (.inr (.inr (.inr (.inl (‹_›)))))))
      | exact .inr (.inr (.inr (.inr (.inr (.inr (.inr (.inl (‹_›))))))))
      | exact .inr (.inr (.inr (.inr (.inr (.inr (.inr (.inr (.inl (‹_›)))))))))
      | exact .inr (.inr (.inr (.inr (.inr (.inr (.inr (.inr (.inr (.inl (⟨‹_›, ‹_›, ‹_›⟩))))))))))
      | exact .inr (.inr (.inr (.inr (.inr (.inr (.inr (.inr (.inr (.inl (⟨by omega, by omega, by omega⟩))))))))))
      | exact .inr (.inr (.inr (.inr (.inr (.inr (.inr (.inr (.inr (.inr (.inl (‹_›)))))))))))
      | exact .inr (.inr (.inr (.inr (.inr (.inr (.inr (.inr (.inr (.inr (.inr (.inl (‹_›))))))))))))
      | exact .inr (.inr (.inr (.inr (.inr (.inr (.inr (.inr (.inr (.inr (.inr (.inr (.inl (‹_›)))))))))))))
      | exact .inr (.inr (.inr (.inr (.inr (.inr (.inr (.inr (.inr (.inr (.inr (.inr (.inr (‹_›)))))))))))))
      | exact .inr (.inr (.inr (.inr (.inr (.inr (.inr (.inr (.inr (.inr (.inl (fun e => Bool.noConfusion (hs8_2.symm.trans e))))))))))))
      | exact .inr (.inr (.inr (.inr (.inr (.inr (.inr (.inr (.inr (.inr (.inr (.inl (fun e => Bool.noConfusion (hs8_7.symm.trans e)))))))))))))
      | exact .inr (.inr (.inr (.inr (.inr (.inr (.inr (.inr (.inr (.inr (.inr (.inr (.inl (fun e => Bool.noConfusion (hs8_13.symm.trans e)))))))))))))))).symm
   | exact congrArg i64 (Bm (by
     simp only [DMsg.bad, ← eK, ← eH, ← hu, ← hl.heads, ← hl.want, ← hl.blocks, ← hl.votes, ← hl.cuts, ← hl.certs]
     rintro (h | h | h | h | h | h | h | h | h | h | h | h | h | h)
     all_goals first | exact h ‹_› | omega | (simp_all; done))).symm
 ·
  first | have hs2_1 := of_decide_eq_true hs2_10 | have hs2_1 := of_decide_eq_false hs2_10 | have hs2_1 := A2 hs2_10 | have hs2_1 := A3 hs2_10 | have hs2_1 := hs2_10
  refine Tr.m rfl rfl rfl ?_
  refine Tr.fld rfl rfl rfl Y57 rfl B1 dE _ rfl ?_
  refine Tr.load1 rfl rfl rfl Y48 rfl mM (by first | exact Msg.get_fHeight (by first | exact oK  | exact hok) | exact vL) ?_
  refine two (fun r hr k => Tr.gtr rfl rfl rfl rfl hr k) (fun hs2_50 => ?_) (fun hs2_50 => ?_)
  ·
   first | have hs2_5 := of_decide_eq_true hs2_50 | have hs2_5 := of_decide_eq_false hs2_50 | have hs2_5 := A2 hs2_50 | have hs2_5 := A3 hs2_50 | have hs2_5 := hs2_50
   refine Tr.pick rfl rfl rfl rfl rfl rfl ?_
   refine Tr.m rfl rfl rfl ?_
   refine Tr.skp rfl rfl ?_
   refine Tr.skp rfl rfl ?_
   refine Tr.skp rfl rfl ?_
   refine Tr.skp rfl rfl ?_
   refine Tr.skp rfl rfl ?_
   refine Tr.pick rfl rfl rfl rfl rfl rfl ?_
   refine Tr.nil (Aa ?_)
   refine Sat.cond_t rfl rfl ?_
   refine Sat.seq (Sat.region ?_)
   refine Tr.a rfl rfl rfl ?_
   refine Tr.nil (Aa (Sat.ret (Ao (Am ?_))))
   refine ⟨_, [], Ae rfl rfl, sP, sP, ?_, rfl⟩
   first
    | exact congrArg i64 (Bu (by
      simp only [DMsg.bad, ← eK, ← eH, ← hu, ← hl.heads, ← hl.want, ← hl.blocks, ← hl.votes, ← hl.cuts, ← hl.certs]
      first
       | exact .inl (‹_›)
       | exact .inr (.inl (‹_›))
       | exact .inr (.inr (.inl (‹_›)))
       | exact .inr (.inr (.inr (.inl (‹_›))))
       | exact .inr (.inr (.inr (.inr (.inl (‹_›)))))
       | exact .inr (.inr (.inr (.inr (.inr (.inl (‹_›))))))
       | exact .inr (.inr (.inr (.inr (.inr (.inr (.inl (‹_›)))))))
       | exact .inr (.inr (.inr (.inr (.inr (.inr (.inr (.inl (‹_›))))))))
       | exact .inr (.inr (.inr (.inr (.inr (.inr (.inr (.inr (.inl (‹_›)))))))))
       | exact .inr (.inr (.inr (.inr (.inr (.inr (.inr (.inr (.inr (.inl (⟨‹_›, ‹_›, ‹_›⟩))))))))))
       | exact .inr (.inr (.inr (.inr (.inr (.inr (.inr (.inr (.inr (.inl (⟨by omega, by omega, by omega⟩))))))))))
       | exact .inr (.inr (.inr (.inr (.inr (.inr (.inr (.inr (.inr (.inr (.inl (‹_›)))))))))))
       | exact .inr (.inr (.inr (.inr (.inr (.inr (.inr (.inr (.inr (.inr (.inr (.inl (‹_›))))))))))))
       | exact .inr (.inr (.inr (.inr (.inr (.inr (.inr (.inr (.inr (.inr (.inr (.inr (.inl (‹_›)))))))))))))
       | exact .inr (.inr (.inr (.inr (.inr (.inr (.inr (.inr (.inr (.inr (.inr (.inr (.inr (‹_›)))))))))))))
       | exact .inr (.inr (.inr (.inr (.inr (.inr (.inr (.inr (.inr (.inr (.inl (fun e => Bool.noConfusion (hs8_2.symm.trans e))))))))))))
       | exact .inr (.inr (.inr (.inr (.inr (.inr (.inr (.inr (.inr (.inr (.inr (.inl (fun e => Bool.noConfusion (hs8_7.symm.trans e)))))))))))))
       | exact .inr (.inr (.inr (.inr (.inr (.inr (.inr (.inr (.inr (.inr (.inr (.inr (.inl (fun e => Bool.noConfusion (hs8_13.symm.trans e)))))))))))))))).symm
    | exact congrArg i64 (Bm (by
      simp only [DMsg.bad, ← eK, ← eH, ← hu, ← hl.heads, ← hl.want, ← hl.blocks, ← hl.votes, ← hl.cuts, ← hl.certs]
      rintro (h | h | h | h | h | h | h | h | h | h | h | h | h | h)
      all_goals first | exact h ‹_› | omega | (simp_all; done))).symm
  ·
   first | have hs2_5 := of_decide_eq_true hs2_50 | have hs2_5 := of_decide_eq_false hs2_50 | have hs2_5 := A2 hs2_50 | have hs2_5 := A3 hs2_50 | have hs2_5 := hs2_50
   refine Tr.pick rfl rfl rfl rfl rfl rfl ?_
   refine Tr.m rfl rfl rfl ?_
   refine Tr.lA rfl rfl rfl Y57 rfl Sz57 mM (Msg.length (by first | exact oK  | exact hok)) ?_
   refine Tr.cV rfl rfl rfl rfl Body125 (sync_used m hok) tV ?_
   refine Tr.m rfl rfl rfl ?_
   refine Tr.andNot_i64 rfl rfl rfl rfl ?_
   refine Tr.nei rfl rfl rfl rfl rfl ?_
   refine Tr.pick rfl rfl rfl rfl rfl rfl ?_
   refine Tr.nil (Aa ?_)
   first
    | refine Sat.condP rfl (fun hc0 => ?_) (fun hc0 => ?_)
    | refine Sat.condNP rfl (fun hc0 => ?_) (fun hc0 => ?_)
    | refine Sat.cond rfl (fun hc0 => ?_) (fun hc0 => ?_)
   ·
    refine Sat.seq (Sat.region ?_)
    refine Tr.a rfl rfl rfl ?_
    refine Tr.nil (Aa (Sat.ret (Ao (Am ?_))))
    refine ⟨_, [], Ae rfl rfl, sP, sP, ?_, rfl⟩
    first
     | exact congrArg i64 (Bu (by
       simp only [DMsg.bad, ← eK, ← eH, ← hu, ← hl.heads, ← hl.want, ← hl.blocks, ← hl.votes, ← hl.cuts, ← hl.certs]
       first
        | exact .inl (‹_›)
        | exact .inr (.inl (‹_›))
        | exact .inr (.inr (.inl (‹_›)))
        | exact .inr (.inr (.inr (.inl (‹_›))))
        | exact .inr (.inr (.inr (.inr (.inl (‹_›)))))
        | exact .inr (.inr (.inr (.inr (.inr (.inl (‹_›))))))
        | exact .inr (.inr (.inr (.inr (.inr (.inr (.inl (‹_›)))))))
        | exact .inr (.inr (.inr (.inr (.inr (.inr (.inr (.inl (‹_›))))))))
        | exact .inr (.inr (.inr (.inr (.inr (.inr (.inr (.inr (.inl (‹_›)))))))))
        | exact .inr (.inr (.inr (.inr (.inr (.inr (.inr (.inr (.inr (.inl (⟨‹_›, ‹_›, ‹_›⟩))))))))))
        | exact .inr (.inr (.inr (.inr (.inr (.inr (.inr (.inr (.inr (.inl (⟨by omega, by omega, by omega⟩))))))))))
        | exact .inr (.inr (.inr (.inr (.inr (.inr (.inr (.inr (.inr (.inr (.inl (‹_›)))))))))))
        | exact .inr (.inr (.inr (.inr (.inr (.inr (.inr (.inr (.inr (.inr (.inr (.inl (‹_›))))))))))))
        | exact .inr (.inr (.inr (.inr (.inr (.inr (.inr (.inr (.inr (.inr (.inr (.inr (.inl (‹_›)))))))))))))
        | exact .inr (.inr (.inr (.inr (.inr (.inr (.inr (.inr (.inr (.inr (.inr (.inr (.inr (‹_›)))))))))))))
        | exact .inr (.inr (.inr (.inr (.inr (.inr (.inr (.inr (.inr (.inr (.inl (fun e => Bool.noConfusion (hs8_2.symm.trans e))))))))))))
        | exact .inr (.inr (.inr (.inr (.inr (.inr (.inr (.inr (.inr (.inr (.inr (.inl (fun e => Bool.noConfusion (hs8_7.symm.trans e)))))))))))))
        | exact .inr (.inr (.inr (.inr (.inr (.inr (.inr (.inr (.inr (.inr (.inr (.inr (.inl (fun e => Bool.noConfusion (hs8_13.symm.trans e)))))))))))))))).symm
     | exact congrArg i64 (Bm (by
       simp only [DMsg.bad, ← eK, ← eH, ← hu, ← hl.heads, ← hl.want, ← hl.blocks, ← hl.votes, ← hl.cuts, ← hl.certs]
       rintro (h | h | h | h | h | h | h | h | h | h | h | h | h | h)
       all_goals first | exact h ‹_› | omega | (simp_all; done))).symm
   ·
    refine Sat.skip (Aa (Sat.seq (Sat.seq (Sat.region ?_))))
    refine Tr.fld rfl rfl rfl Y57 rfl Sz51 dE _ rfl ?_
    refine Tr.load1 rfl rfl rfl Y51 rfl mM (by first | exact Msg.get_fHeads (by first | exact oK  | exact hok) | exact vL) ?_
    refine Tr.lenSl rfl rfl rfl Y51 ?_
    refine two (fun r hr k => Tr.gtr rfl rfl rfl rfl hr k) (fun hs4_30 => ?_) (fun hs4_30 => ?_)
    ·
     first | have hs4_3 := of_decide_eq_true hs4_30 | have hs4_3 := of_decide_eq_false hs4_30 | have hs4_3 := A2 hs4_30 | have hs4_3 := A3 hs4_30 | have hs4_3 := hs4_30
     refine Tr.m rfl rfl rfl ?_
     refine Tr.skp rfl rfl ?_
     refine Tr.skp rfl rfl ?_
     refine Tr.skp rfl rfl ?_
     refine Tr.skp rfl rfl ?_
     refine Tr.pick rfl rfl rfl rfl rfl rfl ?_
     refine Tr.m rfl rfl rfl ?_
     refine Tr.skp rfl rfl ?_
     refine Tr.skp rfl rfl ?_
     refine Tr.skp rfl rfl ?_
     refine Tr.skp rfl rfl ?_
     refine Tr.pick rfl rfl rfl rfl rfl rfl ?_
     refine Tr.m rfl rfl rfl ?_
     refine Tr.skp rfl rfl ?_
     refine Tr.skp rfl rfl ?_
     refine Tr.skp rfl rfl ?_
     refine Tr.skp rfl rfl ?_
     refine Tr.pick rfl rfl rfl rfl rfl rfl ?_
     refine Tr.m rfl rfl rfl ?_
     refine Tr.skp rfl rfl ?_
     refine Tr.skp rfl rfl ?_
     refine Tr.skp rfl rfl ?_
     refine Tr.skp rfl rfl ?_
     refine Tr.pick rfl rfl rfl rfl rfl rfl ?_
     refine Tr.m rfl rfl rfl ?_
     refine Tr.skp rfl rfl ?_
     refine Tr.skp rfl rfl ?_
     refine Tr.skp rfl rfl ?_
     refine Tr.skp rfl rfl ?_
     refine Tr.pick rfl rfl rfl rfl rfl rfl ?_
     refine Tr.nil (Aa ?_)
     refine Sat.cond_t rfl rfl ?_
     refine Sat.seq (Sat.region ?_)
     refine Tr.a rfl rfl rfl ?_
     refine Tr.nil (Aa (Sat.ret (Ao (Am ?_))))
     refine ⟨_, [], Ae rfl rfl, sP, sP, ?_, rfl⟩
     first
      | exact congrArg i64 (Bu (by
        simp only [DMsg.bad, ← eK, ← eH, ← hu, ← hl.heads, ← hl.want, ← hl.blocks, ← hl.votes, ← hl.cuts, ← hl.certs]
        first
         | exact .inl (‹_›)
         | exact .inr (.inl (‹_›))
         | exact .inr (.inr (.inl (‹_›)))
         | exact .inr (.inr (.inr (.inl (‹_›))))
         | exact .inr (.inr (.inr (.inr (.inl (‹_›)))))
         | exact .inr (.inr (.inr (.inr (.inr (.inl (‹_›))))))
         | exact .inr (.inr (.inr (.inr (.inr (.inr (.inl (‹_›)))))))
         | exact .inr (.inr (.inr (.inr (.inr (.inr (.inr (.inl (‹_›))))))))
         | exact .inr (.inr (.inr (.inr (.inr (.inr (.inr (.inr (.inl (‹_›)))))))))
         | exact .inr (.inr (.inr (.inr (.inr (.inr (.inr (.inr (.inr (.inl (⟨‹_›, ‹_›, ‹_›⟩))))))))))
         | exact .inr (.inr (.inr (.inr (.inr (.inr (.inr (.inr (.inr (.inl (⟨by omega, by omega, by omega⟩))))))))))
         | exact .inr (.inr (.inr (.inr (.inr (.inr (.inr (.inr (.inr (.inr (.inl (‹_›)))))))))))
         | exact .inr (.inr (.inr (.inr (.inr (.inr (.inr (.inr (.inr (.inr (.inr (.inl (‹_›))))))))))))
         | exact .inr (.inr (.inr (.inr (.inr (.inr (.inr (.inr (.inr (.inr (.inr (.inr (.inl (‹_›)))))))))))))
         | exact .inr (.inr (.inr (.inr (.inr (.inr (.inr (.inr (.inr (.inr (.inr (.inr (.inr (‹_›)))))))))))))
         | exact .inr (.inr (.inr (.inr (.inr (.inr (.inr (.inr (.inr (.inr (.inl (fun e => Bool.noConfusion (hs8_2.symm.trans e))))))))))))
         | exact .inr (.inr (.inr (.inr (.inr (.inr (.inr (.inr (.inr (.inr (.inr (.inl (fun e => Bool.noConfusion (hs8_7.symm.trans e)))))))))))))
         | exact .inr (.inr (.inr (.inr (.inr (.inr (.inr (.inr (.inr (.inr (.inr (.inr (.inl (fun e => Bool.noConfusion (hs8_13.symm.trans e)))))))))))))))).symm
      | exact congrArg i64 (Bm (by
        simp only [DMsg.bad, ← eK, ← eH, ← hu, ← hl.heads, ← hl.want, ← hl.blocks, ← hl.votes, ← hl.cuts, ← hl.certs]
        rintro (h | h | h | h | h | h | h | h | h | h | h | h | h | h)
        all_goals first | exact h ‹_› | omega | (simp_all; done))).symm
    ·
     first | have hs4_3 := of_decide_eq_true hs4_30 | have hs4_3 := of_decide_eq_false hs4_30 | have hs4_3 := A2 hs4_30 | have hs4_3 := A3 hs4_30 | have hs4_3 := hs4_30
     refine Tr.m rfl rfl rfl ?_
     refine Tr.fld rfl rfl rfl Y57 rfl Sz51 dE _ rfl ?_
     refine Tr.load1 rfl rfl rfl Y51 rfl mM (by first | exact Msg.get_fWant (by first | exact oK  | exact hok) | exact vL) ?_
     refine Tr.lenSl rfl rfl rfl Y51 ?_
     refine two (fun r hr k => Tr.gtr rfl rfl rfl rfl hr k) (fun hs4_80 => ?_) (fun hs4_80 => ?_)
     ·
      first | have hs4_8 := of_decide_eq_true hs4_80 | have hs4_8 := of_decide_eq_false hs4_80 | have hs4_8 := A2 hs4_80 | have hs4_8 := A3 hs4_80 | have hs4_8 := hs4_80
      refine Tr.pick rfl rfl rfl rfl rfl rfl ?_
      refine Tr.m rfl rfl rfl ?_
      refine Tr.skp rfl rfl ?_
      refine Tr.skp rfl rfl ?_
      refine Tr.skp rfl rfl ?_
      refine Tr.skp rfl rfl ?_
      refine Tr.pick rfl rfl rfl rfl rfl rfl ?_
      refine Tr.m rfl rfl rfl ?_
      refine Tr.skp rfl rfl ?_
      refine Tr.skp rfl rfl ?_
      refine Tr.skp rfl rfl ?_
      refine Tr.skp rfl rfl ?_
      refine Tr.pick rfl rfl rfl rfl rfl rfl ?_
      refine Tr.m rfl rfl rfl ?_
      refine Tr.skp rfl rfl ?_
      refine Tr.skp rfl rfl ?_
      refine Tr.skp rfl rfl ?_
      refine Tr.skp rfl rfl ?_
      refine Tr.pick rfl rfl rfl rfl rfl rfl ?_
      refine Tr.m rfl rfl rfl ?_
      refine Tr.skp rfl rfl ?_
      refine Tr.skp rfl rfl ?_
      refine Tr.skp rfl rfl ?_
      refine Tr.skp rfl rfl ?_
      refine Tr.pick rfl rfl rfl rfl rfl rfl ?_
      refine Tr.nil (Aa ?_)
      refine Sat.cond_t rfl rfl ?_
      refine Sat.seq (Sat.region ?_)
      refine Tr.a rfl rfl rfl ?_
      refine Tr.nil (Aa (Sat.ret (Ao (Am ?_))))
      refine ⟨_, [], Ae rfl rfl, sP, sP, ?_, rfl⟩
      first
       | exact congrArg i64 (Bu (by
         simp only [DMsg.bad, ← eK, ← eH, ← hu, ← hl.heads, ← hl.want, ← hl.blocks, ← hl.votes, ← hl.cuts, ← hl.certs]
         first
          | exact .inl (‹_›)
          | exact .inr (.inl (‹_›))
          | exact .inr (.inr (.inl (‹_›)))
          | exact .inr (.inr (.inr (.inl (‹_›))))
          | exact .inr (.inr (.inr (.inr (.inl (‹_›)))))
          | exact .inr (.inr (.inr (.inr (.inr (.inl (‹_›))))))
          | exact .inr (.inr (.inr (.inr (.inr (.inr (.inl (‹_›)))))))
          | exact .inr (.inr (.inr (.inr (.inr (.inr (.inr (.inl (‹_›))))))))
          | exact .inr (.inr (.inr (.inr (.inr (.inr (.inr (.inr (.inl (‹_›)))))))))
          | exact .inr (.inr (.inr (.inr (.inr (.inr (.inr (.inr (.inr (.inl (⟨‹_›, ‹_›, ‹_›⟩))))))))))
          | exact .inr (.inr (.inr (.inr (.inr (.inr (.inr (.inr (.inr (.inl (⟨by omega, by omega, by omega⟩))))))))))
          | exact .inr (.inr (.inr (.inr (.inr (.inr (.inr (.inr (.inr (.inr (.inl (‹_›)))))))))))
          | exact .inr (.inr (.inr (.inr (.inr (.inr (.inr (.inr (.inr (.inr (.inr (.inl (‹_›))))))))))))
          | exact .inr (.inr (.inr (.inr (.inr (.inr (.inr (.inr (.inr (.inr (.inr (.inr (.inl (‹_›)))))))))))))
          | exact .inr (.inr (.inr (.inr (.inr (.inr (.inr (.inr (.inr (.inr (.inr (.inr (.inr (‹_›)))))))))))))
          | exact .inr (.inr (.inr (.inr (.inr (.inr (.inr (.inr (.inr (.inr (.inl (fun e => Bool.noConfusion (hs8_2.symm.trans e))))))))))))
          | exact .inr (.inr (.inr (.inr (.inr (.inr (.inr (.inr (.inr (.inr (.inr (.inl (fun e => Bool.noConfusion (hs8_7.symm.trans e)))))))))))))
          | exact .inr (.inr (.inr (.inr (.inr (.inr (.inr (.inr (.inr (.inr (.inr (.inr (.inl (fun e => Bool.noConfusion (hs8_13.symm.trans e)))))))))))))))).symm
       | exact congrArg i64 (Bm (by
         simp only [DMsg.bad, ← eK, ← eH, ← hu, ← hl.heads, ← hl.want, ← hl.blocks, ← hl.votes, ← hl.cuts, ← hl.certs]
         rintro (h | h | h | h | h | h | h | h | h | h | h | h | h | h)
         all_goals first | exact h ‹_› | omega | (simp_all; done))).symm
     ·
      first | have hs4_8 := of_decide_eq_true hs4_80 | have hs4_8 := of_decide_eq_false hs4_80 | have hs4_8 := A2 hs4_80 | have hs4_8 := A3 hs4_80 | have hs4_8 := hs4_80
      refine Tr.pick rfl rfl rfl rfl rfl rfl ?_
      refine Tr.m rfl rfl rfl ?_
      refine Tr.fld rfl rfl rfl Y57 rfl Sz22 dE _ rfl ?_
      refine Tr.load1 rfl rfl rfl Y22 rfl mM (by first | exact Msg.get_fBlocks (by first | exact oK  | exact hok) | exact vL) ?_
      refine Tr.lenSl rfl rfl rfl Y22 ?_
      refine two (fun r hr k => Tr.gtr rfl rfl rfl rfl hr k) (fun hs4_140 => ?_) (fun hs4_140 => ?_)
      ·
       first | have hs4_14 := of_decide_eq_true hs4_140 | have hs4_14 := of_decide_eq_false hs4_140 | have hs4_14 := A2 hs4_140 | have hs4_14 := A3 hs4_140 | have hs4_14 := hs4_140
       refine Tr.pick rfl rfl rfl rfl rfl rfl ?_
       refine Tr.m rfl rfl rfl ?_
       refine Tr.skp rfl rfl ?_
       refine Tr.skp rfl rfl ?_
       refine Tr.skp rfl rfl ?_
       refine Tr.skp rfl rfl ?_
       refine Tr.pick rfl rfl rfl rfl rfl rfl ?_
       refine Tr.m rfl rfl rfl ?_
       refine Tr.skp rfl rfl ?_
       refine Tr.skp rfl rfl ?_
       refine Tr.skp rfl rfl ?_
       refine Tr.skp rfl rfl ?_
       refine Tr.pick rfl rfl rfl rfl rfl rfl ?_
       refine Tr.m rfl rfl rfl ?_
       refine Tr.skp rfl rfl ?_
       refine Tr.skp rfl rfl ?_
       refine Tr.skp rfl rfl ?_
       refine Tr.skp rfl rfl ?_
       refine Tr.pick rfl rfl rfl rfl rfl rfl ?_
       refine Tr.nil (Aa ?_)
       refine Sat.cond_t rfl rfl ?_
       refine Sat.seq (Sat.region ?_)
       refine Tr.a rfl rfl rfl ?_
       refine Tr.nil (Aa (Sat.ret (Ao (Am ?_))))
       refine ⟨_, [], Ae rfl rfl, sP, sP, ?_, rfl⟩
       first
        | exact congrArg i64 (Bu (by
          simp only [DMsg.bad, ← eK, ← eH, ← hu, ← hl.heads, ← hl.want, ← hl.blocks, ← hl.votes, ← hl.cuts, ← hl.certs]
          first
           | exact .inl (‹_›)
           | exact .inr (.inl (‹_›))
           | exact .inr (.inr (.inl (‹_›)))
           | exact .inr (.inr (.inr (.inl (‹_›))))
           | exact .inr (.inr (.inr (.inr (.inl (‹_›)))))
           | exact .inr (.inr (.inr (.inr (.inr (.inl (‹_›))))))
           | exact .inr (.inr (.inr (.inr (.inr (.inr (.inl (‹_›)))))))
           | exact .inr (.inr (.inr (.inr (.inr (.inr (.inr (.inl (‹_›))))))))
           | exact .inr (.inr (.inr (.inr (.inr (.inr (.inr (.inr (.inl (‹_›)))))))))
           | exact .inr (.inr (.inr (.inr (.inr (.inr (.inr (.inr (.inr (.inl (⟨‹_›, ‹_›, ‹_›⟩))))))))))
           | exact .inr (.inr (.inr (.inr (.inr (.inr (.inr (.inr (.inr (.inl (⟨by omega, by omega, by omega⟩))))))))))
           | exact .inr (.inr (.inr (.inr (.inr (.inr (.inr (.inr (.inr (.inr (.inl (‹_›)))))))))))
           | exact .inr (.inr (.inr (.inr (.inr (.inr (.inr (.inr (.inr (.inr (.inr (.inl (‹_›))))))))))))
           | exact .inr (.inr (.inr (.inr (.inr (.inr (.inr (.inr (.inr (.inr (.inr (.inr (.inl (‹_›)))))))))))))
           | exact .inr (.inr (.inr (.inr (.inr (.inr (.inr (.inr (.inr (.inr (.inr (.inr (.inr (‹_›)))))))))))))
           | exact .inr (.inr (.inr (.inr (.inr (.inr (.inr (.inr (.inr (.inr (.inl (fun e => Bool.noConfusion (hs8_2.symm.trans e))))))))))))
           | exact .inr (.inr (.inr (.inr (.inr (.inr (.inr (.inr (.inr (.inr (.inr (.inl (fun e => Bool.noConfusion (hs8_7.symm.trans e)))))))))))))
           | exact .inr (.inr (.inr (.inr (.inr (.inr (.inr (.inr (.inr (.inr (.inr (.inr (.inl (fun e => Bool.noConfusion (hs8_13.symm.trans e)))))))))))))))).symm
        | exact congrArg i64 (Bm (by
          simp only [DMsg.bad, ← eK, ← eH, ← hu, ← hl.heads, ← hl.want, ← hl.blocks, ← hl.votes, ← hl.cuts, ← hl.certs]
          rintro (h | h | h | h | h | h | h | h | h | h | h | h | h | h)
          all_goals first | exact h ‹_› | omega | (simp_all; done))).symm
      ·
       first | have hs4_14 := of_decide_eq_true hs4_140 | have hs4_14 := of_decide_eq_false hs4_140 | have hs4_14 := A2 hs4_140 | have hs4_14 := A3 hs4_140 | have hs4_14 := hs4_140
       refine Tr.pick rfl rfl rfl rfl rfl rfl ?_
       refine Tr.m rfl rfl rfl ?_
       refine Tr.fld rfl rfl rfl Y57 rfl Sz24 dE _ rfl ?_
       refine Tr.load1 rfl rfl rfl Y24 rfl mM (by first | exact Msg.get_fVotes (by first | exact oK  | exact hok) | exact vL) ?_
       refine Tr.lenSl rfl rfl rfl Y24 ?_
       refine two (fun r hr k => Tr.gtr rfl rfl rfl rfl hr k) (fun hs4_200 => ?_) (fun hs4_200 => ?_)
       ·
        first | have hs4_20 := of_decide_eq_true hs4_200 | have hs4_20 := of_decide_eq_false hs4_200 | have hs4_20 := A2 hs4_200 | have hs4_20 := A3 hs4_200 | have hs4_20 := hs4_200
        refine Tr.pick rfl rfl rfl rfl rfl rfl ?_
        refine Tr.m rfl rfl rfl ?_
        refine Tr.skp rfl rfl ?_
        refine Tr.skp rfl rfl ?_
        refine Tr.skp rfl rfl ?_
        refine Tr.skp rfl rfl ?_
        refine Tr.pick rfl rfl rfl rfl rfl rfl ?_
        refine Tr.m rfl rfl rfl ?_
        refine Tr.skp rfl rfl ?_
        refine Tr.skp rfl rfl ?_
        refine Tr.skp rfl rfl ?_
        refine Tr.skp rfl rfl ?_
        refine Tr.pick rfl rfl rfl rfl rfl rfl ?_
        refine Tr.nil (Aa ?_)
        refine Sat.cond_t rfl rfl ?_
        refine Sat.seq (Sat.region ?_)
        refine Tr.a rfl rfl rfl ?_
        refine Tr.nil (Aa (Sat.ret (Ao (Am ?_))))
        refine ⟨_, [], Ae rfl rfl, sP, sP, ?_, rfl⟩
        first
         | exact congrArg i64 (Bu (by
           simp only [DMsg.bad, ← eK, ← eH, ← hu, ← hl.heads, ← hl.want, ← hl.blocks, ← hl.votes, ← hl.cuts, ← hl.certs]
           first
            | exact .inl (‹_›)
            | exact .inr (.inl (‹_›))
            | exact .inr (.inr (.inl (‹_›)))
            | exact .inr (.inr (.inr (.inl (‹_›))))
            | exact .inr (.inr (.inr (.inr (.inl (‹_›)))))
            | exact .inr (.inr (.inr (.inr (.inr (.inl (‹_›))))))
            | exact .inr (.inr (.inr (.inr (.inr (.inr (.inl (‹_›)))))))
            | exact .inr (.inr (.inr (.inr (.inr (.inr (.inr (.inl (‹_›))))))))
            | exact .inr (.inr (.inr (.inr (.inr (.inr (.inr (.inr (.inl (‹_›)))))))))
            | exact .inr (.inr (.inr (.inr (.inr (.inr (.inr (.inr (.inr (.inl (⟨‹_›, ‹_›, ‹_›⟩))))))))))
            | exact .inr (.inr (.inr (.inr (.inr (.inr (.inr (.inr (.inr (.inl (⟨by omega, by omega, by omega⟩))))))))))
            | exact .inr (.inr (.inr (.inr (.inr (.inr (.inr (.inr (.inr (.inr (.inl (‹_›)))))))))))
            | exact .inr (.inr (.inr (.inr (.inr (.inr (.inr (.inr (.inr (.inr (.inr (.inl (‹_›))))))))))))
            | exact .inr (.inr (.inr (.inr (.inr (.inr (.inr (.inr (.inr (.inr (.inr (.inr (.inl (‹_›)))))))))))))
            | exact .inr (.inr (.inr (.inr (.inr (.inr (.inr (.inr (.inr (.inr (.inr (.inr (.inr (‹_›)))))))))))))
            | exact .inr (.inr (.inr (.inr (.inr (.inr (.inr (.inr (.inr (.inr (.inl (fun e => Bool.noConfusion (hs8_2.symm.trans e))))))))))))
            | exact .inr (.inr (.inr (.inr (.inr (.inr (.inr (.inr (.inr (.inr (.inr (.inl (fun e => Bool.noConfusion (hs8_7.symm.trans e)))))))))))))
            | exact .inr (.inr (.inr (.inr (.inr (.inr (.inr (.inr (.inr (.inr (.inr (.inr (.inl (fun e => Bool.noConfusion (hs8_13.symm.trans e)))))))))))))))).symm
         | exact congrArg i64 (Bm (by
           simp only [DMsg.bad, ← eK, ← eH, ← hu, ← hl.heads, ← hl.want, ← hl.blocks, ← hl.votes, ← hl.cuts, ← hl.certs]
           rintro (h | h | h | h | h | h | h | h | h | h | h | h | h | h)
           all_goals first | exact h ‹_› | omega | (simp_all; done))).symm
       ·
        first | have hs4_20 := of_decide_eq_true hs4_200 | have hs4_20 := of_decide_eq_false hs4_200 | have hs4_20 := A2 hs4_200 | have hs4_20 := A3 hs4_200 | have hs4_20 := hs4_200
        refine Tr.pick rfl rfl rfl rfl rfl rfl ?_
        refine Tr.m rfl rfl rfl ?_
        refine Tr.fld rfl rfl rfl Y57 rfl Sz25 dE _ rfl ?_
        refine Tr.load1 rfl rfl rfl Y25 rfl mM (by first | exact Msg.get_fCuts (by first | exact oK  | exact hok) | exact vL) ?_
        refine Tr.lenSl rfl rfl rfl Y25 ?_
        refine two (fun r hr k => Tr.gtr rfl rfl rfl rfl hr k) (fun hs4_260 => ?_) (fun hs4_260 => ?_)
        ·
         first | have hs4_26 := of_decide_eq_true hs4_260 | have hs4_26 := of_decide_eq_false hs4_260 | have hs4_26 := A2 hs4_260 | have hs4_26 := A3 hs4_260 | have hs4_26 := hs4_260
         refine Tr.pick rfl rfl rfl rfl rfl rfl ?_
         refine Tr.m rfl rfl rfl ?_
         refine Tr.skp rfl rfl ?_
         refine Tr.skp rfl rfl ?_
         refine Tr.skp rfl rfl ?_
         refine Tr.skp rfl rfl ?_
         refine Tr.pick rfl rfl rfl rfl rfl rfl ?_
         refine Tr.nil (Aa ?_)
         refine Sat.cond_t rfl rfl ?_
         refine Sat.seq (Sat.region ?_)
         refine Tr.a rfl rfl rfl ?_
         refine Tr.nil (Aa (Sat.ret (Ao (Am ?_))))
         refine ⟨_, [], Ae rfl rfl, sP, sP, ?_, rfl⟩
         first
          | exact congrArg i64 (Bu (by
            simp only [DMsg.bad, ← eK, ← eH, ← hu, ← hl.heads, ← hl.want, ← hl.blocks, ← hl.votes, ← hl.cuts, ← hl.certs]
            first
             | exact .inl (‹_›)
             | exact .inr (.inl (‹_›))
             | exact .inr (.inr (.inl (‹_›)))
             | exact .inr (.inr (.inr (.inl (‹_›))))
             | exact .inr (.inr (.inr (.inr (.inl (‹_›)))))
             | exact .inr (.inr (.inr (.inr (.inr (.inl (‹_›))))))
             | exact .inr (.inr (.inr (.inr (.inr (.inr (.inl (‹_›)))))))
             | exact .inr (.inr (.inr (.inr (.inr (.inr (.inr (.inl (‹_›))))))))
             | exact .inr (.inr (.inr (.inr (.inr (.inr (.inr (.inr (.inl (‹_›)))))))))
             | exact .inr (.inr (.inr (.inr (.inr (.inr (.inr (.inr (.inr (.inl (⟨‹_›, ‹_›, ‹_›⟩))))))))))
             | exact .inr (.inr (.inr (.inr (.inr (.inr (.inr (.inr (.inr (.inl (⟨by omega, by omega, by omega⟩))))))))))
             | exact .inr (.inr (.inr (.inr (.inr (.inr (.inr (.inr (.inr (.inr (.inl (‹_›)))))))))))
             | exact .inr (.inr (.inr (.inr (.inr (.inr (.inr (.inr (.inr (.inr (.inr (.inl (‹_›))))))))))))
             | exact .inr (.inr (.inr (.inr (.inr (.inr (.inr (.inr (.inr (.inr (.inr (.inr (.inl (‹_›)))))))))))))
             | exact .inr (.inr (.inr (.inr (.inr (.inr (.inr (.inr (.inr (.inr (.inr (.inr (.inr (‹_›)))))))))))))
             | exact .inr (.inr (.inr (.inr (.inr (.inr (.inr (.inr (.inr (.inr (.inl (fun e => Bool.noConfusion (hs8_2.symm.trans e))))))))))))
             | exact .inr (.inr (.inr (.inr (.inr (.inr (.inr (.inr (.inr (.inr (.inr (.inl (fun e => Bool.noConfusion (hs8_7.symm.trans e)))))))))))))
             | exact .inr (.inr (.inr (.inr (.inr (.inr (.inr (.inr (.inr (.inr (.inr (.inr (.inl (fun e => Bool.noConfusion (hs8_13.symm.trans e)))))))))))))))).symm
          | exact congrArg i64 (Bm (by
            simp only [DMsg.bad, ← eK, ← eH, ← hu, ← hl.heads, ← hl.want, ← hl.blocks, ← hl.votes, ← hl.cuts, ← hl.certs]
            rintro (h | h | h | h | h | h | h | h | h | h | h | h | h | h)
            all_goals first | exact h ‹_› | omega | (simp_all; done))).symm
        ·
         first | have hs4_26 := of_decide_eq_true hs4_260 | have hs4_26 := of_decide_eq_false hs4_260 | have hs4_26 := A2 hs4_260 | have hs4_26 := A3 hs4_260 | have hs4_26 := hs4_260
         refine Tr.pick rfl rfl rfl rfl rfl rfl ?_
         refine Tr.m rfl rfl rfl ?_
         refine Tr.fld rfl rfl rfl Y57 rfl Sz23 dE _ rfl ?_
         refine Tr.load1 rfl rfl rfl Y23 rfl mM (by first | exact Msg.get_fCerts (by first | exact oK  | exact hok) | exact vL) ?_
         refine Tr.lenSl rfl rfl rfl Y23 ?_
         refine Tr.gtr rfl rfl rfl rfl rfl ?_
         refine Tr.pick rfl rfl rfl rfl rfl rfl ?_
         refine Tr.nil (Aa ?_)
         first
          | refine Sat.condP rfl (fun hc1 => ?_) (fun hc1 => ?_)
          | refine Sat.condNP rfl (fun hc1 => ?_) (fun hc1 => ?_)
          | refine Sat.cond rfl (fun hc1 => ?_) (fun hc1 => ?_)
         ·
          refine Sat.seq (Sat.region ?_)
          refine Tr.a rfl rfl rfl ?_
          refine Tr.nil (Aa (Sat.ret (Ao (Am ?_))))
          refine ⟨_, [], Ae rfl rfl, sP, sP, ?_, rfl⟩
          first
           | exact congrArg i64 (Bu (by
             simp only [DMsg.bad, ← eK, ← eH, ← hu, ← hl.heads, ← hl.want, ← hl.blocks, ← hl.votes, ← hl.cuts, ← hl.certs]
             first
              | exact .inl (‹_›)
              | exact .inr (.inl (‹_›))
              | exact .inr (.inr (.inl (‹_›)))
              | exact .inr (.inr (.inr (.inl (‹_›))))
              | exact .inr (.inr (.inr (.inr (.inl (‹_›)))))
              | exact .inr (.inr (.inr (.inr (.inr (.inl (‹_›))))))
              | exact .inr (.inr (.inr (.inr (.inr (.inr (.inl (‹_›)))))))
              | exact .inr (.inr (.inr (.inr (.inr (.inr (.inr (.inl (‹_›))))))))
              | exact .inr (.inr (.inr (.inr (.inr (.inr (.inr (.inr (.inl (‹_›)))))))))
              | exact .inr (.inr (.inr (.inr (.inr (.inr (.inr (.inr (.inr (.inl (⟨‹_›, ‹_›, ‹_›⟩))))))))))
              | exact .inr (.inr (.inr (.inr (.inr (.inr (.inr (.inr (.inr (.inl (⟨by omega, by omega, by omega⟩))))))))))
              | exact .inr (.inr (.inr (.inr (.inr (.inr (.inr (.inr (.inr (.inr (.inl (‹_›)))))))))))
              | exact .inr (.inr (.inr (.inr (.inr (.inr (.inr (.inr (.inr (.inr (.inr (.inl (‹_›))))))))))))
              | exact .inr (.inr (.inr (.inr (.inr (.inr (.inr (.inr (.inr (.inr (.inr (.inr (.inl (‹_›)))))))))))))
              | exact .inr (.inr (.inr (.inr (.inr (.inr (.inr (.inr (.inr (.inr (.inr (.inr (.inr (‹_›)))))))))))))
              | exact .inr (.inr (.inr (.inr (.inr (.inr (.inr (.inr (.inr (.inr (.inl (fun e => Bool.noConfusion (hs8_2.symm.trans e))))))))))))
              | exact .inr (.inr (.inr (.inr (.inr (.inr (.inr (.inr (.inr (.inr (.inr (.inl (fun e => Bool.noConfusion (hs8_7.symm.trans e)))))))))))))
              | exact .inr (.inr (.inr (.inr (.inr (.inr (.inr (.inr (.inr (.inr (.inr (.inr (.inl (fun e => Bool.noConfusion (hs8_13.symm.trans e)))))))))))))))).symm
           | exact congrArg i64 (Bm (by
             simp only [DMsg.bad, ← eK, ← eH, ← hu, ← hl.heads, ← hl.want, ← hl.blocks, ← hl.votes, ← hl.cuts, ← hl.certs]
             rintro (h | h | h | h | h | h | h | h | h | h | h | h | h | h)
             all_goals first | exact h ‹_› | omega | (simp_all; done))).symm
         ·
          refine Sat.skip (Aa (Sat.seq (Sat.seq (Sat.region ?_))))
          refine Tr.fld rfl rfl rfl Y57 rfl Sz3 dE _ rfl ?_
          refine Tr.load1 rfl rfl rfl Y3 rfl mM (by first | exact Msg.get_fKind (by first | exact oK  | exact hok) | exact vL) ?_
          refine two (fun r hr k => Tr.nei rfl rfl rfl rfl hr k) (fun hs6_20 => ?_) (fun hs6_20 => ?_)
          ·
           first | have hs6_2 := of_decide_eq_true hs6_20 | have hs6_2 := of_decide_eq_false hs6_20 | have hs6_2 := A2 hs6_20 | have hs6_2 := A3 hs6_20 | have hs6_2 := hs6_20
           refine Tr.m rfl rfl rfl ?_
           refine Tr.fld rfl rfl rfl Y57 rfl Sz3 dE _ rfl ?_
           refine Tr.load1 rfl rfl rfl Y3 rfl mM (by first | exact Msg.get_fKind (by first | exact oK  | exact hok) | exact vL) ?_
           refine two (fun r hr k => Tr.nei rfl rfl rfl rfl hr k) (fun hs6_60 => ?_) (fun hs6_60 => ?_)
           ·
            first | have hs6_6 := of_decide_eq_true hs6_60 | have hs6_6 := of_decide_eq_false hs6_60 | have hs6_6 := A2 hs6_60 | have hs6_6 := A3 hs6_60 | have hs6_6 := hs6_60
            refine Tr.pick rfl rfl rfl rfl rfl rfl ?_
            refine Tr.m rfl rfl rfl ?_
            refine Tr.lA rfl rfl rfl Y57 rfl Sz57 mM (Msg.length (by first | exact oK  | exact hok)) ?_
            refine Tr.cV rfl rfl rfl rfl Body125 (sync_used m hok) tV ?_
            refine Tr.eqi rfl rfl rfl rfl rfl ?_
            refine Tr.pick rfl rfl rfl rfl rfl rfl ?_
            refine Tr.nil (Aa ?_)
            first
             | refine Sat.condP rfl (fun hc2 => ?_) (fun hc2 => ?_)
             | refine Sat.condNP rfl (fun hc2 => ?_) (fun hc2 => ?_)
             | refine Sat.cond rfl (fun hc2 => ?_) (fun hc2 => ?_)
            ·
             refine Sat.seq (Sat.region ?_)
             refine Tr.a rfl rfl rfl ?_
             refine Tr.nil (Aa (Sat.ret (Ao (Am ?_))))
             refine ⟨_, [], Ae rfl rfl, sP, sP, ?_, rfl⟩
             first
              | exact congrArg i64 (Bu (by
                simp only [DMsg.bad, ← eK, ← eH, ← hu, ← hl.heads, ← hl.want, ← hl.blocks, ← hl.votes, ← hl.cuts, ← hl.certs]
                first
                 | exact .inl (‹_›)
                 | exact .inr (.inl (‹_›))
                 | exact .inr (.inr (.inl (‹_›)))
                 | exact .inr (.inr (.inr (.inl (‹_›))))
                 | exact .inr (.inr (.inr (.inr (.inl (‹_›)))))
                 | exact .inr (.inr (.inr (.inr (.inr (.inl (‹_›))))))
                 | exact .inr (.inr (.inr (.inr (.inr (.inr (.inl (‹_›)))))))
                 | exact .inr (.inr (.inr (.inr (.inr (.inr (.inr (.inl (‹_›))))))))
                 | exact .inr (.inr (.inr (.inr (.inr (.inr (.inr (.inr (.inl (‹_›)))))))))
                 | exact .inr (.inr (.inr (.inr (.inr (.inr (.inr (.inr (.inr (.inl (⟨‹_›, ‹_›, ‹_›⟩))))))))))
                 | exact .inr (.inr (.inr (.inr (.inr (.inr (.inr (.inr (.inr (.inl (⟨by omega, by omega, by omega⟩))))))))))
                 | exact .inr (.inr (.inr (.inr (.inr (.inr (.inr (.inr (.inr (.inr (.inl (‹_›)))))))))))
                 | exact .inr (.inr (.inr (.inr (.inr (.inr (.inr (.inr (.inr (.inr (.inr (.inl (‹_›))))))))))))
                 | exact .inr (.inr (.inr (.inr (.inr (.inr (.inr (.inr (.inr (.inr (.inr (.inr (.inl (‹_›)))))))))))))
                 | exact .inr (.inr (.inr (.inr (.inr (.inr (.inr (.inr (.inr (.inr (.inr (.inr (.inr (‹_›)))))))))))))
                 | exact .inr (.inr (.inr (.inr (.inr (.inr (.inr (.inr (.inr (.inr (.inl (fun e => Bool.noConfusion (hs8_2.symm.trans e))))))))))))
                 | exact .inr (.inr (.inr (.inr (.inr (.inr (.inr (.inr (.inr (.inr (.inr (.inl (fun e => Bool.noConfusion (hs8_7.symm.trans e)))))))))))))
                 | exact .inr (.inr (.inr (.inr (.inr (.inr (.inr (.inr (.inr (.inr (.inr (.inr (.inl (fun e => Bool.noConfusion (hs8_13.symm.trans e)))))))))))))))).symm
              | exact congrArg i64 (Bm (by
                simp only [DMsg.bad, ← eK, ← eH, ← hu, ← hl.heads, ← hl.want, ← hl.blocks, ← hl.votes, ← hl.cuts, ← hl.certs]
                rintro (h | h | h | h | h | h | h | h | h | h | h | h | h | h)
                all_goals first | exact h ‹_› | omega | (simp_all; done))).symm
            ·
             refine Sat.skip (Aa (Sat.seq (Sat.seq (Sat.region ?_))))
             refine Tr.fld rfl rfl rfl Y57 rfl Sz22 dE _ rfl ?_
             refine Tr.load1 rfl rfl rfl Y22 rfl mM (by first | exact Msg.get_fBlocks (by first | exact oK  | exact hok) | exact vL) ?_
             refine Tr.callB rfl rfl rfl rfl Body126 (all_block m.fBlocks D.dBlocks) (fun w h => Blocks_ext h rfl hW.fBlocks) (fun hs8_20 => ?_) (fun hs8_20 => ?_)
             ·
              first | have hs8_2 := of_decide_eq_true hs8_20 | have hs8_2 := of_decide_eq_false hs8_20 | have hs8_2 := A2 hs8_20 | have hs8_2 := A3 hs8_20 | have hs8_2 := hs8_20
              refine Tr.not rfl rfl rfl ?_
              refine Tr.m rfl rfl rfl ?_
              refine Tr.fld rfl rfl rfl Y57 rfl Sz24 dE _ rfl ?_
              refine Tr.load1 rfl rfl rfl Y24 rfl mM (by first | exact Msg.get_fVotes (by first | exact oK  | exact hok) | exact vL) ?_
              refine Tr.callB rfl rfl rfl rfl Body127 (all_vote m.fVotes D.dVotes) (fun w h => Votes_ext h rfl hW.fVotes) (fun hs8_70 => ?_) (fun hs8_70 => ?_)
              ·
               first | have hs8_7 := of_decide_eq_true hs8_70 | have hs8_7 := of_decide_eq_false hs8_70 | have hs8_7 := A2 hs8_70 | have hs8_7 := A3 hs8_70 | have hs8_7 := hs8_70
               refine Tr.not rfl rfl rfl ?_
               refine Tr.pick rfl rfl rfl rfl rfl rfl ?_
               refine Tr.m rfl rfl rfl ?_
               refine Tr.fld rfl rfl rfl Y57 rfl Sz25 dE _ rfl ?_
               refine Tr.load1 rfl rfl rfl Y25 rfl mM (by first | exact Msg.get_fCuts (by first | exact oK  | exact hok) | exact vL) ?_
               refine Tr.callB rfl rfl rfl rfl Body128 (all_cut m.fCuts D.dCuts) (fun w h => Cuts_ext h rfl hW.fCuts) (fun hs8_130 => ?_) (fun hs8_130 => ?_)
               ·
                first | have hs8_13 := of_decide_eq_true hs8_130 | have hs8_13 := of_decide_eq_false hs8_130 | have hs8_13 := A2 hs8_130 | have hs8_13 := A3 hs8_130 | have hs8_13 := hs8_130
                refine Tr.not rfl rfl rfl ?_
                refine Tr.pick rfl rfl rfl rfl rfl rfl ?_
                refine Tr.m rfl rfl rfl ?_
                refine Tr.fld rfl rfl rfl Y57 rfl Sz23 dE _ rfl ?_
                refine Tr.load1 rfl rfl rfl Y23 rfl mM (by first | exact Msg.get_fCerts (by first | exact oK  | exact hok) | exact vL) ?_
                refine Tr.cV rfl rfl rfl rfl Body129 (all_cert m.fCerts D.dCerts) (fun w h => Certs_ext h rfl hW.fCerts) ?_
                refine Tr.not rfl rfl rfl ?_
                refine Tr.pick rfl rfl rfl rfl rfl rfl ?_
                refine Tr.nil (Aa ?_)
                first
                 | refine Sat.condP rfl (fun hc3 => ?_) (fun hc3 => ?_)
                 | refine Sat.condNP rfl (fun hc3 => ?_) (fun hc3 => ?_)
                 | refine Sat.cond rfl (fun hc3 => ?_) (fun hc3 => ?_)
                ·
                 have hx3 : ¬ (D.dCerts.all fun d => decide (d.check = 0)) = true := fun e => by rw [e] at hc3; cases hc3
                 refine Sat.seq (Sat.region ?_)
                 refine Tr.a rfl rfl rfl ?_
                 refine Tr.nil (Aa (Sat.ret (Ao (Am ?_))))
                 refine ⟨_, [], Ae rfl rfl, sP, sP, ?_, rfl⟩
                 first
                  | exact congrArg i64 (Bu (by
                    simp only [DMsg.bad, ← eK, ← eH, ← hu, ← hl.heads, ← hl.want, ← hl.blocks, ← hl.votes, ← hl.cuts, ← hl.certs]
                    first
                     | exact .inl (‹_›)
                     | exact .inr (.inl (‹_›))
                     | exact .inr (.inr (.inl (‹_›)))
                     | exact .inr (.inr (.inr (.inl (‹_›))))
                     | exact .inr (.inr (.inr (.inr (.inl (‹_›)))))
                     | exact .inr (.inr (.inr (.inr (.inr (.inl (‹_›))))))
                     | exact .inr (.inr (.inr (.inr (.inr (.inr (.inl (‹_›)))))))
                     | exact .inr (.inr (.inr (.inr (.inr (.inr (.inr (.inl (‹_›))))))))
                     | exact .inr (.inr (.inr (.inr (.inr (.inr (.inr (.inr (.inl (‹_›)))))))))
                     | exact .inr (.inr (.inr (.inr (.inr (.inr (.inr (.inr (.inr (.inl (⟨‹_›, ‹_›, ‹_›⟩))))))))))
                     | exact .inr (.inr (.inr (.inr (.inr (.inr (.inr (.inr (.inr (.inl (⟨by omega, by omega, by omega⟩))))))))))
                     | exact .inr (.inr (.inr (.inr (.inr (.inr (.inr (.inr (.inr (.inr (.inl (‹_›)))))))))))
                     | exact .inr (.inr (.inr (.inr (.inr (.inr (.inr (.inr (.inr (.inr (.inr (.inl (‹_›))))))))))))
                     | exact .inr (.inr (.inr (.inr (.inr (.inr (.inr (.inr (.inr (.inr (.inr (.inr (.inl (‹_›)))))))))))))
                     | exact .inr (.inr (.inr (.inr (.inr (.inr (.inr (.inr (.inr (.inr (.inr (.inr (.inr (‹_›)))))))))))))
                     | exact .inr (.inr (.inr (.inr (.inr (.inr (.inr (.inr (.inr (.inr (.inl (fun e => Bool.noConfusion (hs8_2.symm.trans e))))))))))))
                     | exact .inr (.inr (.inr (.inr (.inr (.inr (.inr (.inr (.inr (.inr (.inr (.inl (fun e => Bool.noConfusion (hs8_7.symm.trans e)))))))))))))
                     | exact .inr (.inr (.inr (.inr (.inr (.inr (.inr (.inr (.inr (.inr (.inr (.inr (.inl (fun e => Bool.noConfusion (hs8_13.symm.trans e)))))))))))))))).symm
                  | exact congrArg i64 (Bm (by
                    simp only [DMsg.bad, ← eK, ← eH, ← hu, ← hl.heads, ← hl.want, ← hl.blocks, ← hl.votes, ← hl.cuts, ← hl.certs]
                    rintro (h | h | h | h | h | h | h | h | h | h | h | h | h | h)
                    all_goals first | exact h ‹_› | omega | (simp_all; done))).symm
                ·
                 have hx4 : (D.dCerts.all fun d => decide (d.check = 0)) = true := by
                  cases e : (D.dCerts.all fun d => decide (d.check = 0))
                  · rw [e] at hc3; cases hc3
                  · rfl
                 refine Sat.skip (Aa (Sat.seq (Sat.region ?_)))
                 refine Tr.a rfl rfl rfl ?_
                 refine Tr.nil (Aa (Sat.ret (Am ?_)))
                 refine ⟨_, [], Ae rfl rfl, sP, sP, ?_, rfl⟩
                 first
                  | exact congrArg i64 (Bu (by
                    simp only [DMsg.bad, ← eK, ← eH, ← hu, ← hl.heads, ← hl.want, ← hl.blocks, ← hl.votes, ← hl.cuts, ← hl.certs]
                    first
                     | exact .inl (‹_›)
                     | exact .inr (.inl (‹_›))
                     | exact .inr (.inr (.inl (‹_›)))
                     | exact .inr (.inr (.inr (.inl (‹_›))))
                     | exact .inr (.inr (.inr (.inr (.inl (‹_›)))))
                     | exact .inr (.inr (.inr (.inr (.inr (.inl (‹_›))))))
                     | exact .inr (.inr (.inr (.inr (.inr (.inr (.inl (‹_›)))))))
                     | exact .inr (.inr (.inr (.inr (.inr (.inr (.inr (.inl (‹_›))))))))
                     | exact .inr (.inr (.inr (.inr (.inr (.inr (.inr (.inr (.inl (‹_›)))))))))
                     | exact .inr (.inr (.inr (.inr (.inr (.inr (.inr (.inr (.inr (.inl (⟨‹_›, ‹_›, ‹_›⟩))))))))))
                     | exact .inr (.inr (.inr (.inr (.inr (.inr (.inr (.inr (.inr (.inl (⟨by omega, by omega, by omega⟩))))))))))
                     | exact .inr (.inr (.inr (.inr (.inr (.inr (.inr (.inr (.inr (.inr (.inl (‹_›)))))))))))
                     | exact .inr (.inr (.inr (.inr (.inr (.inr (.inr (.inr (.inr (.inr (.inr (.inl (‹_›))))))))))))
                     | exact .inr (.inr (.inr (.inr (.inr (.inr (.inr (.inr (.inr (.inr (.inr (.inr (.inl (‹_›)))))))))))))
                     | exact .inr (.inr (.inr (.inr (.inr (.inr (.inr (.inr (.inr (.inr (.inr (.inr (.inr (‹_›)))))))))))))
                     | exact .inr (.inr (.inr (.inr (.inr (.inr (.inr (.inr (.inr (.inr (.inl (fun e => Bool.noConfusion (hs8_2.symm.trans e))))))))))))
                     | exact .inr (.inr (.inr (.inr (.inr (.inr (.inr (.inr (.inr (.inr (.inr (.inl (fun e => Bool.noConfusion (hs8_7.symm.trans e)))))))))))))
                     | exact .inr (.inr (.inr (.inr (.inr (.inr (.inr (.inr (.inr (.inr (.inr (.inr (.inl (fun e => Bool.noConfusion (hs8_13.symm.trans e)))))))))))))))).symm
                  | exact congrArg i64 (Bm (by
                    simp only [DMsg.bad, ← eK, ← eH, ← hu, ← hl.heads, ← hl.want, ← hl.blocks, ← hl.votes, ← hl.cuts, ← hl.certs]
                    rintro (h | h | h | h | h | h | h | h | h | h | h | h | h | h)
                    all_goals first | exact h ‹_› | omega | (simp_all; done))).symm
               ·
                first | have hs8_13 := of_decide_eq_true hs8_130 | have hs8_13 := of_decide_eq_false hs8_130 | have hs8_13 := A2 hs8_130 | have hs8_13 := A3 hs8_130 | have hs8_13 := hs8_130
                refine Tr.not rfl rfl rfl ?_
                refine Tr.pick rfl rfl rfl rfl rfl rfl ?_
                refine Tr.m rfl rfl rfl ?_
                refine Tr.skp rfl rfl ?_
                refine Tr.skp rfl rfl ?_
                refine Tr.skp rfl rfl ?_
                refine Tr.skp rfl rfl ?_
                refine Tr.pick rfl rfl rfl rfl rfl rfl ?_
                refine Tr.nil (Aa ?_)
                refine Sat.cond_t rfl rfl ?_
                refine Sat.seq (Sat.region ?_)
                refine Tr.a rfl rfl rfl ?_
                refine Tr.nil (Aa (Sat.ret (Ao (Am ?_))))
                refine ⟨_, [], Ae rfl rfl, sP, sP, ?_, rfl⟩
                first
                 | exact congrArg i64 (Bu (by
                   simp only [DMsg.bad, ← eK, ← eH, ← hu, ← hl.heads, ← hl.want, ← hl.blocks, ← hl.votes, ← hl.cuts, ← hl.certs]
                   first
                    | exact .inl (‹_›)
                    | exact .inr (.inl (‹_›))
                    | exact .inr (.inr (.inl (‹_›)))
                    | exact .inr (.inr (.inr (.inl (‹_›))))
                    | exact .inr (.inr (.inr (.inr (.inl (‹_›)))))
                    | exact .inr (.inr (.inr (.inr (.inr (.inl (‹_›))))))
                    | exact .inr (.inr (.inr (.inr (.inr (.inr (.inl (‹_›)))))))
                    | exact .inr (.inr (.inr (.inr (.inr (.inr (.inr (.inl (‹_›))))))))
                    | exact .inr (.inr (.inr (.inr (.inr (.inr (.inr (.inr (.inl (‹_›)))))))))
                    | exact .inr (.inr (.inr (.inr (.inr (.inr (.inr (.inr (.inr (.inl (⟨‹_›, ‹_›, ‹_›⟩))))))))))
                    | exact .inr (.inr (.inr (.inr (.inr (.inr (.inr (.inr (.inr (.inl (⟨by omega, by omega, by omega⟩))))))))))
                    | exact .inr (.inr (.inr (.inr (.inr (.inr (.inr (.inr (.inr (.inr (.inl (‹_›)))))))))))
                    | exact .inr (.inr (.inr (.inr (.inr (.inr (.inr (.inr (.inr (.inr (.inr (.inl (‹_›))))))))))))
                    | exact .inr (.inr (.inr (.inr (.inr (.inr (.inr (.inr (.inr (.inr (.inr (.inr (.inl (‹_›)))))))))))))
                    | exact .inr (.inr (.inr (.inr (.inr (.inr (.inr (.inr (.inr (.inr (.inr (.inr (.inr (‹_›)))))))))))))
                    | exact .inr (.inr (.inr (.inr (.inr (.inr (.inr (.inr (.inr (.inr (.inl (fun e => Bool.noConfusion (hs8_2.symm.trans e))))))))))))
                    | exact .inr (.inr (.inr (.inr (.inr (.inr (.inr (.inr (.inr (.inr (.inr (.inl (fun e => Bool.noConfusion (hs8_7.symm.trans e)))))))))))))
                    | exact .inr (.inr (.inr (.inr (.inr (.inr (.inr (.inr (.inr (.inr (.inr (.inr (.inl (fun e => Bool.noConfusion (hs8_13.symm.trans e)))))))))))))))).symm
                 | exact congrArg i64 (Bm (by
                   simp only [DMsg.bad, ← eK, ← eH, ← hu, ← hl.heads, ← hl.want, ← hl.blocks, ← hl.votes, ← hl.cuts, ← hl.certs]
                   rintro (h | h | h | h | h | h | h | h | h | h | h | h | h | h)
                   all_goals first | exact h ‹_› | omega | (simp_all; done))).symm
              ·
               first | have hs8_7 := of_decide_eq_true hs8_70 | have hs8_7 := of_decide_eq_false hs8_70 | have hs8_7 := A2 hs8_70 | have hs8_7 := A3 hs8_70 | have hs8_7 := hs8_70
               refine Tr.not rfl rfl rfl ?_
               refine Tr.pick rfl rfl rfl rfl rfl rfl ?_
               refine Tr.m rfl rfl rfl ?_
               refine Tr.skp rfl rfl ?_
               refine Tr.skp rfl rfl ?_
               refine Tr.skp rfl rfl ?_
               refine Tr.skp rfl rfl ?_
               refine Tr.pick rfl rfl rfl rfl rfl rfl ?_
               refine Tr.m rfl rfl rfl ?_
               refine Tr.skp rfl rfl ?_
               refine Tr.skp rfl rfl ?_
               refine Tr.skp rfl rfl ?_
               refine Tr.skp rfl rfl ?_
               refine Tr.pick rfl rfl rfl rfl rfl rfl ?_
               refine Tr.nil (Aa ?_)
               refine Sat.cond_t rfl rfl ?_
               refine Sat.seq (Sat.region ?_)
               refine Tr.a rfl rfl rfl ?_
               refine Tr.nil (Aa (Sat.ret (Ao (Am ?_))))
               refine ⟨_, [], Ae rfl rfl, sP, sP, ?_, rfl⟩
               first
                | exact congrArg i64 (Bu (by
                  simp only [DMsg.bad, ← eK, ← eH, ← hu, ← hl.heads, ← hl.want, ← hl.blocks, ← hl.votes, ← hl.cuts, ← hl.certs]
                  first
                   | exact .inl (‹_›)
                   | exact .inr (.inl (‹_›))
                   | exact .inr (.inr (.inl (‹_›)))
                   | exact .inr (.inr (.inr (.inl (‹_›))))
                   | exact .inr (.inr (.inr (.inr (.inl (‹_›)))))
                   | exact .inr (.inr (.inr (.inr (.inr (.inl (‹_›))))))
                   | exact .inr (.inr (.inr (.inr (.inr (.inr (.inl (‹_›)))))))
                   | exact .inr (.inr (.inr (.inr (.inr (.inr (.inr (.inl (‹_›))))))))
                   | exact .inr (.inr (.inr (.inr (.inr (.inr (.inr (.inr (.inl (‹_›)))))))))
                   | exact .inr (.inr (.inr (.inr (.inr (.inr (.inr (.inr (.inr (.inl (⟨‹_›, ‹_›, ‹_›⟩))))))))))
                   | exact .inr (.inr (.inr (.inr (.inr (.inr (.inr (.inr (.inr (.inl (⟨by omega, by omega, by omega⟩))))))))))
                   | exact .inr (.inr (.inr (.inr (.inr (.inr (.inr (.inr (.inr (.inr (.inl (‹_›)))))))))))
                   | exact .inr (.inr (.inr (.inr (.inr (.inr (.inr (.inr (.inr (.inr (.inr (.inl (‹_›))))))))))))
                   | exact .inr (.inr (.inr (.inr (.inr (.inr (.inr (.inr (.inr (.inr (.inr (.inr (.inl (‹_›)))))))))))))
                   | exact .inr (.inr (.inr (.inr (.inr (.inr (.inr (.inr (.inr (.inr (.inr (.inr (.inr (‹_›)))))))))))))
                   | exact .inr (.inr (.inr (.inr (.inr (.inr (.inr (.inr (.inr (.inr (.inl (fun e => Bool.noConfusion (hs8_2.symm.trans e))))))))))))
                   | exact .inr (.inr (.inr (.inr (.inr (.inr (.inr (.inr (.inr (.inr (.inr (.inl (fun e => Bool.noConfusion (hs8_7.symm.trans e)))))))))))))
                   | exact .inr (.inr (.inr (.inr (.inr (.inr (.inr (.inr (.inr (.inr (.inr (.inr (.inl (fun e => Bool.noConfusion (hs8_13.symm.trans e)))))))))))))))).symm
                | exact congrArg i64 (Bm (by
                  simp only [DMsg.bad, ← eK, ← eH, ← hu, ← hl.heads, ← hl.want, ← hl.blocks, ← hl.votes, ← hl.cuts, ← hl.certs]
                  rintro (h | h | h | h | h | h | h | h | h | h | h | h | h | h)
                  all_goals first | exact h ‹_› | omega | (simp_all; done))).symm
             ·
              first | have hs8_2 := of_decide_eq_true hs8_20 | have hs8_2 := of_decide_eq_false hs8_20 | have hs8_2 := A2 hs8_20 | have hs8_2 := A3 hs8_20 | have hs8_2 := hs8_20
              refine Tr.not rfl rfl rfl ?_
              refine Tr.m rfl rfl rfl ?_
              refine Tr.skp rfl rfl ?_
              refine Tr.skp rfl rfl ?_
              refine Tr.skp rfl rfl ?_
              refine Tr.skp rfl rfl ?_
              refine Tr.pick rfl rfl rfl rfl rfl rfl ?_
              refine Tr.m rfl rfl rfl ?_
              refine Tr.skp rfl rfl ?_
              refine Tr.skp rfl rfl ?_
              refine Tr.skp rfl rfl ?_
              refine Tr.skp rfl rfl ?_
              refine Tr.pick rfl rfl rfl rfl rfl rfl ?_
              refine Tr.m rfl rfl rfl ?_
              refine Tr.skp rfl rfl ?_
              refine Tr.skp rfl rfl ?_
              refine Tr.skp rfl rfl ?_
              refine Tr.skp rfl rfl ?_
              refine Tr.pick rfl rfl rfl rfl rfl rfl ?_
              refine Tr.nil (Aa ?_)
              refine Sat.cond_t rfl rfl ?_
              refine Sat.seq (Sat.region ?_)
              refine Tr.a rfl rfl rfl ?_
              refine Tr.nil (Aa (Sat.ret (Ao (Am ?_))))
              refine ⟨_, [], Ae rfl rfl, sP, sP, ?_, rfl⟩
              first
               | exact congrArg i64 (Bu (by
                 simp only [DMsg.bad, ← eK, ← eH, ← hu, ← hl.heads, ← hl.want, ← hl.blocks, ← hl.votes, ← hl.cuts, ← hl.certs]
                 first
                  | exact .inl (‹_›)
                  | exact .inr (.inl (‹_›))
                  | exact .inr (.inr (.inl (‹_›)))
                  | exact .inr (.inr (.inr (.inl (‹_›))))
                  | exact .inr (.inr (.inr (.inr (.inl (‹_›)))))
                  | exact .inr (.inr (.inr (.inr (.inr (.inl (‹_›))))))
                  | exact .inr (.inr (.inr (.inr (.inr (.inr (.inl (‹_›)))))))
                  | exact .inr (.inr (.inr (.inr (.inr (.inr (.inr (.inl (‹_›))))))))
                  | exact .inr (.inr (.inr (.inr (.inr (.inr (.inr (.inr (.inl (‹_›)))))))))
                  | exact .inr (.inr (.inr (.inr (.inr (.inr (.inr (.inr (.inr (.inl (⟨‹_›, ‹_›, ‹_›⟩))))))))))
                  | exact .inr (.inr (.inr (.inr (.inr (.inr (.inr (.inr (.inr (.inl (⟨by omega, by omega, by omega⟩))))))))))
                  | exact .inr (.inr (.inr (.inr (.inr (.inr (.inr (.inr (.inr (.inr (.inl (‹_›)))))))))))
                  | exact .inr (.inr (.inr (.inr (.inr (.inr (.inr (.inr (.inr (.inr (.inr (.inl (‹_›))))))))))))
                  | exact .inr (.inr (.inr (.inr (.inr (.inr (.inr (.inr (.inr (.inr (.inr (.inr (.inl (‹_›)))))))))))))
                  | exact .inr (.inr (.inr (.inr (.inr (.inr (.inr (.inr (.inr (.inr (.inr (.inr (.inr (‹_›)))))))))))))
                  | exact .inr (.inr (.inr (.inr (.inr (.inr (.inr (.inr (.inr (.inr (.inl (fun e => Bool.noConfusion (hs8_2.symm.trans e))))))))))))
                  | exact .inr (.inr (.inr (.inr (.inr (.inr (.inr (.inr (.inr (.inr (.inr (.inl (fun e => Bool.noConfusion (hs8_7.symm.trans e)))))))))))))
                  | exact .inr (.inr (.inr (.inr (.inr (.inr (.inr (.inr (.inr (.inr (.inr (.inr (.inl (fun e => Bool.noConfusion (hs8_13.symm.trans e)))))))))))))))).symm
               | exact congrArg i64 (Bm (by
                 simp only [DMsg.bad, ← eK, ← eH, ← hu, ← hl.heads, ← hl.want, ← hl.blocks, ← hl.votes, ← hl.cuts, ← hl.certs]
                 rintro (h | h | h | h | h | h | h | h | h | h | h | h | h | h)
                 all_goals first | exact h ‹_› | omega | (simp_all; done))).symm
           ·
            first | have hs6_6 := of_decide_eq_true hs6_60 | have hs6_6 := of_decide_eq_false hs6_60 | have hs6_6 := A2 hs6_60 | have hs6_6 := A3 hs6_60 | have hs6_6 := hs6_60
            refine Tr.pick rfl rfl rfl rfl rfl rfl ?_
            refine Tr.m rfl rfl rfl ?_
            refine Tr.skp rfl rfl ?_
            refine Tr.skp rfl rfl ?_
            refine Tr.skp rfl rfl ?_
            refine Tr.pick rfl rfl rfl rfl rfl rfl ?_
            refine Tr.nil (Aa ?_)
            refine Sat.cond_f rfl rfl ?_
            refine Sat.skip (Aa (Sat.seq (Sat.seq (Sat.region ?_))))
            refine Tr.fld rfl rfl rfl Y57 rfl Sz22 dE _ rfl ?_
            refine Tr.load1 rfl rfl rfl Y22 rfl mM (by first | exact Msg.get_fBlocks (by first | exact oK  | exact hok) | exact vL) ?_
            refine Tr.callB rfl rfl rfl rfl Body126 (all_block m.fBlocks D.dBlocks) (fun w h => Blocks_ext h rfl hW.fBlocks) (fun hs8_20 => ?_) (fun hs8_20 => ?_)
            ·
             first | have hs8_2 := of_decide_eq_true hs8_20 | have hs8_2 := of_decide_eq_false hs8_20 | have hs8_2 := A2 hs8_20 | have hs8_2 := A3 hs8_20 | have hs8_2 := hs8_20
             refine Tr.not rfl rfl rfl ?_
             refine Tr.m rfl rfl rfl ?_
             refine Tr.fld rfl rfl rfl Y57 rfl Sz24 dE _ rfl ?_
             refine Tr.load1 rfl rfl rfl Y24 rfl mM (by first | exact Msg.get_fVotes (by first | exact oK  | exact hok) | exact vL) ?_
             refine Tr.callB rfl rfl rfl rfl Body127 (all_vote m.fVotes D.dVotes) (fun w h => Votes_ext h rfl hW.fVotes) (fun hs8_70 => ?_) (fun hs8_70 => ?_)
             ·
              first | have hs8_7 := of_decide_eq_true hs8_70 | have hs8_7 := of_decide_eq_false hs8_70 | have hs8_7 := A2 hs8_70 | have hs8_7 := A3 hs8_70 | have hs8_7 := hs8_70
              refine Tr.not rfl rfl rfl ?_
              refine Tr.pick rfl rfl rfl rfl rfl rfl ?_
              refine Tr.m rfl rfl rfl ?_
              refine Tr.fld rfl rfl rfl Y57 rfl Sz25 dE _ rfl ?_
              refine Tr.load1 rfl rfl rfl Y25 rfl mM (by first | exact Msg.get_fCuts (by first | exact oK  | exact hok) | exact vL) ?_
              refine Tr.callB rfl rfl rfl rfl Body128 (all_cut m.fCuts D.dCuts) (fun w h => Cuts_ext h rfl hW.fCuts) (fun hs8_130 => ?_) (fun hs8_130 => ?_)
              ·
               first | have hs8_13 := of_decide_eq_true hs8_130 | have hs8_13 := of_decide_eq_false hs8_130 | have hs8_13 := A2 hs8_130 | have hs8_13 := A3 hs8_130 | have hs8_13 := hs8_130
               refine Tr.not rfl rfl rfl ?_
               refine Tr.pick rfl rfl rfl rfl rfl rfl ?_
               refine Tr.m rfl rfl rfl ?_
               refine Tr.fld rfl rfl rfl Y57 rfl Sz23 dE _ rfl ?_
               refine Tr.load1 rfl rfl rfl Y23 rfl mM (by first | exact Msg.get_fCerts (by first | exact oK  | exact hok) | exact vL) ?_
               refine Tr.cV rfl rfl rfl rfl Body129 (all_cert m.fCerts D.dCerts) (fun w h => Certs_ext h rfl hW.fCerts) ?_
               refine Tr.not rfl rfl rfl ?_
               refine Tr.pick rfl rfl rfl rfl rfl rfl ?_
               refine Tr.nil (Aa ?_)
               first
                | refine Sat.condP rfl (fun hc3 => ?_) (fun hc3 => ?_)
                | refine Sat.condNP rfl (fun hc3 => ?_) (fun hc3 => ?_)
                | refine Sat.cond rfl (fun hc3 => ?_) (fun hc3 => ?_)
               ·
                have hx3 : ¬ (D.dCerts.all fun d => decide (d.check = 0)) = true := fun e => by rw [e] at hc3; cases hc3
                refine Sat.seq (Sat.region ?_)
                refine Tr.a rfl rfl rfl ?_
                refine Tr.nil (Aa (Sat.ret (Ao (Am ?_))))
                refine ⟨_, [], Ae rfl rfl, sP, sP, ?_, rfl⟩
                first
                 | exact congrArg i64 (Bu (by
                   simp only [DMsg.bad, ← eK, ← eH, ← hu, ← hl.heads, ← hl.want, ← hl.blocks, ← hl.votes, ← hl.cuts, ← hl.certs]
                   first
                    | exact .inl (‹_›)
                    | exact .inr (.inl (‹_›))
                    | exact .inr (.inr (.inl (‹_›)))
                    | exact .inr (.inr (.inr (.inl (‹_›))))
                    | exact .inr (.inr (.inr (.inr (.inl (‹_›)))))
                    | exact .inr (.inr (.inr (.inr (.inr (.inl (‹_›))))))
                    | exact .inr (.inr (.inr (.inr (.inr (.inr (.inl (‹_›)))))))
                    | exact .inr (.inr (.inr (.inr (.inr (.inr (.inr (.inl (‹_›))))))))
                    | exact .inr (.inr (.inr (.inr (.inr (.inr (.inr (.inr (.inl (‹_›)))))))))
                    | exact .inr (.inr (.inr (.inr (.inr (.inr (.inr (.inr (.inr (.inl (⟨‹_›, ‹_›, ‹_›⟩))))))))))
                    | exact .inr (.inr (.inr (.inr (.inr (.inr (.inr (.inr (.inr (.inl (⟨by omega, by omega, by omega⟩))))))))))
                    | exact .inr (.inr (.inr (.inr (.inr (.inr (.inr (.inr (.inr (.inr (.inl (‹_›)))))))))))
                    | exact .inr (.inr (.inr (.inr (.inr (.inr (.inr (.inr (.inr (.inr (.inr (.inl (‹_›))))))))))))
                    | exact .inr (.inr (.inr (.inr (.inr (.inr (.inr (.inr (.inr (.inr (.inr (.inr (.inl (‹_›)))))))))))))
                    | exact .inr (.inr (.inr (.inr (.inr (.inr (.inr (.inr (.inr (.inr (.inr (.inr (.inr (‹_›)))))))))))))
                    | exact .inr (.inr (.inr (.inr (.inr (.inr (.inr (.inr (.inr (.inr (.inl (fun e => Bool.noConfusion (hs8_2.symm.trans e))))))))))))
                    | exact .inr (.inr (.inr (.inr (.inr (.inr (.inr (.inr (.inr (.inr (.inr (.inl (fun e => Bool.noConfusion (hs8_7.symm.trans e)))))))))))))
                    | exact .inr (.inr (.inr (.inr (.inr (.inr (.inr (.inr (.inr (.inr (.inr (.inr (.inl (fun e => Bool.noConfusion (hs8_13.symm.trans e)))))))))))))))).symm
                 | exact congrArg i64 (Bm (by
                   simp only [DMsg.bad, ← eK, ← eH, ← hu, ← hl.heads, ← hl.want, ← hl.blocks, ← hl.votes, ← hl.cuts, ← hl.certs]
                   rintro (h | h | h | h | h | h | h | h | h | h | h | h | h | h)
                   all_goals first | exact h ‹_› | omega | (simp_all; done))).symm
               ·
                have hx4 : (D.dCerts.all fun d => decide (d.check = 0)) = true := by
                 cases e : (D.dCerts.all fun d => decide (d.check = 0))
                 · rw [e] at hc3; cases hc3
                 · rfl
                refine Sat.skip (Aa (Sat.seq (Sat.region ?_)))
                refine Tr.a rfl rfl rfl ?_
                refine Tr.nil (Aa (Sat.ret (Am ?_)))
                refine ⟨_, [], Ae rfl rfl, sP, sP, ?_, rfl⟩
                first
                 | exact congrArg i64 (Bu (by
                   simp only [DMsg.bad, ← eK, ← eH, ← hu, ← hl.heads, ← hl.want, ← hl.blocks, ← hl.votes, ← hl.cuts, ← hl.certs]
                   first
                    | exact .inl (‹_›)
                    | exact .inr (.inl (‹_›))
                    | exact .inr (.inr (.inl (‹_›)))
                    | exact .inr (.inr (.inr (.inl (‹_›))))
                    | exact .inr (.inr (.inr (.inr (.inl (‹_›)))))
                    | exact .inr (.inr (.inr (.inr (.inr (.inl (‹_›))))))
                    | exact .inr (.inr (.inr (.inr (.inr (.inr (.inl (‹_›)))))))
                    | exact .inr (.inr (.inr (.inr (.inr (.inr (.inr (.inl (‹_›))))))))
                    | exact .inr (.inr (.inr (.inr (.inr (.inr (.inr (.inr (.inl (‹_›)))))))))
                    | exact .inr (.inr (.inr (.inr (.inr (.inr (.inr (.inr (.inr (.inl (⟨‹_›, ‹_›, ‹_›⟩))))))))))
                    | exact .inr (.inr (.inr (.inr (.inr (.inr (.inr (.inr (.inr (.inl (⟨by omega, by omega, by omega⟩))))))))))
                    | exact .inr (.inr (.inr (.inr (.inr (.inr (.inr (.inr (.inr (.inr (.inl (‹_›)))))))))))
                    | exact .inr (.inr (.inr (.inr (.inr (.inr (.inr (.inr (.inr (.inr (.inr (.inl (‹_›))))))))))))
                    | exact .inr (.inr (.inr (.inr (.inr (.inr (.inr (.inr (.inr (.inr (.inr (.inr (.inl (‹_›)))))))))))))
                    | exact .inr (.inr (.inr (.inr (.inr (.inr (.inr (.inr (.inr (.inr (.inr (.inr (.inr (‹_›)))))))))))))
                    | exact .inr (.inr (.inr (.inr (.inr (.inr (.inr (.inr (.inr (.inr (.inl (fun e => Bool.noConfusion (hs8_2.symm.trans e))))))))))))
                    | exact .inr (.inr (.inr (.inr (.inr (.inr (.inr (.inr (.inr (.inr (.inr (.inl (fun e => Bool.noConfusion (hs8_7.symm.trans e)))))))))))))
                    | exact .inr (.inr (.inr (.inr (.inr (.inr (.inr (.inr (.inr (.inr (.inr (.inr (.inl (fun e => Bool.noConfusion (hs8_13.symm.trans e)))))))))))))))).symm
                 | exact congrArg i64 (Bm (by
                   simp only [DMsg.bad, ← eK, ← eH, ← hu, ← hl.heads, ← hl.want, ← hl.blocks, ← hl.votes, ← hl.cuts, ← hl.certs]
                   rintro (h | h | h | h | h | h | h | h | h | h | h | h | h | h)
                   all_goals first | exact h ‹_› | omega | (simp_all; done))).symm
              ·
               first | have hs8_13 := of_decide_eq_true hs8_130 | have hs8_13 := of_decide_eq_false hs8_130 | have hs8_13 := A2 hs8_130 | have hs8_13 := A3 hs8_130 | have hs8_13 := hs8_130
               refine Tr.not rfl rfl rfl ?_
               refine Tr.pick rfl rfl rfl rfl rfl rfl ?_
               refine Tr.m rfl rfl rfl ?_
               refine Tr.skp rfl rfl ?_
               refine Tr.skp rfl rfl ?_
               refine Tr.skp rfl rfl ?_
               refine Tr.skp rfl rfl ?_
               refine Tr.pick rfl rfl rfl rfl rfl rfl ?_
               refine Tr.nil (Aa ?_)
               refine Sat.cond_t rfl rfl ?_
               refine Sat.seq (Sat.region ?_)
               refine Tr.a rfl rfl rfl ?_
               refine Tr.nil (Aa (Sat.ret (Ao (Am ?_))))
               refine ⟨_, [], Ae rfl rfl, sP, sP, ?_, rfl⟩
               first
                | exact congrArg i64 (Bu (by
                  simp only [DMsg.bad, ← eK, ← eH, ← hu, ← hl.heads, ← hl.want, ← hl.blocks, ← hl.votes, ← hl.cuts, ← hl.certs]
                  first
                   | exact .inl (‹_›)
                   | exact .inr (.inl (‹_›))
                   | exact .inr (.inr (.inl (‹_›)))
                   | exact .inr (.inr (.inr (.inl (‹_›))))
                   | exact .inr (.inr (.inr (.inr (.inl (‹_›)))))
                   | exact .inr (.inr (.inr (.inr (.inr (.inl (‹_›))))))
                   | exact .inr (.inr (.inr (.inr (.inr (.inr (.inl (‹_›)))))))
                   | exact .inr (.inr (.inr (.inr (.inr (.inr (.inr (.inl (‹_›))))))))
                   | exact .inr (.inr (.inr (.inr (.inr (.inr (.inr (.inr (.inl (‹_›)))))))))
                   | exact .inr (.inr (.inr (.inr (.inr (.inr (.inr (.inr (.inr (.inl (⟨‹_›, ‹_›, ‹_›⟩))))))))))
                   | exact .inr (.inr (.inr (.inr (.inr (.inr (.inr (.inr (.inr (.inl (⟨by omega, by omega, by omega⟩))))))))))
                   | exact .inr (.inr (.inr (.inr (.inr (.inr (.inr (.inr (.inr (.inr (.inl (‹_›)))))))))))
                   | exact .inr (.inr (.inr (.inr (.inr (.inr (.inr (.inr (.inr (.inr (.inr (.inl (‹_›))))))))))))
                   | exact .inr (.inr (.inr (.inr (.inr (.inr (.inr (.inr (.inr (.inr (.inr (.inr (.inl (‹_›)))))))))))))
                   | exact .inr (.inr (.inr (.inr (.inr (.inr (.inr (.inr (.inr (.inr (.inr (.inr (.inr (‹_›)))))))))))))
                   | exact .inr (.inr (.inr (.inr (.inr (.inr (.inr (.inr (.inr (.inr (.inl (fun e => Bool.noConfusion (hs8_2.symm.trans e))))))))))))
                   | exact .inr (.inr (.inr (.inr (.inr (.inr (.inr (.inr (.inr (.inr (.inr (.inl (fun e => Bool.noConfusion (hs8_7.symm.trans e)))))))))))))
                   | exact .inr (.inr (.inr (.inr (.inr (.inr (.inr (.inr (.inr (.inr (.inr (.inr (.inl (fun e => Bool.noConfusion (hs8_13.symm.trans e)))))))))))))))).symm
                | exact congrArg i64 (Bm (by
                  simp only [DMsg.bad, ← eK, ← eH, ← hu, ← hl.heads, ← hl.want, ← hl.blocks, ← hl.votes, ← hl.cuts, ← hl.certs]
                  rintro (h | h | h | h | h | h | h | h | h | h | h | h | h | h)
                  all_goals first | exact h ‹_› | omega | (simp_all; done))).symm
             ·
              first | have hs8_7 := of_decide_eq_true hs8_70 | have hs8_7 := of_decide_eq_false hs8_70 | have hs8_7 := A2 hs8_70 | have hs8_7 := A3 hs8_70 | have hs8_7 := hs8_70
              refine Tr.not rfl rfl rfl ?_
              refine Tr.pick rfl rfl rfl rfl rfl rfl ?_
              refine Tr.m rfl rfl rfl ?_
              refine Tr.skp rfl rfl ?_
              refine Tr.skp rfl rfl ?_
              refine Tr.skp rfl rfl ?_
              refine Tr.skp rfl rfl ?_
              refine Tr.pick rfl rfl rfl rfl rfl rfl ?_
              refine Tr.m rfl rfl rfl ?_
              refine Tr.skp rfl rfl ?_
              refine Tr.skp rfl rfl ?_
              refine Tr.skp rfl rfl ?_
              refine Tr.skp rfl rfl ?_
              refine Tr.pick rfl rfl rfl rfl rfl rfl ?_
              refine Tr.nil (Aa ?_)
              refine Sat.cond_t rfl rfl ?_
              refine Sat.seq (Sat.region ?_)
              refine Tr.a rfl rfl rfl ?_
              refine Tr.nil (Aa (Sat.ret (Ao (Am ?_))))
              refine ⟨_, [], Ae rfl rfl, sP, sP, ?_, rfl⟩
              first
               | exact congrArg i64 (Bu (by
                 simp only [DMsg.bad, ← eK, ← eH, ← hu, ← hl.heads, ← hl.want, ← hl.blocks, ← hl.votes, ← hl.cuts, ← hl.certs]
                 first
                  | exact .inl (‹_›)
                  | exact .inr (.inl (‹_›))
                  | exact .inr (.inr (.inl (‹_›)))
                  | exact .inr (.inr (.inr (.inl (‹_›))))
                  | exact .inr (.inr (.inr (.inr (.inl (‹_›)))))
                  | exact .inr (.inr (.inr (.inr (.inr (.inl (‹_›))))))
                  | exact .inr (.inr (.inr (.inr (.inr (.inr (.inl (‹_›)))))))
                  | exact .inr (.inr (.inr (.inr (.inr (.inr (.inr (.inl (‹_›))))))))
                  | exact .inr (.inr (.inr (.inr (.inr (.inr (.inr (.inr (.inl (‹_›)))))))))
                  | exact .inr (.inr (.inr (.inr (.inr (.inr (.inr (.inr (.inr (.inl (⟨‹_›, ‹_›, ‹_›⟩))))))))))
                  | exact .inr (.inr (.inr (.inr (.inr (.inr (.inr (.inr (.inr (.inl (⟨by omega, by omega, by omega⟩))))))))))
                  | exact .inr (.inr (.inr (.inr (.inr (.inr (.inr (.inr (.inr (.inr (.inl (‹_›)))))))))))
                  | exact .inr (.inr (.inr (.inr (.inr (.inr (.inr (.inr (.inr (.inr (.inr (.inl (‹_›))))))))))))
                  | exact .inr (.inr (.inr (.inr (.inr (.inr (.inr (.inr (.inr (.inr (.inr (.inr (.inl (‹_›)))))))))))))
                  | exact .inr (.inr (.inr (.inr (.inr (.inr (.inr (.inr (.inr (.inr (.inr (.inr (.inr (‹_›)))))))))))))
                  | exact .inr (.inr (.inr (.inr (.inr (.inr (.inr (.inr (.inr (.inr (.inl (fun e => Bool.noConfusion (hs8_2.symm.trans e))))))))))))
                  | exact .inr (.inr (.inr (.inr (.inr (.inr (.inr (.inr (.inr (.inr (.inr (.inl (fun e => Bool.noConfusion (hs8_7.symm.trans e)))))))))))))
                  | exact .inr (.inr (.inr (.inr (.inr (.inr (.inr (.inr (.inr (.inr (.inr (.inr (.inl (fun e => Bool.noConfusion (hs8_13.symm.trans e)))))))))))))))).symm
               | exact congrArg i64 (Bm (by
                 simp only [DMsg.bad, ← eK, ← eH, ← hu, ← hl.heads, ← hl.want, ← hl.blocks, ← hl.votes, ← hl.cuts, ← hl.certs]
                 rintro (h | h | h | h | h | h | h | h | h | h | h | h | h | h)
                 all_goals first | exact h ‹_› | omega | (simp_all; done))).symm
            ·
             first | have hs8_2 := of_decide_eq_true hs8_20 | have hs8_2 := of_decide_eq_false hs8_20 | have hs8_2 := A2 hs8_20 | have hs8_2 := A3 hs8_20 | have hs8_2 := hs8_20
             refine Tr.not rfl rfl rfl ?_
             refine Tr.m rfl rfl rfl ?_
             refine Tr.skp rfl rfl ?_
             refine Tr.skp rfl rfl ?_
             refine Tr.skp rfl rfl ?_
             refine Tr.skp rfl rfl ?_
             refine Tr.pick rfl rfl rfl rfl rfl rfl ?_
             refine Tr.m rfl rfl rfl ?_
             refine Tr.skp rfl rfl ?_
             refine Tr.skp rfl rfl ?_
             refine Tr.skp rfl rfl ?_
             refine Tr.skp rfl rfl ?_
             refine Tr.pick rfl rfl rfl rfl rfl rfl ?_
             refine Tr.m rfl rfl rfl ?_
             refine Tr.skp rfl rfl ?_
             refine Tr.skp rfl rfl ?_
             refine Tr.skp rfl rfl ?_
             refine Tr.skp rfl rfl ?_
             refine Tr.pick rfl rfl rfl rfl rfl rfl ?_
             refine Tr.nil (Aa ?_)
             refine Sat.cond_t rfl rfl ?_
             refine Sat.seq (Sat.region ?_)
             refine Tr.a rfl rfl rfl ?_
             refine Tr.nil (Aa (Sat.ret (Ao (Am ?_))))
             refine ⟨_, [], Ae rfl rfl, sP, sP, ?_, rfl⟩
             first
              | exact congrArg i64 (Bu (by
                simp only [DMsg.bad, ← eK, ← eH, ← hu, ← hl.heads, ← hl.want, ← hl.blocks, ← hl.votes, ← hl.cuts, ← hl.certs]
                first
                 | exact .inl (‹_›)
                 | exact .inr (.inl (‹_›))
                 | exact .inr (.inr (.inl (‹_›)))
                 | exact .inr (.inr (.inr (.inl (‹_›))))
                 | exact .inr (.inr (.inr (.inr (.inl (‹_›)))))
                 | exact .inr (.inr (.inr (.inr (.inr (.inl (‹_›))))))
                 | exact .inr (.inr (.inr (.inr (.inr (.inr (.inl (‹_›)))))))
                 | exact .inr (.inr (.inr (.inr (.inr (.inr (.inr (.inl (‹_›))))))))
                 | exact .inr (.inr (.inr (.inr (.inr (.inr (.inr (.inr (.inl (‹_›)))))))))
                 | exact .inr (.inr (.inr (.inr (.inr (.inr (.inr (.inr (.inr (.inl (⟨‹_›, ‹_›, ‹_›⟩))))))))))
                 | exact .inr (.inr (.inr (.inr (.inr (.inr (.inr (.inr (.inr (.inl (⟨by omega, by omega, by omega⟩))))))))))
                 | exact .inr (.inr (.inr (.inr (.inr (.inr (.inr (.inr (.inr (.inr (.inl (‹_›)))))))))))
                 | exact .inr (.inr (.inr (.inr (.inr (.inr (.inr (.inr (.inr (.inr (.inr (.inl (‹_›))))))))))))
                 | exact .inr (.inr (.inr (.inr (.inr (.inr (.inr (.inr (.inr (.inr (.inr (.inr (.inl (‹_›)))))))))))))
                 | exact .inr (.inr (.inr (.inr (.inr (.inr (.inr (.inr (.inr (.inr (.inr (.inr (.inr (‹_›)))))))))))))
                 | exact .inr (.inr (.inr (.inr (.inr (.inr (.inr (.inr (.inr (.inr (.inl (fun e => Bool.noConfusion (hs8_2.symm.trans e))))))))))))
                 | exact .inr (.inr (.inr (.inr (.inr (.inr (.inr (.inr (.inr (.inr (.inr (.inl (fun e => Bool.noConfusion (hs8_7.symm.trans e)))))))))))))
                 | exact .inr (.inr (.inr (.inr (.inr (.inr (.inr (.inr (.inr (.inr (.inr (.inr (.inl (fun e => Bool.noConfusion (hs8_13.symm.trans e)))))))))))))))).symm
              | exact congrArg i64 (Bm (by
                simp only [DMsg.bad, ← eK, ← eH, ← hu, ← hl.heads, ← hl.want, ← hl.blocks, ← hl.votes, ← hl.cuts, ← hl.certs]
                rintro (h | h | h | h | h | h | h | h | h | h | h | h | h | h)
                all_goals first | exact h ‹_› | omega | (simp_all; done))).symm
          ·
           first | have hs6_2 := of_decide_eq_true hs6_20 | have hs6_2 := of_decide_eq_false hs6_20 | have hs6_2 := A2 hs6_20 | have hs6_2 := A3 hs6_20 | have hs6_2 := hs6_20
           refine Tr.m rfl rfl rfl ?_
           refine Tr.skp rfl rfl ?_
           refine Tr.skp rfl rfl ?_
           refine Tr.skp rfl rfl ?_
           refine Tr.pick rfl rfl rfl rfl rfl rfl ?_
           refine Tr.m rfl rfl rfl ?_
           refine Tr.skp rfl rfl ?_
           refine Tr.skp rfl rfl ?_
           refine Tr.skp rfl rfl ?_
           refine Tr.pick rfl rfl rfl rfl rfl rfl ?_
           refine Tr.nil (Aa ?_)
           refine Sat.cond_f rfl rfl ?_
           refine Sat.skip (Aa (Sat.seq (Sat.seq (Sat.region ?_))))
           refine Tr.fld rfl rfl rfl Y57 rfl Sz22 dE _ rfl ?_
           refine Tr.load1 rfl rfl rfl Y22 rfl mM (by first | exact Msg.get_fBlocks (by first | exact oK  | exact hok) | exact vL) ?_
           refine Tr.callB rfl rfl rfl rfl Body126 (all_block m.fBlocks D.dBlocks) (fun w h => Blocks_ext h rfl hW.fBlocks) (fun hs8_20 => ?_) (fun hs8_20 => ?_)
           ·
            first | have hs8_2 := of_decide_eq_true hs8_20 | have hs8_2 := of_decide_eq_false hs8_20 | have hs8_2 := A2 hs8_20 | have hs8_2 := A3 hs8_20 | have hs8_2 := hs8_20
            refine Tr.not rfl rfl rfl ?_
            refine Tr.m rfl rfl rfl ?_
            refine Tr.fld rfl rfl rfl Y57 rfl Sz24 dE _ rfl ?_
            refine Tr.load1 rfl rfl rfl Y24 rfl mM (by first | exact Msg.get_fVotes (by first | exact oK  | exact hok) | exact vL) ?_
            refine Tr.callB rfl rfl rfl rfl Body127 (all_vote m.fVotes D.dVotes) (fun w h => Votes_ext h rfl hW.fVotes) (fun hs8_70 => ?_) (fun hs8_70 => ?_)
            ·
             first | have hs8_7 := of_decide_eq_true hs8_70 | have hs8_7 := of_decide_eq_false hs8_70 | have hs8_7 := A2 hs8_70 | have hs8_7 := A3 hs8_70 | have hs8_7 := hs8_70
             refine Tr.not rfl rfl rfl ?_
             refine Tr.pick rfl rfl rfl rfl rfl rfl ?_
             refine Tr.m rfl rfl rfl ?_
             refine Tr.fld rfl rfl rfl Y57 rfl Sz25 dE _ rfl ?_
             refine Tr.load1 rfl rfl rfl Y25 rfl mM (by first | exact Msg.get_fCuts (by first | exact oK  | exact hok) | exact vL) ?_
             refine Tr.callB rfl rfl rfl rfl Body128 (all_cut m.fCuts D.dCuts) (fun w h => Cuts_ext h rfl hW.fCuts) (fun hs8_130 => ?_) (fun hs8_130 => ?_)
             ·
              first | have hs8_13 := of_decide_eq_true hs8_130 | have hs8_13 := of_decide_eq_false hs8_130 | have hs8_13 := A2 hs8_130 | have hs8_13 := A3 hs8_130 | have hs8_13 := hs8_130
              refine Tr.not rfl rfl rfl ?_
              refine Tr.pick rfl rfl rfl rfl rfl rfl ?_
              refine Tr.m rfl rfl rfl ?_
              refine Tr.fld rfl rfl rfl Y57 rfl Sz23 dE _ rfl ?_
              refine Tr.load1 rfl rfl rfl Y23 rfl mM (by first | exact Msg.get_fCerts (by first | exact oK  | exact hok) | exact vL) ?_
              refine Tr.cV rfl rfl rfl rfl Body129 (all_cert m.fCerts D.dCerts) (fun w h => Certs_ext h rfl hW.fCerts) ?_
              refine Tr.not rfl rfl rfl ?_
              refine Tr.pick rfl rfl rfl rfl rfl rfl ?_
              refine Tr.nil (Aa ?_)
              first
               | refine Sat.condP rfl (fun hc3 => ?_) (fun hc3 => ?_)
               | refine Sat.condNP rfl (fun hc3 => ?_) (fun hc3 => ?_)
               | refine Sat.cond rfl (fun hc3 => ?_) (fun hc3 => ?_)
              ·
               have hx3 : ¬ (D.dCerts.all fun d => decide (d.check = 0)) = true := fun e => by rw [e] at hc3; cases hc3
               refine Sat.seq (Sat.region ?_)
               refine Tr.a rfl rfl rfl ?_
               refine Tr.nil (Aa (Sat.ret (Ao (Am ?_))))
               refine ⟨_, [], Ae rfl rfl, sP, sP, ?_, rfl⟩
               first
                | exact congrArg i64 (Bu (by
                  simp only [DMsg.bad, ← eK, ← eH, ← hu, ← hl.heads, ← hl.want, ← hl.blocks, ← hl.votes, ← hl.cuts, ← hl.certs]
                  first
                   | exact .inl (‹_›)
                   | exact .inr (.inl (‹_›))
                   | exact .inr (.inr (.inl (‹_›)))
                   | exact .inr (.inr (.inr (.inl (‹_›))))
                   | exact .inr (.inr (.inr (.inr (.inl (‹_›)))))
                   | exact .inr (.inr (.inr (.inr (.inr (.inl (‹_›))))))
                   | exact .inr (.inr (.inr (.inr (.inr (.inr (.inl (‹_›)))))))
                   | exact .inr (.inr (.inr (.inr (.inr (.inr (.inr (.inl (‹_›))))))))
                   | exact .inr (.inr (.inr (.inr (.inr (.inr (.inr (.inr (.inl (‹_›)))))))))
                   | exact .inr (.inr (.inr (.inr (.inr (.inr (.inr (.inr (.inr (.inl (⟨‹_›, ‹_›, ‹_›⟩))))))))))
                   | exact .inr (.inr (.inr (.inr (.inr (.inr (.inr (.inr (.inr (.inl (⟨by omega, by omega, by omega⟩))))))))))
                   | exact .inr (.inr (.inr (.inr (.inr (.inr (.inr (.inr (.inr (.inr (.inl (‹_›)))))))))))
                   | exact .inr (.inr (.inr (.inr (.inr (.inr (.inr (.inr (.inr (.inr (.inr (.inl (‹_›))))))))))))
                   | exact .inr (.inr (.inr (.inr (.inr (.inr (.inr (.inr (.inr (.inr (.inr (.inr (.inl (‹_›)))))))))))))
                   | exact .inr (.inr (.inr (.inr (.inr (.inr (.inr (.inr (.inr (.inr (.inr (.inr (.inr (‹_›)))))))))))))
                   | exact .inr (.inr (.inr (.inr (.inr (.inr (.inr (.inr (.inr (.inr (.inl (fun e => Bool.noConfusion (hs8_2.symm.trans e))))))))))))
                   | exact .inr (.inr (.inr (.inr (.inr (.inr (.inr (.inr (.inr (.inr (.inr (.inl (fun e => Bool.noConfusion (hs8_7.symm.trans e)))))))))))))
                   | exact .inr (.inr (.inr (.inr (.inr (.inr (.inr (.inr (.inr (.inr (.inr (.inr (.inl (fun e => Bool.noConfusion (hs8_13.symm.trans e)))))))))))))))).symm
                | exact congrArg i64 (Bm (by
                  simp only [DMsg.bad, ← eK, ← eH, ← hu, ← hl.heads, ← hl.want, ← hl.blocks, ← hl.votes, ← hl.cuts, ← hl.certs]
                  rintro (h | h | h | h | h | h | h | h | h | h | h | h | h | h)
                  all_goals first | exact h ‹_› | omega | (simp_all; done))).symm
              ·
               have hx4 : (D.dCerts.all fun d => decide (d.check = 0)) = true := by
                cases e : (D.dCerts.all fun d => decide (d.check = 0))
                · rw [e] at hc3; cases hc3
                · rfl
               refine Sat.skip (Aa (Sat.seq (Sat.region ?_)))
               refine Tr.a rfl rfl rfl ?_
               refine Tr.nil (Aa (Sat.ret (Am ?_)))
               refine ⟨_, [], Ae rfl rfl, sP, sP, ?_, rfl⟩
               first
                | exact congrArg i64 (Bu (by
                  simp only [DMsg.bad, ← eK, ← eH, ← hu, ← hl.heads, ← hl.want, ← hl.blocks, ← hl.votes, ← hl.cuts, ← hl.certs]
                  first
                   | exact .inl (‹_›)
                   | exact .inr (.inl (‹_›))
                   | exact .inr (.inr (.inl (‹_›)))
                   | exact .inr (.inr (.inr (.inl (‹_›))))
                   | exact .inr (.inr (.inr (.inr (.inl (‹_›)))))
                   | exact .inr (.inr (.inr (.inr (.inr (.inl (‹_›))))))
                   | exact .inr (.inr (.inr (.inr (.inr (.inr (.inl (‹_›)))))))
                   | exact .inr (.inr (.inr (.inr (.inr (.inr (.inr (.inl (‹_›))))))))
                   | exact .inr (.inr (.inr (.inr (.inr (.inr (.inr (.inr (.inl (‹_›)))))))))
                   | exact .inr (.inr (.inr (.inr (.inr (.inr (.inr (.inr (.inr (.inl (⟨‹_›, ‹_›, ‹_›⟩))))))))))
                   | exact .inr (.inr (.inr (.inr (.inr (.inr (.inr (.inr (.inr (.inl (⟨by omega, by omega, by omega⟩))))))))))
                   | exact .inr (.inr (.inr (.inr (.inr (.inr (.inr (.inr (.inr (.inr (.inl (‹_›)))))))))))
                   | exact .inr (.inr (.inr (.inr (.inr (.inr (.inr (.inr (.inr (.inr (.inr (.inl (‹_›))))))))))))
                   | exact .inr (.inr (.inr (.inr (.inr (.inr (.inr (.inr (.inr (.inr (.inr (.inr (.inl (‹_›)))))))))))))
                   | exact .inr (.inr (.inr (.inr (.inr (.inr (.inr (.inr (.inr (.inr (.inr (.inr (.inr (‹_›)))))))))))))
                   | exact .inr (.inr (.inr (.inr (.inr (.inr (.inr (.inr (.inr (.inr (.inl (fun e => Bool.noConfusion (hs8_2.symm.trans e))))))))))))
                   | exact .inr (.inr (.inr (.inr (.inr (.inr (.inr (.inr (.inr (.inr (.inr (.inl (fun e => Bool.noConfusion (hs8_7.symm.trans e)))))))))))))
                   | exact .inr (.inr (.inr (.inr (.inr (.inr (.inr (.inr (.inr (.inr (.inr (.inr (.inl (fun e => Bool.noConfusion (hs8_13.symm.trans e)))))))))))))))).symm
                | exact congrArg i64 (Bm (by
                  simp only [DMsg.bad, ← eK, ← eH, ← hu, ← hl.heads, ← hl.want, ← hl.blocks, ← hl.votes, ← hl.cuts, ← hl.certs]
                  rintro (h | h | h | h | h | h | h | h | h | h | h | h | h | h)
                  all_goals first | exact h ‹_› | omega | (simp_all; done))).symm
             ·
              first | have hs8_13 := of_decide_eq_true hs8_130 | have hs8_13 := of_decide_eq_false hs8_130 | have hs8_13 := A2 hs8_130 | have hs8_13 := A3 hs8_130 | have hs8_13 := hs8_130
              refine Tr.not rfl rfl rfl ?_
              refine Tr.pick rfl rfl rfl rfl rfl rfl ?_
              refine Tr.m rfl rfl rfl ?_
              refine Tr.skp rfl rfl ?_
              refine Tr.skp rfl rfl ?_
              refine Tr.skp rfl rfl ?_
              refine Tr.skp rfl rfl ?_
              refine Tr.pick rfl rfl rfl rfl rfl rfl ?_
              refine Tr.nil (Aa ?_)
              refine Sat.cond_t rfl rfl ?_
              refine Sat.seq (Sat.region ?_)
              refine Tr.a rfl rfl rfl ?_
              refine Tr.nil (Aa (Sat.ret (Ao (Am ?_))))
              refine ⟨_, [], Ae rfl rfl, sP, sP, ?_, rfl⟩
              first
               | exact congrArg i64 (Bu (by
                 simp only [DMsg.bad, ← eK, ← eH, ← hu, ← hl.heads, ← hl.want, ← hl.blocks, ← hl.votes, ← hl.cuts, ← hl.certs]
                 first
                  | exact .inl (‹_›)
                  | exact .inr (.inl (‹_›))
                  | exact .inr (.inr (.inl (‹_›)))
                  | exact .inr (.inr (.inr (.inl (‹_›))))
                  | exact .inr (.inr (.inr (.inr (.inl (‹_›)))))
                  | exact .inr (.inr (.inr (.inr (.inr (.inl (‹_›))))))
                  | exact .inr (.inr (.inr (.inr (.inr (.inr (.inl (‹_›)))))))
                  | exact .inr (.inr (.inr (.inr (.inr (.inr (.inr (.inl (‹_›))))))))
                  | exact .inr (.inr (.inr (.inr (.inr (.inr (.inr (.inr (.inl (‹_›)))))))))
                  | exact .inr (.inr (.inr (.inr (.inr (.inr (.inr (.inr (.inr (.inl (⟨‹_›, ‹_›, ‹_›⟩))))))))))
                  | exact .inr (.inr (.inr (.inr (.inr (.inr (.inr (.inr (.inr (.inl (⟨by omega, by omega, by omega⟩))))))))))
                  | exact .inr (.inr (.inr (.inr (.inr (.inr (.inr (.inr (.inr (.inr (.inl (‹_›)))))))))))
                  | exact .inr (.inr (.inr (.inr (.inr (.inr (.inr (.inr (.inr (.inr (.inr (.inl (‹_›))))))))))))
                  | exact .inr (.inr (.inr (.inr (.inr (.inr (.inr (.inr (.inr (.inr (.inr (.inr (.inl (‹_›)))))))))))))
                  | exact .inr (.inr (.inr (.inr (.inr (.inr (.inr (.inr (.inr (.inr (.inr (.inr (.inr (‹_›)))))))))))))
                  | exact .inr (.inr (.inr (.inr (.inr (.inr (.inr (.inr (.inr (.inr (.inl (fun e => Bool.noConfusion (hs8_2.symm.trans e))))))))))))
                  | exact .inr (.inr (.inr (.inr (.inr (.inr (.inr (.inr (.inr (.inr (.inr (.inl (fun e => Bool.noConfusion (hs8_7.symm.trans e)))))))))))))
                  | exact .inr (.inr (.inr (.inr (.inr (.inr (.inr (.inr (.inr (.inr (.inr (.inr (.inl (fun e => Bool.noConfusion (hs8_13.symm.trans e)))))))))))))))).symm
               | exact congrArg i64 (Bm (by
                 simp only [DMsg.bad, ← eK, ← eH, ← hu, ← hl.heads, ← hl.want, ← hl.blocks, ← hl.votes, ← hl.cuts, ← hl.certs]
                 rintro (h | h | h | h | h | h | h | h | h | h | h | h | h | h)
                 all_goals first | exact h ‹_› | omega | (simp_all; done))).symm
            ·
             first | have hs8_7 := of_decide_eq_true hs8_70 | have hs8_7 := of_decide_eq_false hs8_70 | have hs8_7 := A2 hs8_70 | have hs8_7 := A3 hs8_70 | have hs8_7 := hs8_70
             refine Tr.not rfl rfl rfl ?_
             refine Tr.pick rfl rfl rfl rfl rfl rfl ?_
             refine Tr.m rfl rfl rfl ?_
             refine Tr.skp rfl rfl ?_
             refine Tr.skp rfl rfl ?_
             refine Tr.skp rfl rfl ?_
             refine Tr.skp rfl rfl ?_
             refine Tr.pick rfl rfl rfl rfl rfl rfl ?_
             refine Tr.m rfl rfl rfl ?_
             refine Tr.skp rfl rfl ?_
             refine Tr.skp rfl rfl ?_
             refine Tr.skp rfl rfl ?_
             refine Tr.skp rfl rfl ?_
             refine Tr.pick rfl rfl rfl rfl rfl rfl ?_
             refine Tr.nil (Aa ?_)
             refine Sat.cond_t rfl rfl ?_
             refine Sat.seq (Sat.region ?_)
             refine Tr.a rfl rfl rfl ?_
             refine Tr.nil (Aa (Sat.ret (Ao (Am ?_))))
             refine ⟨_, [], Ae rfl rfl, sP, sP, ?_, rfl⟩
             first
              | exact congrArg i64 (Bu (by
                simp only [DMsg.bad, ← eK, ← eH, ← hu, ← hl.heads, ← hl.want, ← hl.blocks, ← hl.votes, ← hl.cuts, ← hl.certs]
                first
                 | exact .inl (‹_›)
                 | exact .inr (.inl (‹_›))
                 | exact .inr (.inr (.inl (‹_›)))
                 | exact .inr (.inr (.inr (.inl (‹_›))))
                 | exact .inr (.inr (.inr (.inr (.inl (‹_›)))))
                 | exact .inr (.inr (.inr (.inr (.inr (.inl (‹_›))))))
                 | exact .inr (.inr (.inr (.inr (.inr (.inr (.inl (‹_›)))))))
                 | exact .inr (.inr (.inr (.inr (.inr (.inr (.inr (.inl (‹_›))))))))
                 | exact .inr (.inr (.inr (.inr (.inr (.inr (.inr (.inr (.inl (‹_›)))))))))
                 | exact .inr (.inr (.inr (.inr (.inr (.inr (.inr (.inr (.inr (.inl (⟨‹_›, ‹_›, ‹_›⟩))))))))))
                 | exact .inr (.inr (.inr (.inr (.inr (.inr (.inr (.inr (.inr (.inl (⟨by omega, by omega, by omega⟩))))))))))
                 | exact .inr (.inr (.inr (.inr (.inr (.inr (.inr (.inr (.inr (.inr (.inl (‹_›)))))))))))
                 | exact .inr (.inr (.inr (.inr (.inr (.inr (.inr (.inr (.inr (.inr (.inr (.inl (‹_›))))))))))))
                 | exact .inr (.inr (.inr (.inr (.inr (.inr (.inr (.inr (.inr (.inr (.inr (.inr (.inl (‹_›)))))))))))))
                 | exact .inr (.inr (.inr (.inr (.inr (.inr (.inr (.inr (.inr (.inr (.inr (.inr (.inr (‹_›)))))))))))))
                 | exact .inr (.inr (.inr (.inr (.inr (.inr (.inr (.inr (.inr (.inr (.inl (fun e => Bool.noConfusion (hs8_2.symm.trans e))))))))))))
                 | exact .inr (.inr (.inr (.inr (.inr (.inr (.inr (.inr (.inr (.inr (.inr (.inl (fun e => Bool.noConfusion (hs8_7.symm.trans e)))))))))))))
                 | exact .inr (.inr (.inr (.inr (.inr (.inr (.inr (.inr (.inr (.inr (.inr (.inr (.inl (fun e => Bool.noConfusion (hs8_13.symm.trans e)))))))))))))))).symm
              | exact congrArg i64 (Bm (by
                simp only [DMsg.bad, ← eK, ← eH, ← hu, ← hl.heads, ← hl.want, ← hl.blocks, ← hl.votes, ← hl.cuts, ← hl.certs]
                rintro (h | h | h | h | h | h | h | h | h | h | h | h | h | h)
                all_goals first | exact h ‹_› | omega | (simp_all; done))).symm
           ·
            first | have hs8_2 := of_decide_eq_true hs8_20 | have hs8_2 := of_decide_eq_false hs8_20 | have hs8_2 := A2 hs8_20 | have hs8_2 := A3 hs8_20 | have hs8_2 := hs8_20
            refine Tr.not rfl rfl rfl ?_
            refine Tr.m rfl rfl rfl ?_
            refine Tr.skp rfl rfl ?_
            refine Tr.skp rfl rfl ?_
            refine Tr.skp rfl rfl ?_
            refine Tr.skp rfl rfl ?_
            refine Tr.pick rfl rfl rfl rfl rfl rfl ?_
            refine Tr.m rfl rfl rfl ?_
            refine Tr.skp rfl rfl ?_
            refine Tr.skp rfl rfl ?_
            refine Tr.skp rfl rfl ?_
            refine Tr.skp rfl rfl ?_
            refine Tr.pick rfl rfl rfl rfl rfl rfl ?_
            refine Tr.m rfl rfl rfl ?_
            refine Tr.skp rfl rfl ?_
            refine Tr.skp rfl rfl ?_
            refine Tr.skp rfl rfl ?_
            refine Tr.skp rfl rfl ?_
            refine Tr.pick rfl rfl rfl rfl rfl rfl ?_
            refine Tr.nil (Aa ?_)
            refine Sat.cond_t rfl rfl ?_
            refine Sat.seq (Sat.region ?_)
            refine Tr.a rfl rfl rfl ?_
            refine Tr.nil (Aa (Sat.ret (Ao (Am ?_))))
            refine ⟨_, [], Ae rfl rfl, sP, sP, ?_, rfl⟩
            first
             | exact congrArg i64 (Bu (by
               simp only [DMsg.bad, ← eK, ← eH, ← hu, ← hl.heads, ← hl.want, ← hl.blocks, ← hl.votes, ← hl.cuts, ← hl.certs]
               first
                | exact .inl (‹_›)
                | exact .inr (.inl (‹_›))
                | exact .inr (.inr (.inl (‹_›)))
                | exact .inr (.inr (.inr (.inl (‹_›))))
                | exact .inr (.inr (.inr (.inr (.inl (‹_›)))))
                | exact .inr (.inr (.inr (.inr (.inr (.inl (‹_›))))))
                | exact .inr (.inr (.inr (.inr (.inr (.inr (.inl (‹_›)))))))
                | exact .inr (.inr (.inr (.inr (.inr (.inr (.inr (.inl (‹_›))))))))
                | exact .inr (.inr (.inr (.inr (.inr (.inr (.inr (.inr (.inl (‹_›)))))))))
                | exact .inr (.inr (.inr (.inr (.inr (.inr (.inr (.inr (.inr (.inl (⟨‹_›, ‹_›, ‹_›⟩))))))))))
                | exact .inr (.inr (.inr (.inr (.inr (.inr (.inr (.inr (.inr (.inl (⟨by omega, by omega, by omega⟩))))))))))
                | exact .inr (.inr (.inr (.inr (.inr (.inr (.inr (.inr (.inr (.inr (.inl (‹_›)))))))))))
                | exact .inr (.inr (.inr (.inr (.inr (.inr (.inr (.inr (.inr (.inr (.inr (.inl (‹_›))))))))))))
                | exact .inr (.inr (.inr (.inr (.inr (.inr (.inr (.inr (.inr (.inr (.inr (.inr (.inl (‹_›)))))))))))))
                | exact .inr (.inr (.inr (.inr (.inr (.inr (.inr (.inr (.inr (.inr (.inr (.inr (.inr (‹_›)))))))))))))
                | exact .inr (.inr (.inr (.inr (.inr (.inr (.inr (.inr (.inr (.inr (.inl (fun e => Bool.noConfusion (hs8_2.symm.trans e))))))))))))
                | exact .inr (.inr (.inr (.inr (.inr (.inr (.inr (.inr (.inr (.inr (.inr (.inl (fun e => Bool.noConfusion (hs8_7.symm.trans e)))))))))))))
                | exact .inr (.inr (.inr (.inr (.inr (.inr (.inr (.inr (.inr (.inr (.inr (.inr (.inl (fun e => Bool.noConfusion (hs8_13.symm.trans e)))))))))))))))).symm
             | exact congrArg i64 (Bm (by
               simp only [DMsg.bad, ← eK, ← eH, ← hu, ← hl.heads, ← hl.want, ← hl.blocks, ← hl.votes, ← hl.cuts, ← hl.certs]
               rintro (h | h | h | h | h | h | h | h | h | h | h | h | h | h)
               all_goals first | exact h ‹_› | omega | (simp_all; done))).symm

end Go.Proofs.YtdifpjmfabhpiaaGreat
end

section
namespace Go.Proofs.YtdifpjmfabhpiaaGreat
open Go Hw

def lightOf {D : Type} (f : D → Bool) (ds : List D) (m : Int) : Bool := (!decide (m < (ds.length : Int))) && ds.all f
theorem light_all {D : Type} {f : D → Bool} {ds : List D} (h : ∀ j, j < ds.length → (ds.map f)[j]? = some true) : ds.all f = true := by
  rw [List.all_eq_true]
  intro x hx
  obtain ⟨j, hj, rfl⟩ := List.getElem_of_mem hx
  have := h j hj
  rw [List.getElem?_map, List.getElem?_eq_getElem hj] at this
  simpa using this
theorem light_not {D : Type} {f : D → Bool} {ds : List D} {k : Nat} (h : (ds.map f)[k]? = some false) : ds.all f = false := by
  rw [List.getElem?_map] at h
  obtain ⟨x, hx, hf⟩ := Option.map_eq_some_iff.1 h
  rw [List.all_eq_false]
  exact ⟨x, List.mem_of_getElem? hx, by rw [hf]; simp⟩
theorem light_over {D : Type} {f : D → Bool} {ds : List D} {m : Int} (h : m < (ds.length : Int)) : lightOf f ds m = false := by simp [lightOf, h]
theorem light_in {D : Type} {f : D → Bool} {ds : List D} {m : Int} (h : ¬ m < (ds.length : Int)) : lightOf f ds m = ds.all f := by simp [lightOf, h]
def lightBf (d : DB) : Bool := decide ((d.ls.length : Int) ≤ 40) && decide ((d.ds.length : Int) ≤ 2000)
def lightCf (d : DCut) : Bool := decide ((d.dHeads.length : Int) ≤ 40)
def lightEf (d : DCert) : Bool := decide ((d.dCut.dHeads.length : Int) ≤ 40) && decide ((d.dVotes.length : Int) ≤ 20)

theorem lightd_blocks (s : Sl) (ds : List DB) (m : Int) : Meets Tryz.prog 36 [s.v, i64 m] [] (fun W => BlocksAt W s ds) (fun v out => v = .bool (lightOf lightBf ds m) ∧ out = []) := by
 intro W hW
 obtain ⟨rs, hs⟩ := hW
 have hmax := hs.max
 simp only [maxLen] at hmax
 have hnd := hs.nd
 refine An Tryz.func36 rfl 32 Tryz.ntmps36 rfl ?_
 refine Sat.seq (Sat.region ?_)
 refine Tr.a rfl rfl rfl ?_
 refine Tr.nil (Aa (Sat.seq (Sat.seq (Sat.region ?_))))
 refine Tr.m rfl rfl rfl ?_
 refine Tr.lenSl rfl rfl rfl Y22 ?_
 refine Tr.m rfl rfl rfl ?_
 refine Tr.gtr rfl rfl rfl rfl rfl ?_
 refine Tr.nil (Aa ?_)
 first
  | refine Sat.condP rfl (fun hc0 => ?_) (fun hc0 => ?_)
  | refine Sat.condNP rfl (fun hc0 => ?_) (fun hc0 => ?_)
  | refine Sat.cond rfl (fun hc0 => ?_) (fun hc0 => ?_)
 ·
  refine Sat.seq (Sat.region ?_)
  refine Tr.a rfl rfl rfl ?_
  refine Tr.nil (Aa (Sat.ret (Ao (Am ?_))))
  refine ⟨_, [], Ae rfl rfl, sP, sP, ?_, rfl⟩
  first
   | exact congrArg Value.bool ((light_in (by rw [hnd]; omega)).trans (light_all (by rw [hnd]; exact hg))).symm
   | exact congrArg Value.bool ((light_in (by rw [hnd]; omega)).trans (light_not (k := k) (by rw [List.getElem?_map, hd]; simp [lightBf]; omega))).symm
   | exact congrArg Value.bool (light_over (by rw [hnd]; omega)).symm
 ·
  refine Sat.skip (Aa (Sat.seq (Sat.seq (Sat.region ?_))))
  refine Tr.a rfl rfl rfl ?_
  refine Tr.nil (Aa (Sat.block ?_))
  refine Sat.loop (ι := Nat) (fun k => ⟨[(0, s.v), (5, i64 (k : Int))], []⟩) (fun k => k ≤ s.n ∧ ∀ j, j < k → (ds.map lightBf)[j]? = some true) (fun k => s.n - k) (0) ?_ ?_ ?_
  · exact ⟨by omega, fun j hj => by omega⟩
  · exact Ar (wk1 rfl (wk1 rfl wk0)) wh0 nD
  ·
   rintro k ⟨hk, hg⟩
   refine Sat.seq (Sat.seq (Sat.region ?_))
   refine Tr.m rfl rfl rfl ?_
   refine Tr.m rfl rfl rfl ?_
   refine Tr.lenSl rfl rfl rfl Y22 ?_
   refine Tr.lss rfl rfl rfl rfl rfl ?_
   refine Tr.nil (Aa ?_)
   first
    | refine Sat.condP rfl (fun hc1 => ?_) (fun hc1 => ?_)
    | refine Sat.condNP rfl (fun hc1 => ?_) (fun hc1 => ?_)
    | refine Sat.cond rfl (fun hc1 => ?_) (fun hc1 => ?_)
   ·
    have hk2 : k < s.n := by omega
    obtain ⟨b, o, r, d, hsp, hr, hd, his, hlen, hsee⟩ := hs.at dE hk2
    have e1 := his.ls.len
    have e2 := his.ds.len
    refine Sat.skip (Aa (Sat.seq (Sat.block (Sat.seq (Sat.region ?_)))))
    refine Tr.m rfl rfl rfl ?_
    refine Tr.m rfl rfl rfl ?_
    refine Tr.idxSlP 131 rfl rfl rfl hsp rfl Y22 Sz79 k rfl oM ?_
    refine Tr.fld rfl rfl rfl Y79 rfl Sz51 dE _ rfl ?_
    refine Tr.loadE rfl rfl rfl Y51 rfl (by first | (simp; done) | (simp; exact hW.2.2) | (simp [Cx.with]; done) | (simp [Cx.with]; omega)) (hsee 65 _ (Block.get_fLinks his.ok)) ?_
    refine Tr.lenSl rfl rfl rfl Y51 ?_
    refine two (fun r hr k => Tr.gtr rfl rfl rfl rfl hr k) (fun hs6_60 => ?_) (fun hs6_60 => ?_)
    ·
     first | have hs6_6 := of_decide_eq_true hs6_60 | have hs6_6 := of_decide_eq_false hs6_60 | have hs6_6 := A2 hs6_60 | have hs6_6 := A3 hs6_60 | have hs6_6 := hs6_60
     refine Tr.m rfl rfl rfl ?_
     refine Tr.skp rfl rfl ?_
     refine Tr.skp rfl rfl ?_
     refine Tr.skp rfl rfl ?_
     refine Tr.skp rfl rfl ?_
     refine Tr.skp rfl rfl ?_
     refine Tr.skp rfl rfl ?_
     refine Tr.skp rfl rfl ?_
     refine Tr.pick rfl rfl rfl rfl rfl rfl ?_
     refine Tr.nil (Aa ?_)
     refine Sat.cond_t rfl rfl ?_
     refine Sat.seq (Sat.region ?_)
     refine Tr.a rfl rfl rfl ?_
     refine Tr.nil (Aa (Sat.ret (B8 (Ao (Ao (B8 (Ao (Am ?_))))))))
     refine ⟨_, [], Ae rfl rfl, sP, sP, ?_, rfl⟩
     first
      | exact congrArg Value.bool ((light_in (by rw [hnd]; omega)).trans (light_all (by rw [hnd]; exact hg))).symm
      | exact congrArg Value.bool ((light_in (by rw [hnd]; omega)).trans (light_not (k := k) (by rw [List.getElem?_map, hd]; simp [lightBf]; omega))).symm
      | exact congrArg Value.bool (light_over (by rw [hnd]; omega)).symm
    ·
     first | have hs6_6 := of_decide_eq_true hs6_60 | have hs6_6 := of_decide_eq_false hs6_60 | have hs6_6 := A2 hs6_60 | have hs6_6 := A3 hs6_60 | have hs6_6 := hs6_60
     refine Tr.m rfl rfl rfl ?_
     refine Tr.m rfl rfl rfl ?_
     refine Tr.m rfl rfl rfl ?_
     refine Tr.idxSlP 131 rfl rfl rfl hsp rfl Y22 Sz79 k rfl oM ?_
     refine Tr.fld rfl rfl rfl Y79 rfl Sz58 dE _ rfl ?_
     refine Tr.loadE rfl rfl rfl Y58 rfl (by first | (simp; done) | (simp; exact hW.2.2) | (simp [Cx.with]; done) | (simp [Cx.with]; omega)) (hsee 66 _ (Block.get_fData his.ok)) ?_
     refine Tr.lenSl rfl rfl rfl Y58 ?_
     refine Tr.gtr rfl rfl rfl rfl rfl ?_
     refine Tr.pick rfl rfl rfl rfl rfl rfl ?_
     refine Tr.nil (Aa ?_)
     first
      | refine Sat.condP rfl (fun hc2 => ?_) (fun hc2 => ?_)
      | refine Sat.condNP rfl (fun hc2 => ?_) (fun hc2 => ?_)
      | refine Sat.cond rfl (fun hc2 => ?_) (fun hc2 => ?_)
     ·
      refine Sat.seq (Sat.region ?_)
      refine Tr.a rfl rfl rfl ?_
      refine Tr.nil (Aa (Sat.ret (B8 (Ao (Ao (B8 (Ao (Am ?_))))))))
      refine ⟨_, [], Ae rfl rfl, sP, sP, ?_, rfl⟩
      first
       | exact congrArg Value.bool ((light_in (by rw [hnd]; omega)).trans (light_all (by rw [hnd]; exact hg))).symm
       | exact congrArg Value.bool ((light_in (by rw [hnd]; omega)).trans (light_not (k := k) (by rw [List.getElem?_map, hd]; simp [lightBf]; omega))).symm
       | exact congrArg Value.bool (light_over (by rw [hnd]; omega)).symm
     ·
      refine Sat.skip (B2 (Aa (Sat.region ?_)))
      refine Tr.m rfl rfl rfl ?_
      refine Tr.aI rfl rfl rfl rfl oM ?_
      refine Tr.a rfl rfl rfl ?_
      refine Tr.nil (Aa ?_)
      exact ⟨k + 1, ⟨by omega, fun j hj => by rcases Nat.lt_succ_iff_lt_or_eq.1 hj with h | rfl; exact hg j h; exact (by rw [List.getElem?_map, hd]; simp [lightBf]; omega)⟩, by omega, Ar (wk1 rfl (wk1 rfl wk0)) wh0 nD⟩
   ·
    obtain rfl : k = s.n := by omega
    refine Sat.exit (Bf (Bf (bl_h (Aa (Sat.seq (Sat.region ?_))))))
    refine Tr.a rfl rfl rfl ?_
    refine Tr.nil (Aa (Sat.ret (Am ?_)))
    refine ⟨_, [], Ae rfl rfl, sP, sP, ?_, rfl⟩
    first
     | exact congrArg Value.bool ((light_in (by rw [hnd]; omega)).trans (light_all (by rw [hnd]; exact hg))).symm
     | exact congrArg Value.bool ((light_in (by rw [hnd]; omega)).trans (light_not (k := k) (by rw [List.getElem?_map, hd]; simp [lightBf]; omega))).symm
     | exact congrArg Value.bool (light_over (by rw [hnd]; omega)).symm

theorem lightd_certs (s : Sl) (ds : List DCert) (m : Int) : Meets Tryz.prog 24 [s.v, i64 m] [] (fun W => CertsAt W s ds) (fun v out => v = .bool (lightOf lightEf ds m) ∧ out = []) := by
 intro W hW
 obtain ⟨rs, hs⟩ := hW
 have hmax := hs.max
 simp only [maxLen] at hmax
 have hnd := hs.nd
 refine An Tryz.func24 rfl 33 Tryz.ntmps24 rfl ?_
 refine Sat.seq (Sat.region ?_)
 refine Tr.a rfl rfl rfl ?_
 refine Tr.nil (Aa (Sat.seq (Sat.seq (Sat.region ?_))))
 refine Tr.m rfl rfl rfl ?_
 refine Tr.lenSl rfl rfl rfl Y23 ?_
 refine Tr.m rfl rfl rfl ?_
 refine Tr.gtr rfl rfl rfl rfl rfl ?_
 refine Tr.nil (Aa ?_)
 first
  | refine Sat.condP rfl (fun hc0 => ?_) (fun hc0 => ?_)
  | refine Sat.condNP rfl (fun hc0 => ?_) (fun hc0 => ?_)
  | refine Sat.cond rfl (fun hc0 => ?_) (fun hc0 => ?_)
 ·
  refine Sat.seq (Sat.region ?_)
  refine Tr.a rfl rfl rfl ?_
  refine Tr.nil (Aa (Sat.ret (Ao (Am ?_))))
  refine ⟨_, [], Ae rfl rfl, sP, sP, ?_, rfl⟩
  first
   | exact congrArg Value.bool ((light_in (by rw [hnd]; omega)).trans (light_all (by rw [hnd]; exact hg))).symm
   | exact congrArg Value.bool ((light_in (by rw [hnd]; omega)).trans (light_not (k := k) (by rw [List.getElem?_map, hd]; simp [lightEf]; omega))).symm
   | exact congrArg Value.bool (light_over (by rw [hnd]; omega)).symm
 ·
  refine Sat.skip (Aa (Sat.seq (Sat.seq (Sat.region ?_))))
  refine Tr.a rfl rfl rfl ?_
  refine Tr.nil (Aa (Sat.block ?_))
  refine Sat.loop (ι := Nat) (fun k => ⟨[(0, s.v), (5, i64 (k : Int))], []⟩) (fun k => k ≤ s.n ∧ ∀ j, j < k → (ds.map lightEf)[j]? = some true) (fun k => s.n - k) (0) ?_ ?_ ?_
  · exact ⟨by omega, fun j hj => by omega⟩
  · exact Ar (wk1 rfl (wk1 rfl wk0)) wh0 nD
  ·
   rintro k ⟨hk, hg⟩
   refine Sat.seq (Sat.seq (Sat.region ?_))
   refine Tr.m rfl rfl rfl ?_
   refine Tr.m rfl rfl rfl ?_
   refine Tr.lenSl rfl rfl rfl Y23 ?_
   refine Tr.lss rfl rfl rfl rfl rfl ?_
   refine Tr.nil (Aa ?_)
   first
    | refine Sat.condP rfl (fun hc1 => ?_) (fun hc1 => ?_)
    | refine Sat.condNP rfl (fun hc1 => ?_) (fun hc1 => ?_)
    | refine Sat.cond rfl (fun hc1 => ?_) (fun hc1 => ?_)
   ·
    have hk2 : k < s.n := by omega
    obtain ⟨b, o, r, d, hsp, hr, hd, his, hlen, hsee⟩ := hs.at dE hk2
    have e1 := his.fCut.fHeads.len
    obtain ⟨_, hvs⟩ := his.fVotes
    have e2 := hvs.nd
    refine Sat.skip (Aa (Sat.seq (Sat.block (Sat.seq (Sat.region ?_)))))
    refine Tr.m rfl rfl rfl ?_
    refine Tr.m rfl rfl rfl ?_
    refine Tr.idxSlP 35 rfl rfl rfl hsp rfl Y23 Sz55 k rfl oM ?_
    refine Tr.fld rfl rfl rfl Y55 rfl Ca dE _ rfl ?_
    refine Tr.fld rfl rfl rfl Y53 rfl Sz51 dE _ rfl ?_
    refine Tr.loadE rfl rfl rfl Y51 rfl (by first | (simp; done) | (simp; exact hW.2.2) | (simp [Cx.with]; done) | (simp [Cx.with]; omega)) (hsee 33 _ (Cert.see_fCut his.ok 33 _ (Cut.get_fHeads his.ok.o_fCut))) ?_
    refine Tr.lenSl rfl rfl rfl Y51 ?_
    refine two (fun r hr k => Tr.gtr rfl rfl rfl rfl hr k) (fun hs6_70 => ?_) (fun hs6_70 => ?_)
    ·
     first | have hs6_7 := of_decide_eq_true hs6_70 | have hs6_7 := of_decide_eq_false hs6_70 | have hs6_7 := A2 hs6_70 | have hs6_7 := A3 hs6_70 | have hs6_7 := hs6_70
     refine Tr.m rfl rfl rfl ?_
     refine Tr.skp rfl rfl ?_
     refine Tr.skp rfl rfl ?_
     refine Tr.skp rfl rfl ?_
     refine Tr.skp rfl rfl ?_
     refine Tr.skp rfl rfl ?_
     refine Tr.skp rfl rfl ?_
     refine Tr.skp rfl rfl ?_
     refine Tr.pick rfl rfl rfl rfl rfl rfl ?_
     refine Tr.nil (Aa ?_)
     refine Sat.cond_t rfl rfl ?_
     refine Sat.seq (Sat.region ?_)
     refine Tr.a rfl rfl rfl ?_
     refine Tr.nil (Aa (Sat.ret (B8 (Ao (Ao (B8 (Ao (Am ?_))))))))
     refine ⟨_, [], Ae rfl rfl, sP, sP, ?_, rfl⟩
     first
      | exact congrArg Value.bool ((light_in (by rw [hnd]; omega)).trans (light_all (by rw [hnd]; exact hg))).symm
      | exact congrArg Value.bool ((light_in (by rw [hnd]; omega)).trans (light_not (k := k) (by rw [List.getElem?_map, hd]; simp [lightEf]; omega))).symm
      | exact congrArg Value.bool (light_over (by rw [hnd]; omega)).symm
    ·
     first | have hs6_7 := of_decide_eq_true hs6_70 | have hs6_7 := of_decide_eq_false hs6_70 | have hs6_7 := A2 hs6_70 | have hs6_7 := A3 hs6_70 | have hs6_7 := hs6_70
     refine Tr.m rfl rfl rfl ?_
     refine Tr.m rfl rfl rfl ?_
     refine Tr.m rfl rfl rfl ?_
     refine Tr.idxSlP 35 rfl rfl rfl hsp rfl Y23 Sz55 k rfl oM ?_
     refine Tr.fld rfl rfl rfl Y55 rfl Sz24 dE _ rfl ?_
     refine Tr.loadE rfl rfl rfl Y24 rfl (by first | (simp; done) | (simp; exact hW.2.2) | (simp [Cx.with]; done) | (simp [Cx.with]; omega)) (hsee 34 _ (Cert.get_fVotes his.ok)) ?_
     refine Tr.lenSl rfl rfl rfl Y24 ?_
     refine Tr.gtr rfl rfl rfl rfl rfl ?_
     refine Tr.pick rfl rfl rfl rfl rfl rfl ?_
     refine Tr.nil (Aa ?_)
     first
      | refine Sat.condP rfl (fun hc2 => ?_) (fun hc2 => ?_)
      | refine Sat.condNP rfl (fun hc2 => ?_) (fun hc2 => ?_)
      | refine Sat.cond rfl (fun hc2 => ?_) (fun hc2 => ?_)
     ·
      refine Sat.seq (Sat.region ?_)
      refine Tr.a rfl rfl rfl ?_
      refine Tr.nil (Aa (Sat.ret (B8 (Ao (Ao (B8 (Ao (Am ?_))))))))
      refine ⟨_, [], Ae rfl rfl, sP, sP, ?_, rfl⟩
      first
       | exact congrArg Value.bool ((light_in (by rw [hnd]; omega)).trans (light_all (by rw [hnd]; exact hg))).symm
       | exact congrArg Value.bool ((light_in (by rw [hnd]; omega)).trans (light_not (k := k) (by rw [List.getElem?_map, hd]; simp [lightEf]; omega))).symm
       | exact congrArg Value.bool (light_over (by rw [hnd]; omega)).symm
     ·
      refine Sat.skip (B2 (Aa (Sat.region ?_)))
      refine Tr.m rfl rfl rfl ?_
      refine Tr.aI rfl rfl rfl rfl oM ?_
      refine Tr.a rfl rfl rfl ?_
      refine Tr.nil (Aa ?_)
      exact ⟨k + 1, ⟨by omega, fun j hj => by rcases Nat.lt_succ_iff_lt_or_eq.1 hj with h | rfl; exact hg j h; exact (by rw [List.getElem?_map, hd]; simp [lightEf]; omega)⟩, by omega, Ar (wk1 rfl (wk1 rfl wk0)) wh0 nD⟩
   ·
    obtain rfl : k = s.n := by omega
    refine Sat.exit (Bf (Bf (bl_h (Aa (Sat.seq (Sat.region ?_))))))
    refine Tr.a rfl rfl rfl ?_
    refine Tr.nil (Aa (Sat.ret (Am ?_)))
    refine ⟨_, [], Ae rfl rfl, sP, sP, ?_, rfl⟩
    first
     | exact congrArg Value.bool ((light_in (by rw [hnd]; omega)).trans (light_all (by rw [hnd]; exact hg))).symm
     | exact congrArg Value.bool ((light_in (by rw [hnd]; omega)).trans (light_not (k := k) (by rw [List.getElem?_map, hd]; simp [lightEf]; omega))).symm
     | exact congrArg Value.bool (light_over (by rw [hnd]; omega)).symm

end Go.Proofs.YtdifpjmfabhpiaaGreat
end

section
namespace Go.Proofs.YtdifpjmfabhpiaaGreat
open Go Hw

def DMsg.light (D : DMsg) : Bool := decide ((D.dHeads.length : Int) ≤ 40) && (decide ((D.dWant.length : Int) ≤ 40) && (lightOf lightBf D.dBlocks 10 && (decide ((D.dVotes.length : Int) ≤ 20) && (lightOf lightCf D.dCuts 6 && lightOf lightEf D.dCerts 4))))

end Go.Proofs.YtdifpjmfabhpiaaGreat
end

section
namespace Go.Proofs.YtdifpjmfabhpiaaGreat
open Go Hw

theorem pm_in1 {hp l R X : List Blk} {x : Blk} (h : hp.Perm ((x :: (X ++ l)) ++ R)) : hp.Perm ((([x] ++ X) ++ l) ++ R) := h
theorem pm_in2 {hp l R X : List Blk} {x y : Blk} (h : hp.Perm ((x :: y :: (X ++ l)) ++ R)) : hp.Perm ((([x, y] ++ X) ++ l) ++ R) := h
theorem take_snoc {D : Type} {ds : List D} {k : Nat} {d : D} (h : ds[k]? = some d) : ds.take (k + 1) = ds.take k ++ [d] := by
  obtain ⟨hk, rfl⟩ := List.getElem?_eq_some_iff.1 h
  rw [List.take_succ_eq_append_getElem hk]
theorem owned_is {W : World} {B : Block} {D : DB} {q1 c1 q2 c2 : Nat} (h : BlockIs W B D) (h1 : B.fLinks.n ≤ c1) (h2 : B.fData.n ≤ c2) (n1 : B.fLinks.n ≤ 1000000) (n2 : B.fData.n ≤ 1000000) : ∀ W2, Lies [⟨q2, Ab D.ds, 5, c2 * 1⟩, ⟨q1, B5 D.ls, 50, c1 * 32⟩] W2 → BlockIs W2 (ownB B q1 c1 q2 c2) D := fun W2 hl => by
  have a1 : Acc ⟨some ⟨q1, 0, none⟩, B.fLinks.n, c1⟩ [⟨q1, B5 D.ls, 50, c1 * 32⟩] (B5 D.ls) 50 B.fLinks.n 32 := Acc.some h1 (by rw [B7 h.ls.row, h.ls.len])
  have a2 : Acc ⟨some ⟨q2, 0, none⟩, B.fData.n, c2⟩ [⟨q2, Ab D.ds, 5, c2 * 1⟩] (Ab D.ds) 5 B.fData.n 1 := Acc.some h2 (by rw [Ab, List.length_map, h.ds.len, Nat.mul_one])
  exact ⟨ownB_ok h.ok _ _ _ _, h.w, h.seq, h.prev, acc_rows a1 (hl.sub (by intro b hb; rw [List.mem_singleton.1 hb]; exact List.mem_cons_of_mem _ List.mem_cons_self)) h.ls.row h.ls.len n1, acc_bytes a2 (hl.sub (by intro b hb; rw [List.mem_singleton.1 hb]; exact List.mem_cons_self)) h.ds.len n2, h.sg⟩

theorem kit_own_blocks (s : Sl) (ds : List DB) (hn : s.n ≤ 1000) (hsm : ∀ d ∈ ds, d.ls.length ≤ 500000 ∧ d.ds.length ≤ 500000) : Meets Tryz.prog 72 [s.v] [] (fun W => BlocksAt W s ds) (fun v out => ∃ sl bl bl2 rs, v = sl.v ∧ out = bl ++ bl2 ∧ OwnSeq Block.cells 131 BlockIs 79 sl bl bl2 rs ds s.n) := by
 intro W hW
 obtain ⟨rs, hs⟩ := hW
 have hnd := hs.nd
 refine An Tryz.func72 rfl 20 Tryz.ntmps72 rfl ?_
 refine Sat.seq (Sat.region ?_)
 refine Tr.a rfl rfl rfl ?_
 refine Tr.nil (Aa (Sat.seq (Sat.region ?_)))
 refine Tr.a rfl rfl rfl ?_
 refine Tr.nil (Aa (Sat.seq (Sat.seq (Sat.region ?_))))
 refine Tr.a rfl rfl rfl ?_
 refine Tr.nil (Aa (Sat.block ?_))
 refine Sat.loop (ι := Nat × Sl × List Blk × List Blk × List Block) (fun p => ⟨[(0, s.v), (3, p.2.1.v), (4, i64 (p.1 : Int))], (p.2.2.1 ++ (p.2.2.2.1 ++ []))⟩) (fun p => p.1 ≤ s.n ∧ OwnSeq Block.cells 131 BlockIs 79 p.2.1 p.2.2.1 p.2.2.2.1 p.2.2.2.2 (ds.take p.1) p.1) (fun p => s.n - p.1) ((0, Sl.nil, [], [], [])) ?_ ?_ ?_
 · exact ⟨Nat.zero_le _, OwnSeq.none⟩
 · exact Af (wk1 rfl (wk1 rfl (wk1 rfl wk0))) (Ah sG (Ah sG Ad))
 ·
  rintro p ⟨hk, hos⟩
  refine Sat.seq (Sat.seq (Sat.region ?_))
  refine Tr.m rfl rfl rfl ?_
  refine Tr.m rfl rfl rfl ?_
  refine Tr.lenSl rfl rfl rfl Y22 ?_
  refine Tr.lss rfl rfl rfl rfl rfl ?_
  refine Tr.nil (Aa ?_)
  first
   | refine Sat.condP rfl (fun hc0 => ?_) (fun hc0 => ?_)
   | refine Sat.condNP rfl (fun hc0 => ?_) (fun hc0 => ?_)
   | refine Sat.cond rfl (fun hc0 => ?_) (fun hc0 => ?_)
  ·
   have hk2 : p.1 < s.n := by omega
   obtain ⟨b, o, r, d, hsp, hr, hd, his, hlen, hsee⟩ := hs.at dE hk2
   refine Sat.skip (Aa (Sat.seq (Sat.block (Sat.region ?_))))
   refine Tr.m rfl rfl rfl ?_
   refine Tr.m rfl rfl rfl ?_
   refine Tr.m rfl rfl rfl ?_
   refine Tr.idxSlP 131 rfl rfl rfl hsp rfl Y22 Sz79 p.1 rfl oM ?_
   refine Tr.loadEN r.cells rfl rfl rfl Y79 rfl Sz79 sP hlen hsee ?_
   refine Tr.call4 rfl rfl rfl rfl rfl Body37 (kit_own_block r his.ok d.ls d.ds (by rw [← his.ls.len]; exact (hsm d (List.mem_of_getElem? hd)).1) (by rw [← his.ds.len]; exact (hsm d (List.mem_of_getElem? hd)).2)) (fun w h => ⟨rows_ext h rfl his.ls, bytes_ext h rfl his.ds⟩) ?_
   rintro v16 out16 ⟨q1, c1, q2, c2, rfl, hq1, hq2, rfl⟩
   have hoi := owned_is (q1 := q1) (q2 := q2) his hq1 hq2 (by have := (hsm d (List.mem_of_getElem? hd)).1; rw [← his.ls.len]; omega) (by have := (hsm d (List.mem_of_getElem? hd)).2; rw [← his.ds.len]; omega)
   have hok2 := ownB_ok his.ok q1 c1 q2 c2
   refine Tr.mkRow (z := agg Block.zero.cells) [agg (ownB r q1 c1 q2 c2).cells] (ownB r q1 c1 q2 c2).cells rfl rfl rfl Y22 Sz79 Block.zr rfl rfl (by intro v hv; rw [List.mem_singleton.1 hv]; exact Block.length hok2) dE (by simp [Value.cells]) ?_
   intro q17
   refine Tr.appendAcc (z := agg Block.zero.cells) (by' := 184) ((ownB r q1 c1 q2 c2).cells) rfl rfl rfl rfl rfl Y22 Y22 Sz79 Zr79 (by unfold By; kernel_rfl) rfl hos.acc sG (fun w h => SeesP.of (Ap h mM)) (fun e => by cases e) (Block.isCell hok2) oM oM (by rw [Block.length hok2]) ?_
   intro s18 bl18 hac18
   refine Tr.a rfl rfl rfl ?_
   refine Tr.nil (B2 (Aa (Sat.region ?_)))
   refine Tr.m rfl rfl rfl ?_
   refine Tr.aI rfl rfl rfl rfl oM ?_
   refine Tr.a rfl rfl rfl ?_
   refine Tr.nil (Aa ?_)
   exact ⟨(p.1 + 1, s18, bl18, _, p.2.2.2.2 ++ [ownB r q1 c1 q2 c2]), ⟨by simp only []; omega, by simp only [take_snoc hd]; exact hos.snoc hac18 (Block.length hok2) hoi⟩, by simp only []; omega, Af (wk1 rfl (wk1 rfl (wk1 rfl wk0))) (Ah sG (pm_in2 (Ac rM (Ac rM (Ah sG Ad)))))⟩
  ·
   have hpe : p.1 = s.n := by omega
   refine Sat.exit (Bf (Bf (bl_h (Aa (Sat.seq (Sat.region ?_))))))
   refine Tr.m rfl rfl rfl ?_
   refine Tr.a rfl rfl rfl ?_
   refine Tr.nil (Aa (Sat.ret (Am ?_)))
   refine Ak (out := (p.2.2.1 ++ (p.2.2.2.1 ++ []))) (Ae rfl rfl) (Ah sG (Ah sG Ad)) ?_
   refine ⟨p.2.1, p.2.2.1, p.2.2.2.1, p.2.2.2.2, rfl, by simp, ?_⟩
   rw [hpe, List.take_of_length_le oM] at hos
   exact hos

end Go.Proofs.YtdifpjmfabhpiaaGreat
end

section
namespace Go.Proofs.YtdifpjmfabhpiaaGreat
open Go Hw

def ownC (C : Cut) (q c : Nat) : Cut := { C with fHeads := ⟨some ⟨q, 0, none⟩, C.fHeads.n, c⟩ }
theorem ownC_ok {C : Cut} (h : C.ok) (q c : Nat) : (ownC C q c).ok := ⟨h.l_fPrev⟩
theorem ownC_is {W : World} {C : Cut} {D : DCut} {q c : Nat} (h : CutIs W C D) (h1 : C.fHeads.n ≤ c) (n1 : C.fHeads.n ≤ 1000000) : ∀ W2, Lies [⟨q, B5 D.dHeads, 50, c * 32⟩] W2 → CutIs W2 (ownC C q c) D := fun W2 hl => by
  have a1 : Acc ⟨some ⟨q, 0, none⟩, C.fHeads.n, c⟩ [⟨q, B5 D.dHeads, 50, c * 32⟩] (B5 D.dHeads) 50 C.fHeads.n 32 := Acc.some h1 (by rw [B7 h.fHeads.row, h.fHeads.len])
  exact ⟨ownC_ok h.ok _ _, h.fHeight, h.fPrev, acc_rows a1 hl h.fHeads.row h.fHeads.len n1⟩

theorem kit_own_cuts (s : Sl) (ds : List DCut) (hn : s.n ≤ 1000) (hsm : ∀ d ∈ ds, d.dHeads.length ≤ 500000) : Meets Tryz.prog 38 [s.v] [] (fun W => CutsAt W s ds) (fun v out => ∃ sl bl bl2 rs, v = sl.v ∧ out = bl ++ bl2 ∧ OwnSeq Cut.cells 34 CutIs 53 sl bl bl2 rs ds s.n) := by
 intro W hW
 obtain ⟨rs, hs⟩ := hW
 have hnd := hs.nd
 refine An Tryz.func38 rfl 25 Tryz.ntmps38 rfl ?_
 refine Sat.seq (Sat.region ?_)
 refine Tr.a rfl rfl rfl ?_
 refine Tr.nil (Aa (Sat.seq (Sat.region ?_)))
 refine Tr.a rfl rfl rfl ?_
 refine Tr.nil (Aa (Sat.seq (Sat.seq (Sat.region ?_))))
 refine Tr.a rfl rfl rfl ?_
 refine Tr.nil (Aa (Sat.block ?_))
 refine Sat.loop (ι := Nat × Sl × List Blk × List Blk × List Cut) (fun p => ⟨[(0, s.v), (3, p.2.1.v), (4, i64 (p.1 : Int))], (p.2.2.1 ++ (p.2.2.2.1 ++ []))⟩) (fun p => p.1 ≤ s.n ∧ OwnSeq Cut.cells 34 CutIs 53 p.2.1 p.2.2.1 p.2.2.2.1 p.2.2.2.2 (ds.take p.1) p.1) (fun p => s.n - p.1) ((0, Sl.nil, [], [], [])) ?_ ?_ ?_
 · exact ⟨Nat.zero_le _, OwnSeq.none⟩
 · exact Af (wk1 rfl (wk1 rfl (wk1 rfl wk0))) (Ah sG (Ah sG Ad))
 ·
  rintro p ⟨hk, hos⟩
  refine Sat.seq (Sat.seq (Sat.region ?_))
  refine Tr.m rfl rfl rfl ?_
  refine Tr.m rfl rfl rfl ?_
  refine Tr.lenSl rfl rfl rfl Y25 ?_
  refine Tr.lss rfl rfl rfl rfl rfl ?_
  refine Tr.nil (Aa ?_)
  first
   | refine Sat.condP rfl (fun hc0 => ?_) (fun hc0 => ?_)
   | refine Sat.condNP rfl (fun hc0 => ?_) (fun hc0 => ?_)
   | refine Sat.cond rfl (fun hc0 => ?_) (fun hc0 => ?_)
  ·
   have hk2 : p.1 < s.n := by omega
   obtain ⟨b, o, r, d, hsp, hr, hd, his, hlen, hsee⟩ := hs.at dE hk2
   refine Sat.skip (Aa (Sat.seq (Sat.block (Sat.seq (Sat.region ?_)))))
   refine Tr.m rfl rfl rfl ?_
   refine Tr.m rfl rfl rfl ?_
   refine Tr.idxSlP 34 rfl rfl rfl hsp rfl Y25 Ca p.1 rfl oM ?_
   refine Tr.loadEN r.cells rfl rfl rfl Y53 rfl Ca sP hlen hsee ?_
   refine Tr.alloc (cs := Cut.zero.cells) rfl Cut.zr rfl ?_
   intro n5 hn5 hf5
   refine Tr.sA rfl rfl rfl rfl (Cut.isCell (by first | exact oK  | exact his.ok | exact ownC_ok his.ok _ _)) Ca (Cut.length (by first | exact oK  | exact his.ok | exact ownC_ok his.ok _ _)) mM (Cut.length (by first | exact oK  | exact his.ok | exact ownC_ok his.ok _ _)) uU ?_
   refine Tr.nil (Aa (Sat.seq (Sat.region ?_)))
   refine Tr.fld rfl rfl rfl Y53 rfl Sz51 dE _ rfl ?_
   refine Tr.load1 rfl rfl rfl Y51 rfl mM (by first | exact Cut.get_fHeads (by first | exact oK  | exact his.ok | exact ownC_ok his.ok _ _) | exact vL) ?_
   refine Tr.call4 rfl rfl rfl rfl rfl Body124 (kit_names r.fHeads d.dHeads (by rw [← his.fHeads.len]; exact hsm d (List.mem_of_getElem? hd))) (fun w h => rows_ext h rfl his.fHeads) ?_
   rintro v18 out18 ⟨q1, c1, rfl, hq1, rfl⟩
   have hoi := ownC_is (q := q1) his hq1 (by have := hsm d (List.mem_of_getElem? hd); rw [← his.fHeads.len]; omega)
   have hok2 := ownC_ok his.ok q1 c1
   refine Tr.fld rfl rfl rfl Y53 rfl Sz51 dE _ rfl ?_
   refine Tr.s1 rfl rfl rfl rfl rfl Sz51 mM (by rw [Cut.length (by first | exact oK  | exact his.ok | exact ownC_ok his.ok _ _)]; decide) (by first | exact Cut.set_fHeads (by first | exact oK  | exact his.ok | exact ownC_ok his.ok _ _) _ | exact Cut.setS_fHeads (by first | exact oK  | exact his.ok | exact ownC_ok his.ok _ _) _ _ _) uU ?_
   refine Tr.nil (Aa (Sat.region ?_))
   refine Tr.m rfl rfl rfl ?_
   refine Tr.lA rfl rfl rfl Y53 rfl Ca mM (Cut.length (by first | exact oK  | exact his.ok | exact ownC_ok his.ok _ _)) ?_
   refine Tr.mkRow (z := agg Cut.zero.cells) [agg (ownC r q1 c1).cells] (ownC r q1 c1).cells rfl rfl rfl Y25 Ca Cut.zr rfl rfl (by intro v hv; rw [List.mem_singleton.1 hv]; exact Cut.length hok2) dE (by simp [Value.cells]) ?_
   intro q17
   refine Tr.appendAcc (z := agg Cut.zero.cells) (by' := 64) ((ownC r q1 c1).cells) rfl rfl rfl rfl rfl Y25 Y25 Ca Zr53 (by unfold By; kernel_rfl) rfl hos.acc sG (fun w h => SeesP.of (Ap h mM)) (fun e => by cases e) (Cut.isCell hok2) oM oM (by rw [Cut.length hok2]) ?_
   intro s18 bl18 hac18
   refine Tr.a rfl rfl rfl ?_
   refine Tr.nil (B2 (Aa (Sat.region ?_)))
   refine Tr.m rfl rfl rfl ?_
   refine Tr.aI rfl rfl rfl rfl oM ?_
   refine Tr.a rfl rfl rfl ?_
   refine Tr.nil (Aa ?_)
   exact ⟨(p.1 + 1, s18, bl18, _, p.2.2.2.2 ++ [ownC r q1 c1]), ⟨by simp only []; omega, by simp only [take_snoc hd]; exact hos.snoc hac18 (Cut.length hok2) hoi⟩, by simp only []; omega, Af (wk1 rfl (wk1 rfl (wk1 rfl wk0))) (Ah sG (pm_in1 (Ac rM (Ah sG Ad))))⟩
  ·
   have hpe : p.1 = s.n := by omega
   refine Sat.exit (Bf (Bf (bl_h (Aa (Sat.seq (Sat.region ?_))))))
   refine Tr.m rfl rfl rfl ?_
   refine Tr.a rfl rfl rfl ?_
   refine Tr.nil (Aa (Sat.ret (Am ?_)))
   refine Ak (out := (p.2.2.1 ++ (p.2.2.2.1 ++ []))) (Ae rfl rfl) (Ah sG (Ah sG Ad)) ?_
   refine ⟨p.2.1, p.2.2.1, p.2.2.2.1, p.2.2.2.2, rfl, by simp, ?_⟩
   rw [hpe, List.take_of_length_le oM] at hos
   exact hos

end Go.Proofs.YtdifpjmfabhpiaaGreat
end

section
namespace Go.Proofs.YtdifpjmfabhpiaaGreat
open Go Hw

theorem Cert.setS_heads {x : Cert} (h : x.ok) (p : Option Addr) (n c : Nat) : x.cells.set (0 + 33) (.slice p n c) = ({ x with fCut := { x.fCut with fHeads := ⟨p, n, c⟩ } } : Cert).cells := by
  rw [Cert.cells, List.set_append, if_pos (by rw [Cut.length h.o_fCut]; decide), Nat.zero_add, Cut.setS_fHeads h.o_fCut]; rfl
theorem votes_cell {vs : List Vote} (h : ∀ r ∈ vs, r.ok) : ∀ u ∈ (vs.map Vote.cells).flatten, isCell u = true := by
  intro u hu
  obtain ⟨l, hl, hu⟩ := List.mem_flatten.1 hu
  obtain ⟨r, hr, rfl⟩ := List.mem_map.1 hl
  exact Vote.isCell (h r hr) u hu
theorem seq_votes {W : World} {s : Sl} {vs ds : List Vote} (h : SeqIs Vote.cells 132 VoteIs W s vs ds) : ∀ r ∈ vs, r.ok := by
  intro r hr
  obtain ⟨j, hj, rfl⟩ := List.getElem_of_mem hr
  have hj2 : j < ds.length := by rw [h.nd, ← h.nr]; exact hj
  exact (h.is j _ _ (List.getElem?_eq_getElem hj) (List.getElem?_eq_getElem hj2)).ok
def ownE (C : Cert) (q1 c1 q2 c2 : Nat) : Cert := { C with fCut := ownC C.fCut q1 c1, fVotes := ⟨some ⟨q2, 0, none⟩, C.fVotes.n, c2⟩ }
theorem ownE_ok {C : Cert} (h : C.ok) (q1 c1 q2 c2 : Nat) : (ownE C q1 c1 q2 c2).ok := ⟨ownC_ok h.o_fCut _ _⟩
theorem ownE_is {W : World} {C : Cert} {D : DCert} {vs : List Vote} {q1 c1 q2 c2 : Nat} (h : CertIs W C D) (hv : SeqIs Vote.cells 132 VoteIs W C.fVotes vs D.dVotes) (h1 : C.fCut.fHeads.n ≤ c1) (h2 : C.fVotes.n ≤ c2) (n1 : C.fCut.fHeads.n ≤ 1000000) (n2 : C.fVotes.n ≤ 1000000) :
    ∀ W2, Lies [⟨q2, (vs.map Vote.cells).flatten, 81, c2 * 132⟩, ⟨q1, B5 D.dCut.dHeads, 50, c1 * 32⟩] W2 → CertIs W2 (ownE C q1 c1 q2 c2) D := fun W2 hl => by
  have a2 : Acc ⟨some ⟨q2, 0, none⟩, C.fVotes.n, c2⟩ [⟨q2, (vs.map Vote.cells).flatten, 81, c2 * 132⟩] (vs.map Vote.cells).flatten 81 C.fVotes.n 132 := Acc.some h2 hv.flat
  exact ⟨ownE_ok h.ok _ _ _ _, ownC_is h.fCut h1 n1 W2 (hl.sub (by intro b hb; rw [List.mem_singleton.1 hb]; exact List.mem_cons_of_mem _ List.mem_cons_self)),
    ⟨vs, acc_seq a2 (hl.sub (by intro b hb; rw [List.mem_singleton.1 hb]; exact List.mem_cons_self)) hv.nr hv.nd hv.len n2 fun i r d hr hd => (by
      have := hv.is i r d hr hd
      exact ⟨this.ok, this.eq, this.wf⟩)⟩⟩

theorem kit_own_certs (s : Sl) (ds : List DCert) (hn : s.n ≤ 1000) (hsm : ∀ d ∈ ds, d.dCut.dHeads.length ≤ 500000 ∧ d.dVotes.length ≤ 500000) : Meets Tryz.prog 39 [s.v] [] (fun W => CertsAt W s ds) (fun v out => ∃ sl bl bl2 rs, v = sl.v ∧ out = bl ++ bl2 ∧ OwnSeq Cert.cells 35 CertIs 55 sl bl bl2 rs ds s.n) := by
 intro W hW
 obtain ⟨rs, hs⟩ := hW
 have hnd := hs.nd
 refine An Tryz.func39 rfl 32 Tryz.ntmps39 rfl ?_
 refine Sat.seq (Sat.region ?_)
 refine Tr.a rfl rfl rfl ?_
 refine Tr.nil (Aa (Sat.seq (Sat.region ?_)))
 refine Tr.a rfl rfl rfl ?_
 refine Tr.nil (Aa (Sat.seq (Sat.seq (Sat.region ?_))))
 refine Tr.a rfl rfl rfl ?_
 refine Tr.nil (Aa (Sat.block ?_))
 refine Sat.loop (ι := Nat × Sl × List Blk × List Blk × List Cert) (fun p => ⟨[(0, s.v), (3, p.2.1.v), (4, i64 (p.1 : Int))], (p.2.2.1 ++ (p.2.2.2.1 ++ []))⟩) (fun p => p.1 ≤ s.n ∧ OwnSeq Cert.cells 35 CertIs 55 p.2.1 p.2.2.1 p.2.2.2.1 p.2.2.2.2 (ds.take p.1) p.1) (fun p => s.n - p.1) ((0, Sl.nil, [], [], [])) ?_ ?_ ?_
 · exact ⟨Nat.zero_le _, OwnSeq.none⟩
 · exact Af (wk1 rfl (wk1 rfl (wk1 rfl wk0))) (Ah sG (Ah sG Ad))
 ·
  rintro p ⟨hk, hos⟩
  refine Sat.seq (Sat.seq (Sat.region ?_))
  refine Tr.m rfl rfl rfl ?_
  refine Tr.m rfl rfl rfl ?_
  refine Tr.lenSl rfl rfl rfl Y23 ?_
  refine Tr.lss rfl rfl rfl rfl rfl ?_
  refine Tr.nil (Aa ?_)
  first
   | refine Sat.condP rfl (fun hc0 => ?_) (fun hc0 => ?_)
   | refine Sat.condNP rfl (fun hc0 => ?_) (fun hc0 => ?_)
   | refine Sat.cond rfl (fun hc0 => ?_) (fun hc0 => ?_)
  ·
   have hk2 : p.1 < s.n := by omega
   obtain ⟨b, o, r, d, hsp, hr, hd, his, hlen, hsee⟩ := hs.at dE hk2
   obtain ⟨vs, hvs⟩ := his.fVotes
   have hs1 := (hsm d (List.mem_of_getElem? hd)).1
   have hs2 := (hsm d (List.mem_of_getElem? hd)).2
   rw [his.fCut.fHeads.len] at hs1
   rw [hvs.nd] at hs2
   refine Sat.skip (Aa (Sat.seq (Sat.block (Sat.seq (Sat.region ?_)))))
   refine Tr.m rfl rfl rfl ?_
   refine Tr.m rfl rfl rfl ?_
   refine Tr.idxSlP 35 rfl rfl rfl hsp rfl Y23 Sz55 p.1 rfl oM ?_
   refine Tr.loadEN r.cells rfl rfl rfl Y55 rfl Sz55 sP hlen hsee ?_
   refine Tr.alloc (cs := Cert.zero.cells) rfl Cert.zr rfl ?_
   intro n5 hn5 hf5
   refine Tr.sA rfl rfl rfl rfl (Cert.isCell (by first | exact oK  | exact his.ok | exact ⟨ownC_ok his.ok.o_fCut _ _⟩ | exact ownE_ok his.ok _ _ _ _)) Sz55 (Cert.length (by first | exact oK  | exact his.ok | exact ⟨ownC_ok his.ok.o_fCut _ _⟩ | exact ownE_ok his.ok _ _ _ _)) mM (Cert.length (by first | exact oK  | exact his.ok | exact ⟨ownC_ok his.ok.o_fCut _ _⟩ | exact ownE_ok his.ok _ _ _ _)) uU ?_
   refine Tr.nil (Aa (Sat.seq ?_))
   refine Sat.draw [(0, 0), (0, 1), (1, 2), (0, 5), (1, 6), (3, 3), (0, 8), (0, 9), (2, 4), (4, 7), (4, 10), (0, 11), (4, 12)] Bv zK ?_
   refine Tr.fld rfl rfl rfl Y55 rfl Ca dE _ rfl ?_
   refine Tr.fld rfl rfl rfl Y53 rfl Sz51 dE _ rfl ?_
   refine Tr.load1 rfl rfl rfl Y51 rfl mM (Cert.see_fCut his.ok 33 _ (Cut.get_fHeads his.ok.o_fCut)) ?_
   refine Tr.fld rfl rfl rfl Y55 rfl Sz24 dE _ rfl ?_
   refine Tr.load1 rfl rfl rfl Y24 rfl mM (by first | exact Cert.get_fVotes (by first | exact oK  | exact his.ok | exact ⟨ownC_ok his.ok.o_fCut _ _⟩ | exact ownE_ok his.ok _ _ _ _) | exact vL) ?_
   refine Tr.call rfl rfl rfl rfl Body124 (kit_names r.fCut.fHeads d.dCut.dHeads (by rw [← his.fCut.fHeads.len]; exact (hsm d (List.mem_of_getElem? hd)).1)) (FreshRow.loose _ _ _ _) (fun w h => rows_ext h rfl his.fCut.fHeads) ?_
   rintro v18 out18 ⟨q1, c1, rfl, hq1, rfl⟩
   refine Tr.fld rfl rfl rfl Y55 rfl Ca dE _ rfl ?_
   refine Tr.fld rfl rfl rfl Y53 rfl Sz51 dE _ rfl ?_
   refine Tr.mkRow2 (z := agg Vote.zero.cells) [] [] rfl rfl Y24 Sz81 Vote.zr rfl rfl (by intro v hv; cases hv) dE rfl ?_
   intro q20
   refine Tr.appendSl (z := agg Vote.zero.cells) (by' := 160) ((vs.map Vote.cells).flatten) rfl rfl rfl rfl rfl Y24 Y24 Sz81 Zr81 (by unfold By; kernel_rfl) rfl (fun w h => Aw h rfl hvs.see) (fun e => by have := hvs.nil e; have := hvs.cap; omega) (votes_cell (seq_votes hvs)) rM rfl rfl oM oM oM hvs.flat ?_
   intro q2 c2 hq2
   rw [Nat.zero_add r.fVotes.n]
   have hoi := ownE_is (q1 := q1) (q2 := q2) his hvs hq1 (show r.fVotes.n ≤ c2 by omega) oM oM
   have hok2 := ownE_ok his.ok q1 c1 q2 c2
   refine Tr.s1 rfl rfl rfl rfl rfl Sz51 mM (by rw [Cert.length his.ok]; decide) (Cert.setS_heads his.ok _ _ _) uU ?_
   refine Tr.fld rfl rfl rfl Y55 rfl Sz24 dE _ rfl ?_
   refine Tr.s1 rfl rfl rfl rfl rfl Sz24 mM (by rw [Cert.length (by first | exact oK  | exact his.ok | exact ⟨ownC_ok his.ok.o_fCut _ _⟩ | exact ownE_ok his.ok _ _ _ _)]; decide) (by first | exact Cert.set_fVotes (by first | exact oK  | exact his.ok | exact ⟨ownC_ok his.ok.o_fCut _ _⟩ | exact ownE_ok his.ok _ _ _ _) _ | exact Cert.setS_fVotes (by first | exact oK  | exact his.ok | exact ⟨ownC_ok his.ok.o_fCut _ _⟩ | exact ownE_ok his.ok _ _ _ _) _ _ _) uU ?_
   refine Tr.nil (Aa (Sat.region ?_))
   refine Tr.m rfl rfl rfl ?_
   refine Tr.lA rfl rfl rfl Y55 rfl Sz55 mM (Cert.length (by first | exact oK  | exact his.ok | exact ⟨ownC_ok his.ok.o_fCut _ _⟩ | exact ownE_ok his.ok _ _ _ _)) ?_
   refine Tr.mkRow (z := agg Cert.zero.cells) [agg (ownE r q1 c1 q2 c2).cells] (ownE r q1 c1 q2 c2).cells rfl rfl rfl Y23 Sz55 Cert.zr rfl rfl (by intro v hv; rw [List.mem_singleton.1 hv]; exact Cert.length hok2) dE (by simp [Value.cells]) ?_
   intro q17
   refine Tr.appendAcc (z := agg Cert.zero.cells) (by' := 88) ((ownE r q1 c1 q2 c2).cells) rfl rfl rfl rfl rfl Y23 Y23 Sz55 Zr55 (by unfold By; kernel_rfl) rfl hos.acc sG (fun w h => SeesP.of (Ap h mM)) (fun e => by cases e) (Cert.isCell hok2) oM oM (by rw [Cert.length hok2]) ?_
   intro s18 bl18 hac18
   refine Tr.a rfl rfl rfl ?_
   refine Tr.nil (B2 (Aa (Sat.region ?_)))
   refine Tr.m rfl rfl rfl ?_
   refine Tr.aI rfl rfl rfl rfl oM ?_
   refine Tr.a rfl rfl rfl ?_
   refine Tr.nil (Aa ?_)
   exact ⟨(p.1 + 1, s18, bl18, _, p.2.2.2.2 ++ [ownE r q1 c1 q2 c2]), ⟨by simp only []; omega, by simp only [take_snoc hd]; exact hos.snoc hac18 (Cert.length hok2) hoi⟩, by simp only []; omega, Af (wk1 rfl (wk1 rfl (wk1 rfl wk0))) (Ah sG (pm_in2 (Ac rM (Ac rM (Ah sG Ad)))))⟩
  ·
   have hpe : p.1 = s.n := by omega
   refine Sat.exit (Bf (Bf (bl_h (Aa (Sat.seq (Sat.region ?_))))))
   refine Tr.m rfl rfl rfl ?_
   refine Tr.a rfl rfl rfl ?_
   refine Tr.nil (Aa (Sat.ret (Am ?_)))
   refine Ak (out := (p.2.2.1 ++ (p.2.2.2.1 ++ []))) (Ae rfl rfl) (Ah sG (Ah sG Ad)) ?_
   refine ⟨p.2.1, p.2.2.1, p.2.2.2.1, p.2.2.2.2, rfl, by simp, ?_⟩
   rw [hpe, List.take_of_length_le oM] at hos
   exact hos

end Go.Proofs.YtdifpjmfabhpiaaGreat
end

section
namespace Go.Proofs.YtdifpjmfabhpiaaGreat
open Go Hw

def OwnedMsg (D : DMsg) (v : Value) (out : List Blk) : Prop := ∃ m : Msg, m.ok ∧ v = agg m.cells ∧ ∀ W2, Lies out W2 → MsgIs W2 m D
theorem no_lie {n : Nat} {v : Value} {T : TypeId} {W : World} (h : Lies [⟨n, [v], T, 0⟩] W) : False := by
  obtain ⟨full, fr, hb⟩ := h _ (List.mem_singleton.2 rfl)
  have h1 := hb.pre.length_le
  have h2 := hb.size
  simp at h1
  simp only at h2
  omega
theorem OwnedMsg.loose (D : DMsg) : Loose (OwnedMsg D) := fun l hl => by
  obtain ⟨n, _, hn⟩ := fresh_is 0 l
  exact ⟨agg Msg.zero.cells, [⟨n, [undef], 0, 0⟩], ⟨Msg.zero, by exact Msg.zero_ok, rfl, fun W2 h => (no_lie h).elim⟩, by
    rw [List.map_append, List.nodup_append]
    refine ⟨by simp, hl, fun i hi j hj => ?_⟩
    obtain ⟨b, hb, rfl⟩ := List.mem_map.1 hj
    simp at hi
    subst hi
    exact fun e => hn b hb e.symm⟩
structure LightIs (D : DMsg) : Prop where
  heads : D.dHeads.length ≤ 40
  want : D.dWant.length ≤ 40
  votes : D.dVotes.length ≤ 20
  nB : D.dBlocks.length ≤ 10
  nC : D.dCuts.length ≤ 6
  nE : D.dCerts.length ≤ 4
  blocks : ∀ d ∈ D.dBlocks, d.ls.length ≤ 500000 ∧ d.ds.length ≤ 500000
  cuts : ∀ d ∈ D.dCuts, d.dHeads.length ≤ 500000
  certs : ∀ d ∈ D.dCerts, d.dCut.dHeads.length ≤ 500000 ∧ d.dVotes.length ≤ 500000
theorem light_small {D : DMsg} (h : D.light = true) : LightIs D := by
  simp only [DMsg.light, lightOf, lightBf, lightCf, lightEf, Bool.and_eq_true, decide_eq_true_eq, Bool.not_eq_true', decide_eq_false_iff_not, List.all_eq_true] at h
  obtain ⟨h1, h2, ⟨h3, h4⟩, h5, ⟨h6, h7⟩, h8, h9⟩ := h
  exact ⟨by omega, by omega, by omega, by omega, by omega, by omega, fun d hd => by have := h4 d hd; omega, fun d hd => by have := h7 d hd; omega, fun d hd => by have := h9 d hd; omega⟩

end Go.Proofs.YtdifpjmfabhpiaaGreat
end

section
namespace Go.Proofs.YtdifpjmfabhpiaaGreat
open Go Hw

theorem put_digest (q n c : Nat) (l d : List UInt8) (hl : l.length = n) (hd : d.length = 32) (hnc : n ≤ c) (hn : n ≤ 100000) : Meets Tryz.prog 108 [.slice (some ⟨q, 0, none⟩) n c, agg (Ab d)] [q] (fun W => BlkOk W ⟨q, Ab (l), 5, c * 1⟩) (fun v out => FreshRow v out (Ab (l ++ d)) 5 (n + 32) 1) := by
 intro W hW
 refine A7 (hp0 := [⟨q, Ab (l), 5, c * 1⟩]) Tryz.func108 rfl 8 Tryz.ntmps108 rfl (HRep.one hW) ?_
 refine Sat.seq (Sat.region ?_)
 refine Tr.boxA rfl rfl ?_
 intro n3 hn3 hf3
 refine Tr.a rfl rfl rfl ?_
 refine Tr.nil (Aa (Sat.seq (Sat.region ?_)))
 refine Tr.m rfl rfl rfl ?_
 refine Tr.sliceArr rfl rfl rfl Y50 Sz5 ?_
 refine Tr.appendSl (z := u8 0) (by' := 1) (Ab d) rfl rfl rfl rfl rfl Y58 Y58 Sz5 Zr5 (by unfold By; kernel_rfl) rfl (fun w h => SeesP.of (Ap h mM)) (fun e => by cases e) (Bc _) rM rfl (by rw [Ab, List.length_map, hl, Nat.mul_one]) hnc oM oM (by rw [Ab, List.length_map, hd]) ?_
 intro q1 c1 hq1
 refine Tr.a rfl rfl rfl ?_
 refine Tr.nil (Aa (Sat.ret (Am ?_)))
 refine ⟨_, [⟨q1, Ab (l ++ d), 5, c1 * 1⟩], Ae rfl rfl, (by intro b hb; rw [List.mem_singleton.1 hb]; simp only [Ab, List.map_append]; exact mem0), Bz, ⟨q1, c1, rfl, hq1, rfl⟩⟩

theorem put_digests (a : Option Addr) (n c : Nat) (l : List UInt8) (s : Sl) (ls : List (List UInt8)) (hl : l.length = n) (hp : a = none → n = 0) (hn : n ≤ 50000) (hs : s.n ≤ 1000) : Meets Tryz.prog 107 [.slice a n c, s.v, .func (.func 108) #[] #[]] [] (fun W => SeesP W a (Ab l) ∧ RowsAt W s 32 ls) (fun v out => FreshRow v out (Ab (l ++ Au (UInt64.ofNat s.n) ++ ls.flatten)) 5 (n + szN s.n + s.n * 32) 1) := by
 intro W hW
 have hz := A8 s.n
 have hon := A1 (n := s.n) oM
 have hll := hW.2.len
 refine An Tryz.func107 rfl 26 Tryz.ntmps107 rfl ?_
 refine Sat.seq (Sat.region ?_)
 refine Tr.a rfl rfl rfl ?_
 refine Tr.nil (Aa (Sat.seq (Sat.region ?_)))
 refine Tr.m rfl rfl rfl ?_
 refine Tr.m rfl rfl rfl ?_
 refine Tr.lenSl rfl rfl rfl Y51 ?_
 refine Tr.conv rfl rfl rfl Y3 Y48 (Bh _) ?_
 rw [word_nat (n := s.n) oM]
 refine Tr.call4 rfl rfl rfl rfl rfl Body106 (oct_Number a n c l (UInt64.ofNat s.n) hl hp oM) (fun w h => Aw h rfl hW.1) ?_
 rintro v13 out13 ⟨q1, c1, rfl, hc1, rfl⟩
 rw [hon] at hc1 ⊢
 refine Tr.a rfl rfl rfl ?_
 refine Tr.nil (Aa (Sat.seq (Sat.seq (Sat.region ?_))))
 refine Tr.m rfl rfl rfl ?_
 refine Tr.lenSl rfl rfl rfl Y51 ?_
 refine Tr.m rfl rfl rfl ?_
 refine Tr.nil (Aa (Sat.block ?_))
 refine Sat.loop (ι := Nat × Nat × Nat) (fun p => ⟨[(0, .slice (some ⟨p.2.1, 0, none⟩) (n + szN s.n + p.1 * 32) p.2.2), (2, .func (.func 108) #[] #[]), (14, s.v), (15, i64 (s.n : Int)), (16, i64 (p.1 : Int))], [⟨p.2.1, Ab (l ++ Au (UInt64.ofNat s.n) ++ (ls.take p.1).flatten), 5, p.2.2 * 1⟩]⟩) (fun p => p.1 ≤ s.n ∧ n + szN s.n + p.1 * 32 ≤ p.2.2) (fun p => s.n - p.1) ((0, q1, c1)) ?_ ?_ ?_
 · exact ⟨Nat.zero_le _, by simp only []; omega⟩
 · exact Ar (wk1 (by simp only [Nat.zero_mul, Nat.add_zero]; rfl) (wk1 rfl (wk1 rfl (wk1 rfl (wk1 rfl wk0))))) (wh1 (by simp only [List.take_zero, List.flatten_nil, List.append_nil]; exact mem0) wh0) nD
 ·
  rintro p ⟨hp1, hp2⟩
  refine Sat.seq (Sat.region ?_)
  refine Tr.lss rfl rfl rfl rfl rfl ?_
  refine Tr.nil (Aa (Sat.seq ?_))
  first
   | refine Sat.condP rfl (fun hc0 => ?_) (fun hc0 => ?_)
   | refine Sat.condNP rfl (fun hc0 => ?_) (fun hc0 => ?_)
   | refine Sat.cond rfl (fun hc0 => ?_) (fun hc0 => ?_)
  ·
   have hk2 : p.1 < s.n := by omega
   obtain ⟨b, o, hbp, hbs⟩ := hW.2.see.at (by rw [B7 hW.2.row]; omega)
   have hr0 : (ls.getD p.1 []).length = 32 := getD_len hW.2.row oM
   refine Sat.skip (Aa (Sat.seq (Sat.block (Sat.seq (Sat.region ?_)))))
   refine Tr.idxSlP 32 rfl rfl rfl hbp rfl Y51 Bb p.1 rfl oM ?_
   refine Tr.loadEN (Ab (ls.getD (p.1) [])) rfl rfl rfl Y50 rfl Bb sP (by rw [Ab, List.length_map]; exact getD_len hW.2.row oM) (sees_row hW.2.row hbs oM) ?_
   refine Tr.alloc (cs := (Ab (List.replicate 32 0))) rfl Zr50 rfl ?_
   intro n8 hn8 hf8
   first
    | refine Tr.sA rfl rfl rfl rfl cB Bb (by first | (simp [hr0]; done) | assumption | (rw [Ab, List.length_map]; assumption)) mM (by first | (simp [hr0]; done) | assumption | (rw [Ab, List.length_map]; assumption)) uU ?_
    | refine Tr.storeN _ rfl rfl rfl rfl rfl cB Bb (by first | (simp [hr0]; done) | assumption | (rw [Ab, List.length_map]; assumption)) mM (by first | (simp [hr0]; done) | assumption | (rw [Ab, List.length_map]; assumption)) (by exact rfl) uU ?_
   refine Tr.nil (Aa (Sat.region ?_))
   refine Tr.m rfl rfl rfl ?_
   refine Tr.m rfl rfl rfl ?_
   first
    | refine Tr.lA rfl rfl rfl Y50 rfl Bb mM (by first | (simp [hr0]; done) | assumption | (rw [Ab, List.length_map]; assumption)) ?_
    | refine Tr.lN _ rfl rfl rfl Y50 rfl Bb mM (by exact rfl) (by first | (simp [hr0]; done) | assumption | (rw [Ab, List.length_map]; assumption)) ?_
   refine Tr.callL (L := [⟨p.2.1, Ab (l ++ Au (UInt64.ofNat s.n) ++ (ls.take p.1).flatten), 5, p.2.2 * 1⟩]) rfl rfl rfl rfl rfl Body108 (put_digest p.2.1 (n + szN s.n + p.1 * 32) p.2.2 (l ++ Au (UInt64.ofNat s.n) ++ (ls.take p.1).flatten) (ls.getD p.1 []) (by simp only [List.length_append, Aq, hon, hl, Bn hW.2.row (show p.1 ≤ ls.length by omega)]) hr0 hp2 oM) rM lO (fun w h => Ai h mM) ?_
   rintro v23 out23 ⟨q2, c2, rfl, hq2, rfl⟩
   refine Tr.a rfl rfl rfl ?_
   refine Tr.nil (B2 (Aa (Sat.region ?_)))
   refine Tr.aI rfl rfl rfl rfl oM ?_
   refine Tr.m rfl rfl rfl ?_
   refine Tr.nil (Aa ?_)
   exact ⟨(p.1 + 1, q2, c2), ⟨by simp only []; omega, by simp only []; omega⟩, by simp only []; omega, Ar (wk1 (by rw [show n + szN s.n + (p.1 + 1) * 32 = n + szN s.n + p.1 * 32 + 32 by omega]; rfl) (wk1 rfl (wk1 rfl (wk1 rfl (wk1 rfl wk0))))) (wh1 (by rw [flatten_take_step (show p.1 < ls.length by omega), ← List.append_assoc]; exact mem0) wh0) nD⟩
  ·
   have hpe : p.1 = s.n := by omega
   refine Sat.exit (Bf (Bf (bl_h (Aa (Sat.seq (Sat.region ?_))))))
   refine Tr.m rfl rfl rfl ?_
   refine Tr.a rfl rfl rfl ?_
   refine Tr.nil (Aa (Sat.ret (Am ?_)))
   refine ⟨_, [⟨p.2.1, Ab (l ++ Au (UInt64.ofNat s.n) ++ ls.flatten), 5, p.2.2 * 1⟩], Ae rfl rfl, (by intro b hb; rw [List.mem_singleton.1 hb, show ls.flatten = (ls.take p.1).flatten by rw [List.take_of_length_le oM]]; exact mem0), Bz, ⟨p.2.1, p.2.2, by rw [hpe], by omega, rfl⟩⟩

def mz (k : Int) (h : UInt64) : Msg := ⟨k, h, Sl.nil, Sl.nil, Sl.nil, Sl.nil, Sl.nil, Sl.nil⟩
def dz (k : Int) (h : UInt64) : DMsg := ⟨k, h, [], [], [], [], [], []⟩
theorem rows_none {W : World} {m : Nat} : RowsAt W Sl.nil m [] := ⟨rfl, fun l h => (by cases h), Nat.le_refl _, SeesP.nil, by decide, fun _ => rfl⟩
theorem mz_is {W : World} (k : Int) (h : UInt64) (hk : (Lit.int .i64 k).wf = true) : MsgIs W (mz k h) (dz k h) :=
  ⟨⟨trivial⟩, rfl, hk, rfl, rows_none, rows_none, ⟨[], SeqIs.none⟩, ⟨[], SeqIs.none⟩, ⟨[], SeqIs.none⟩, ⟨[], SeqIs.none⟩⟩
theorem mz_hello : (dz 1 3).check = 0 := Bm (by unfold DMsg.bad; decide)
theorem mz_blocks : (dz 3 0).check = 2 := Bu (by unfold DMsg.bad; decide)
def helloB (D : DMsg) : List UInt8 := [1] ++ Au D.dHeight ++ Au (UInt64.ofNat D.dHeads.length) ++ D.dHeads.flatten
theorem hello_ex : helloB (dz 1 3) = [1, 3, 0] := by kernel_rfl

theorem bytes_hello (m : Msg) (D : DMsg) (hk : D.dKind = 1) (hc : D.check = 0) (hh : D.dHeads.length ≤ 40) : Meets Tryz.prog 28 [agg m.cells] [] (fun W => MsgIs W m D) (fun v out => ∃ q c, v = .tuple #[.slice (some ⟨q, 0, none⟩) (helloB D).length c, i64 0] ∧ (helloB D).length ≤ c ∧ out = [⟨q, Ab (helloB D), 5, c * 1⟩]) := by
 intro W hW
 have hok := hW.ok
 have hkm : m.fKind = 1 := hW.fKind.trans hk
 have hpk : As m.fKind = 3 := by rw [hkm]; rfl
 have hhl := hW.fHeads.len
 have hz1 := A8 m.fHeight.toNat
 have hz2 := A8 m.fHeads.n
 have hbk : Hw.Bx m.fKind = 1 := by rw [hkm]; rfl
 refine An Tryz.func28 rfl 73 Tryz.ntmps28 rfl ?_
 refine Sat.seq (Sat.region ?_)
 refine Tr.boxA rfl rfl ?_
 intro n1 hn1 hf1
 refine Tr.a rfl rfl rfl ?_
 refine Tr.a rfl rfl rfl ?_
 refine Tr.nil (Aa (Sat.seq (Sat.seq (Sat.region ?_))))
 refine Tr.lA rfl rfl rfl Y57 rfl Sz57 mM (Msg.length (by first | exact oK  | exact hok)) ?_
 refine Tr.cV rfl rfl rfl rfl Body34 (msg_check m D) (fun w h => hW.ext h rfl) ?_
 refine Tr.a rfl rfl rfl ?_
 refine Tr.nil (Aa (Sat.seq (Sat.region ?_)))
 refine Tr.m rfl rfl rfl ?_
 refine Tr.nei rfl rfl rfl rfl (show (!decide _) = false from congrArg not (decide_eq_true (hc))) ?_
 refine Tr.nil (Aa ?_)
 refine Sat.cond_f rfl (rfl) ?_
 refine Sat.skip (Aa (Sat.seq (Sat.region ?_)))
 refine Tr.fld rfl rfl rfl Y57 rfl Sz3 dE _ rfl ?_
 refine Tr.load1 rfl rfl rfl Y3 rfl mM (by first | exact Msg.get_fKind (by first | exact oK  | exact hok) | exact vL) ?_
 refine Tr.cV rfl rfl rfl rfl Body93 ((show Meets _ _ _ _ _ (fun v out => v = i64 3 ∧ out = []) from by have h := sync_parts m.fKind; rwa [hpk] at h)) tV ?_
 refine Tr.a rfl rfl rfl ?_
 refine Tr.nil (Aa (Sat.seq (Sat.region ?_)))
 refine Tr.fld rfl rfl rfl Y57 rfl Sz3 dE _ rfl ?_
 refine Tr.load1 rfl rfl rfl Y3 rfl mM (by first | exact Msg.get_fKind (by first | exact oK  | exact hok) | exact vL) ?_
 refine Tr.conv rfl rfl rfl Y3 Y5 (cv_i64_u8 _) ?_
 rw [hbk]
 refine Tr.mkRow (z := u8 0) [u8 1] (Ab [1]) rfl rfl rfl Y58 Sz5 Zr5 rfl rfl (by intro v hv; rw [List.mem_singleton.1 hv]; rfl) dE rfl ?_
 intro q18
 refine Tr.a rfl rfl rfl ?_
 refine Tr.nil (Aa (Sat.seq (Sat.seq (Sat.region ?_))))
 refine Tr.m rfl rfl rfl ?_
 refine Tr.and_i64 rfl rfl rfl rfl ?_
 refine Tr.nei rfl rfl rfl rfl (show (!decide _) = true from congrArg not (decide_eq_false dE)) ?_
 refine Tr.nil (Aa ?_)
 refine Sat.cond_t rfl (rfl) ?_
 refine Sat.region ?_
 refine Tr.m rfl rfl rfl ?_
 refine Tr.fld rfl rfl rfl Y57 rfl B1 dE _ rfl ?_
 refine Tr.load1 rfl rfl rfl Y48 rfl mM (by first | exact Msg.get_fHeight (by first | exact oK  | exact hok) | exact vL) ?_
 refine Tr.call4 rfl rfl rfl rfl rfl Body106 (oct_Number (some ⟨q18, 0, none⟩) 1 1 [1] m.fHeight rfl (fun e => by cases e) dE) (fun w h => SeesP.of (Ap h mM)) ?_
 rintro v25 out25 ⟨q25, c25, rfl, hc25, rfl⟩
 refine Tr.a rfl rfl rfl ?_
 refine Tr.nil (Aa (Sat.seq (Sat.seq (Sat.region ?_))))
 refine Tr.m rfl rfl rfl ?_
 refine Tr.and_i64 rfl rfl rfl rfl ?_
 refine Tr.nei rfl rfl rfl rfl (show (!decide _) = true from congrArg not (decide_eq_false dE)) ?_
 refine Tr.nil (Aa ?_)
 refine Sat.cond_t rfl (rfl) ?_
 refine Sat.region ?_
 refine Tr.m rfl rfl rfl ?_
 refine Tr.fld rfl rfl rfl Y57 rfl Sz51 dE _ rfl ?_
 refine Tr.load1 rfl rfl rfl Y51 rfl mM (by first | exact Msg.get_fHeads (by first | exact oK  | exact hok) | exact vL) ?_
 refine Tr.call4 rfl rfl rfl rfl rfl Body107 (put_digests (some ⟨q25, 0, none⟩) (1 + szN m.fHeight.toNat) c25 ([1] ++ Au m.fHeight) m.fHeads D.dHeads (by simp [Aq]; omega) (fun e => by cases e) oM oM) (fun w h => ⟨SeesP.of (Ap h mM), rows_ext h rfl hW.fHeads⟩) ?_
 rintro v32 out32 ⟨q32, c32, rfl, hc32, rfl⟩
 refine Tr.a rfl rfl rfl ?_
 refine Tr.nil (Aa (Sat.seq (Sat.seq (Sat.region ?_))))
 refine Tr.m rfl rfl rfl ?_
 refine Tr.and_i64 rfl rfl rfl rfl ?_
 refine Tr.nei rfl rfl rfl rfl (show (!decide _) = false from congrArg not (decide_eq_true dE)) ?_
 refine Tr.nil (Aa ?_)
 refine Sat.cond_f rfl (rfl) ?_
 refine Sat.skip (Aa (Sat.seq (Sat.seq (Sat.region ?_))))
 refine Tr.m rfl rfl rfl ?_
 refine Tr.and_i64 rfl rfl rfl rfl ?_
 refine Tr.nei rfl rfl rfl rfl (show (!decide _) = false from congrArg not (decide_eq_true dE)) ?_
 refine Tr.nil (Aa ?_)
 refine Sat.cond_f rfl (rfl) ?_
 refine Sat.skip (Aa (Sat.seq (Sat.seq (Sat.region ?_))))
 refine Tr.m rfl rfl rfl ?_
 refine Tr.and_i64 rfl rfl rfl rfl ?_
 refine Tr.nei rfl rfl rfl rfl (show (!decide _) = false from congrArg not (decide_eq_true dE)) ?_
 refine Tr.nil (Aa ?_)
 refine Sat.cond_f rfl (rfl) ?_
 refine Sat.skip (Aa (Sat.seq (Sat.seq (Sat.region ?_))))
 refine Tr.m rfl rfl rfl ?_
 refine Tr.and_i64 rfl rfl rfl rfl ?_
 refine Tr.nei rfl rfl rfl rfl (show (!decide _) = false from congrArg not (decide_eq_true dE)) ?_
 refine Tr.nil (Aa ?_)
 refine Sat.cond_f rfl (rfl) ?_
 refine Sat.skip (Aa (Sat.seq (Sat.seq (Sat.region ?_))))
 refine Tr.m rfl rfl rfl ?_
 refine Tr.and_i64 rfl rfl rfl rfl ?_
 refine Tr.nei rfl rfl rfl rfl (show (!decide _) = false from congrArg not (decide_eq_true dE)) ?_
 refine Tr.nil (Aa ?_)
 refine Sat.cond_f rfl (rfl) ?_
 refine Sat.skip (Aa (Sat.seq (Sat.region ?_)))
 refine Tr.m rfl rfl rfl ?_
 refine Tr.a rfl rfl rfl ?_
 refine Tr.a rfl rfl rfl ?_
 refine Tr.nil (Aa (Sat.ret (Am ?_)))
 have hN : (helloB D).length = 1 + szN m.fHeight.toNat + szN m.fHeads.n + m.fHeads.n * 32 := by
  have hfl := Bn hW.fHeads.row (Nat.le_refl D.dHeads.length)
  rw [List.take_length] at hfl
  simp only [helloB, List.length_append, Aq, hfl, ← hW.fHeight, hhl, A1 (n := m.fHeads.n) oM, List.length_cons, List.length_nil]
 have hE : [1] ++ Au m.fHeight ++ Au (UInt64.ofNat m.fHeads.n) ++ D.dHeads.flatten = helloB D := by rw [helloB, hW.fHeight, hhl]
 refine ⟨_, [⟨q32, Ab (helloB D), 5, c32 * 1⟩], Ba rfl rfl rfl, (by intro b hb; rw [List.mem_singleton.1 hb, ← hE]; exact mem0), Bz, ⟨q32, c32, by rw [hN], by rw [hN]; exact hc32, rfl⟩⟩

theorem law25_lives  : Meets Tryz.prog 23 [] [] (fun _ => True) (fun v out => v = .bool true ∧ out = []) := by
 intro W hW
 refine An Tryz.func23 rfl 20 Tryz.ntmps23 rfl ?_
 refine Sat.seq (Sat.region ?_)
 refine Tr.a rfl rfl rfl ?_
 refine Tr.nil (Aa (Sat.seq (Sat.region ?_)))
 refine Tr.build (cs := (mz 1 3).cells) rfl rfl rfl (fun w => by kernel_rfl) ?_
 refine Tr.call4 rfl rfl rfl rfl rfl Body28 (bytes_hello (mz 1 3) (dz 1 3) rfl mz_hello dE) (fun w h => mz_is 1 3 rfl) ?_
 rintro v5 out5 ⟨q5, c5, rfl, hc5, rfl⟩
 refine Tr.m rfl rfl rfl ?_
 refine Tr.eX rfl rfl rfl rfl ?_
 refine Tr.eX rfl rfl rfl rfl ?_
 refine Tr.a rfl rfl rfl ?_
 refine Tr.a rfl rfl rfl ?_
 refine Tr.nil (Aa (Sat.seq (Sat.region ?_)))
 refine Tr.m rfl rfl rfl ?_
 refine Tr.eqi rfl rfl rfl rfl (decide_eq_true (rfl)) ?_
 refine Tr.m rfl rfl rfl ?_
 refine Tr.m rfl rfl rfl ?_
 refine Tr.toStr rfl rfl rfl Y58 Y5 Y9 (fun w h => SeesP.of (Ap h mM)) rfl ?_
 refine Tr.eql_str rfl rfl rfl rfl (decide_eq_true (hello_ex)) ?_
 refine Tr.pick rfl rfl rfl rfl rfl rfl ?_
 refine Tr.m rfl rfl rfl ?_
 refine Tr.build (cs := (mz 3 0).cells) rfl rfl rfl (fun w => by kernel_rfl) ?_
 refine Tr.cV rfl rfl rfl rfl Body34 (msg_check (mz 3 0) (dz 3 0)) (fun w h => mz_is 3 0 rfl) ?_
 refine Tr.eqi rfl rfl rfl rfl (decide_eq_true (by rw [mz_blocks])) ?_
 refine Tr.pick rfl rfl rfl rfl rfl rfl ?_
 refine Tr.a rfl rfl rfl ?_
 refine Tr.nil (Aa (Sat.ret (Am ?_)))
 refine ⟨_, [], Ae rfl rfl, sP, sP, ?_, rfl⟩
 rfl

end Go.Proofs.YtdifpjmfabhpiaaGreat
end

section
namespace Hw
open Go Go.RowKit

def MeetsD (P : Program) (f : FuncId) (args : List Value) (lent : List Nat) (Pre : World → Prop) (R : Value → List Blk → Prop) : Prop :=
  ∀ W, Pre W → ∀ u, CallsD P f args.toArray u W fun e u' W' => u' = u ∧ ∃ v out, e = .returned v ∧ R v out ∧ Ret lent out W W'

theorem callsD_of {P : Program} {f : FuncId} {fn : Func} {code : Code} {args : List Value} {W : World} {u : FrameMode} {lent : List Nat} {hp0 : List Blk} {R : Value → List Blk → Prop}
    (hf : P.funcs[f]? = some fn) (hb : fn.body = some code) (N : Nat) (hN : fn.ntmps = N) (hlen : Nat.ble args.length N = true)
    (hh : HRep ⟨P, W, N, lent, [], []⟩ hp0 W)
    (h : Sat ⟨P, W, N, lent, [], []⟩ code ⟨argSlots 0 args, hp0⟩ (endQ ⟨P, W, N, lent, [], []⟩ fn R)) :
    CallsD P f args.toArray u W fun e u' W' => u' = u ∧ ∃ v out, e = .returned v ∧ R v out ∧ Ret lent out W W' := by
  have hlen := Nat.le_of_ble_eq_true hlen
  subst hN
  refine callsD_of_wp hf hb (wp_mono (h _ _ ⟨⟨?_, rfl, fun t v ht => ?_⟩, hh⟩) fun e a' w' ⟨s', r', q⟩ => ?_)
  · simp; omega
  · have := argSlots_look args 0 t v ht
    rw [Array.getElem?_append]
    have hlt : t < args.length := by
      rcases Nat.lt_or_ge t args.length with h1 | h1
      · exact h1
      · rw [List.getElem?_eq_none oM] at this; cases this.2
    simp only [List.size_toArray]
    rw [if_pos hlt]
    simpa using this.2
  · have fin : (∃ v out, Res ⟨P, W, fn.ntmps, lent, [], []⟩ fn s' v ∧ (∀ b ∈ out, b ∈ s'.hp) ∧ ((s'.hp.map (·.n)).Nodup → (out.map (·.n)).Nodup) ∧ R v out) →
        a'.defers = [] ∧ ∃ v, (results fn a'.tmps).run P w' = .ok v w' ∧ ∃ v' out, Ending.returned v = .returned v' ∧ R v' out ∧ Ret lent out W w' := by
      rintro ⟨v, out, hr, hsub, hnd, hR⟩
      exact ⟨r'.rs.defers, v, hr a' w' r', v, out, rfl, hR, r'.rh.keeps, fun b hb => r'.rh.cells b (hsub b hb), hnd r'.rh.nodup, fun b hb => r'.rh.own b (hsub b hb)⟩
    cases e with
    | normal => exact fin q
    | ret => exact fin q
    | _ => exact q.elim

theorem res_cell_cell {C : Cx} {fn : Func} {s : St} {t t2 : Tmp} {T T2 : TypeId} {td td2 : TypeDesc} {n b b2 : Nat} {cs cs2 : List Value} {BT BT2 : TypeId} {m m2 : Nat} {v2 : Value} (hr : fn.results = #[.cell t T, .cell t2 T2]) (hv : look s.sl t = some (ptr b 0)) (hv2 : look s.sl t2 = some (ptr b2 0)) (hu : C.P.underlying T = some td) (hp' : Br td = false) (hs : Sz C.P T n) (hb : (⟨b, cs, BT, m⟩ : Blk) ∈ s.hp) (hn : cs.length = n)
    (hu2 : C.P.underlying T2 = some td2) (hp2 : Br td2 = true) (hb2 : (⟨b2, v2 :: cs2, BT2, m2⟩ : Blk) ∈ s.hp) : Res C fn s (.tuple #[agg cs, v2]) := by
  intro a w r
  have h1 := r.rs.slots t _ hv
  have h2 := r.rs.slots t2 _ hv2
  have h3 : w.cell? ⟨b2, 0, none⟩ = some v2 := (r.rh.cells _ hb2).cell (o := 0) rfl
  have k1 := run_cellAll r.rh hu hp' hs hb hn
  have k2 : (loadVar T2 ⟨b2, 0, none⟩).run C.P w = .ok v2 w := by simp [loadVar, run_isAgg_plain hu2 hp2, load, Sem.run, h3]
  simp [results, hr, h1, h2, asAddr, k1, k2]

abbrev dfr (g : Nat) (cap : Array Value) : Deferred := { target := .fn (.func g) cap, args := #[] }

def endAtD (C : Cx) (g : Nat) (cap : Array Value) (fn : Func) (R : Value → List Blk → Prop) (s : St) : Prop :=
  ∃ (lent : List Nat) (L keep : List Blk) (Pre : World → Prop) (R' : Value → List Blk → Prop), s.hp.Perm (L ++ keep) ∧ (∀ n ∈ lent, ∃ b ∈ L, b.n = n) ∧ MeetsD C.P g cap.toList lent Pre R' ∧ (∀ w, HRep C s.hp w → Pre w) ∧ ∀ v' out', R' v' out' → endAt C fn R ⟨s.sl, out' ++ keep⟩
def endQD (C : Cx) (g : Nat) (cap : Array Value) (fn : Func) (R : Value → List Blk → Prop) : Exit → St → Prop
  | .normal, s | .ret, s => endAtD C g cap fn R s
  | _, _ => False
theorem enD_r {C : Cx} {g : Nat} {cap : Array Value} {fn : Func} {R : Value → List Blk → Prop} {s : St} (h : endAtD C g cap fn R s) : endQD C g cap fn R .ret s := h

theorem run_defer {P : Program} {ρ : Operand → Value} {w : World} {x : Operand} {g : Nat} {cap : Array Value} {ty : TypeId} {pos : String} {af : Array Edge} (hx : ρ x = .func (.func g) #[] cap) :
    (execOp ρ ⟨none, .defer ⟨.value x, #[], #[]⟩, ty, pos, af, none⟩).run P w = .ok (.defer (dfr g cap)) w := by
  simp [execOp, resolve, hx, Deferred.ofValue]

theorem calls_defer {P : Program} {f : FuncId} {fn : Func} {r0 rest : Code} {id : Nat} {o0 : Oper} {x : Operand} {ty : TypeId} {pos : String} {af : Array Edge} {args : List Value} {W : World} {R : Value → List Blk → Prop}
    (hf : P.funcs[f]? = some fn) (hb : fn.body = some (.seq r0 (.seq (.region id [o0, ⟨none, .defer ⟨.value x, #[], #[]⟩, ty, pos, af, none⟩].toArray false) rest))) (N : Nat) (hN : fn.ntmps = N) (hlen : Nat.ble args.length N = true)
    (h : Sat ⟨P, W, N, [], [], []⟩ r0 ⟨argSlots 0 args, []⟩ (thenQ (fun s => Tr ⟨P, W, N, [], [], []⟩ [o0, ⟨none, .defer ⟨.value x, #[], #[]⟩, ty, pos, af, none⟩].toArray [(4, o0)] s (fun s' => ∃ g cap, Aj s'.sl x = some (.func (.func g) #[] cap) ∧ A4 P g ∧
      Sat ⟨P, W, N, [], [], [dfr g cap]⟩ rest s' (endQD ⟨P, W, N, [], [], [dfr g cap]⟩ g cap fn R))) (fun _ _ => False))) :
    Calls P f args.toArray W fun e W' => ∃ v out, e = .returned v ∧ R v out ∧ Ret [] out W W' := by
  have hlen := Nat.le_of_ble_eq_true hlen
  subst hN
  refine calls_of_wp_defers hf hb ?_
  have rep0 : Rep ⟨P, W, fn.ntmps, [], [], []⟩ ⟨argSlots 0 args, []⟩ { tmps := args.toArray ++ Array.replicate (fn.ntmps - args.toArray.size) undef, defers := [] } W := by
    refine ⟨⟨?_, rfl, fun t v ht => ?_⟩, HRep.nil _⟩
    · simp; omega
    · have := argSlots_look args 0 t v ht
      rw [Array.getElem?_append]
      have hlt : t < args.length := by
        rcases Nat.lt_or_ge t args.length with h1 | h1
        · exact h1
        · rw [List.getElem?_eq_none oM] at this; cases this.2
      simp only [List.size_toArray]
      rw [if_pos hlt]
      simpa using this.2
  refine wp_seq (wp_mono (h _ _ rep0) fun e a w ⟨s, r, q⟩ => ?_)
  cases e with
  | normal =>
    refine wp_seq (wp_region ?_)
    simp only [List.toArray, Array.size]
    show wpOps P _ _ [0, 1] a w
    rw [wpOps_cons]
    refine Tr.step (C := ⟨P, W, fn.ntmps, [], [], []⟩) (c := 4) (o := o0) (by rfl) q a w r _ (fun s1 a1 w1 r1 k1 => ?_) _
    rw [wpOps_cons]
    cases k1 with
    | dup h => exact absurd r1.rh.nodup h
    | nil h =>
      obtain ⟨g, cap, hx, hbody, hrest⟩ := h
      have hex := run_defer (P := P) (ρ := a1.eval) (w := w1) (ty := ty) (pos := pos) (af := af) (r1.rs.eval hx)
      have hw : wantS [o0, ⟨none, .defer ⟨.value x, #[], #[]⟩, ty, pos, af, none⟩].toArray s1.sl ⟨none, .defer ⟨.value x, #[], #[]⟩, ty, pos, af, none⟩ = some true := rfl
      unfold wpOp
      have hi : [o0, (⟨none, .defer ⟨.value x, #[], #[]⟩, ty, pos, af, none⟩ : Oper)].toArray[1]? = some ⟨none, .defer ⟨.value x, #[], #[]⟩, ty, pos, af, none⟩ := rfl
      simp only [hi, wantS_ok r1.rs hw, if_true]
      refine .inl ?_
      unfold Oper.wp
      rw [hex, Oper.upon_defer]
      have r2 : Rep ⟨P, W, fn.ntmps, [], [], [dfr g cap]⟩ s1 ({ a1 with defers := dfr g cap :: a1.defers }.put none undef) w1 := by
        refine ⟨⟨r1.rs.size, ?_, r1.rs.slots⟩, r1.rh.cells, r1.rh.nodup, r1.rh.own, r1.rh.keeps, r1.rh.kok, r1.rh.kd⟩
        show dfr g cap :: a1.defers = _
        rw [r1.rs.defers]
      show wpOps P _ _ [] _ _
      refine wp_mono (hrest _ _ r2) fun e a3 w3 ⟨s3, r3, q3⟩ => ?_
      have fin : endAtD ⟨P, W, fn.ntmps, [], [], [dfr g cap]⟩ g cap fn R s3 → Leaves P fn a3.tmps (fun e W' => ∃ v out, e = .returned v ∧ R v out ∧ Ret [] out W W') a3.defers .returning w3 := by
        rintro ⟨lent, L, keep, Pre, R', hsp, hl, hc, hpre, hk⟩
        rw [show a3.defers = [dfr g cap] from r3.rs.defers]
        refine leaves_cons (f := g) (args := cap.toList.toArray) (fun h => by cases h) ?_ ?_
        · have := hbody (#[] ++ cap) w3
          simpa [invoke] using this
        · refine (hc w3 (hpre w3 r3.rh) .returning).mono fun e u' w4 ⟨hu, v', out', he, hR', hret⟩ => ?_
          subst hu; subst he
          have r4 : Rep ⟨P, W, fn.ntmps, [], [], [dfr g cap]⟩ ⟨s3.sl, out' ++ keep⟩ a3 w4 := ⟨r3.rs, r3.rh.lentRet hsp hl hret⟩
          obtain ⟨v, out, hr, hsub, hnd, hR⟩ := hk v' out' hR'
          exact ⟨v, hr a3 w4 r4, v, out, rfl, hR, r4.rh.keeps, fun b hb => r4.rh.cells b (hsub b hb), hnd r4.rh.nodup, fun b hb => r4.rh.own b (hsub b hb)⟩
      cases e with
      | normal => exact fin q3
      | ret => exact fin q3
      | _ => exact q3.elim
  | _ => exact q.elim
end Hw
end

section
namespace Go.Proofs.YtdifpjmfabhpiaaGreat
open Go Hw

def DCut.zero : DCut := ⟨0, List.replicate 32 0, []⟩
def cutP (xs : List UInt8) : DCut × Nat × Int :=
  let r1 := Bg xs 0 0
  let r2 := digR xs r1.2.1 r1.2.2
  let r3 := Bg xs r2.2.1 r2.2.2
  let r4 := Bs xs (min r3.1.toNat 33) r3.2.1 r3.2.2
  (⟨r1.1, r2.1, r4.1⟩, r4.2)
def cutRd (xs : List UInt8) : DCut × Int :=
  if endR xs.length (cutP xs).2.1 (cutP xs).2.2 = 0 ∧ (cutP xs).1.check = 0 then ((cutP xs).1, 0) else (DCut.zero, 4)
theorem cutz_is (W : World) : CutIs W Cut.zero DCut.zero := ⟨Cut.zero_ok, rfl, rfl, rows_none⟩
def CutRead (xs : List UInt8) (v : Value) (out : List Blk) : Prop := ∃ C : Cut, C.ok ∧ v = .tuple #[agg C.cells, i64 (cutRd xs).2] ∧ ∀ W2, Lies out W2 → CutIs W2 C (cutRd xs).1
theorem cut_bad {xs : List UInt8} {out : List Blk} (h : ¬ (endR xs.length (cutP xs).2.1 (cutP xs).2.2 = 0 ∧ (cutP xs).1.check = 0)) : CutRead xs (.tuple #[agg Cut.zero.cells, i64 4]) out := by
  refine ⟨Cut.zero, Cut.zero_ok, ?_, fun W2 _ => ?_⟩ <;> rw [show cutRd xs = (DCut.zero, 4) from if_neg h]
  exact cutz_is W2
theorem cut_ok {xs : List UInt8} {out : List Blk} {C : Cut} (h : endR xs.length (cutP xs).2.1 (cutP xs).2.2 = 0 ∧ (cutP xs).1.check = 0) (hok : C.ok) (hC : ∀ W2, Lies out W2 → CutIs W2 C (cutP xs).1) : CutRead xs (.tuple #[agg C.cells, i64 0]) out := by
  refine ⟨C, hok, ?_, fun W2 h2 => ?_⟩ <;> rw [show cutRd xs = ((cutP xs).1, 0) from if_pos h]
  exact hC W2 h2

theorem cut_r1_ok (b c : Nat) (X : Cut) (hX : X.ok) (hbc : b ≠ c) : MeetsD Tryz.prog 175 [ptr b 0, ptr c 0] [b, c] (fun W => BlkOk W ⟨b, [i64 0], 32, 1⟩ ∧ BlkOk W ⟨c, (X).cells, 53, 34⟩) (fun v out => v = .tuple #[] ∧ out = [⟨b, [i64 0], 32, 1⟩, ⟨c, (X).cells, 53, 34⟩]) := by
 intro W hW
 intro u
 refine callsD_of (hp0 := [⟨b, [i64 0], 32, 1⟩, ⟨c, (X).cells, 53, 34⟩]) Tryz.func175 rfl 5 Tryz.ntmps175 rfl (HRep.two hW.1 hW.2 hbc) ?_
 refine Sat.seq (Sat.region ?_)
 refine Tr.load1 rfl rfl rfl Y32 rfl mM (by first | rfl | exact Az (by first | omega | (simp [hX.l_fPrev]; done) | (simp [hX.l_fPrev]; omega)) | exact A9 (by first | omega | (simp [hX.l_fPrev]; done) | (simp [hX.l_fPrev]; omega)) | exact Bp (by first | omega | (simp [hX.l_fPrev]; done) | (simp [hX.l_fPrev]; omega))) ?_
 refine Tr.nei rfl rfl rfl rfl (show (!decide _) = false from congrArg not (decide_eq_true dE)) ?_
 refine Tr.nil (Aa ?_)
 refine Sat.cond_f rfl (rfl) ?_
 refine Sat.skip (en_n ?_)
 refine Ak (out := (⟨b, [i64 0], 32, 1⟩ :: (⟨c, (X).cells, 53, 34⟩ :: []))) (res_none rfl) (Ac rM (Ac rM Ad)) ?_
 exact ⟨rfl, rfl⟩

theorem cut_r1_bad (b c : Nat) (X : Cut) (hX : X.ok) (hbc : b ≠ c) : MeetsD Tryz.prog 175 [ptr b 0, ptr c 0] [b, c] (fun W => BlkOk W ⟨b, [i64 4], 32, 1⟩ ∧ BlkOk W ⟨c, (X).cells, 53, 34⟩) (fun v out => v = .tuple #[] ∧ out = [⟨b, [i64 4], 32, 1⟩, ⟨c, (Cut.zero).cells, 53, 34⟩]) := by
 intro W hW
 intro u
 refine callsD_of (hp0 := [⟨b, [i64 4], 32, 1⟩, ⟨c, (X).cells, 53, 34⟩]) Tryz.func175 rfl 5 Tryz.ntmps175 rfl (HRep.two hW.1 hW.2 hbc) ?_
 refine Sat.seq (Sat.region ?_)
 refine Tr.load1 rfl rfl rfl Y32 rfl mM (by first | rfl | exact Az (by first | omega | (simp [hX.l_fPrev]; done) | (simp [hX.l_fPrev]; omega)) | exact A9 (by first | omega | (simp [hX.l_fPrev]; done) | (simp [hX.l_fPrev]; omega)) | exact Bp (by first | omega | (simp [hX.l_fPrev]; done) | (simp [hX.l_fPrev]; omega))) ?_
 refine Tr.nei rfl rfl rfl rfl (show (!decide _) = true from congrArg not (decide_eq_false dE)) ?_
 refine Tr.nil (Aa ?_)
 refine Sat.cond_t rfl (rfl) ?_
 refine Sat.region ?_
 refine Tr.build (cs := Cut.zero.cells) rfl rfl rfl (fun w => by kernel_rfl) ?_
 refine Tr.sA rfl rfl rfl rfl (Cut.isCell (by first | (simp [hX.l_fPrev]; done) | exact oK  | exact hX)) Ca (Cut.length (by first | (simp [hX.l_fPrev]; done) | exact oK  | exact hX)) mM (Cut.length (by first | (simp [hX.l_fPrev]; done) | exact oK  | exact hX)) uU ?_
 refine Tr.nil (en_n ?_)
 refine Ak (out := (⟨b, [i64 4], 32, 1⟩ :: (⟨c, (Cut.zero).cells, 53, 34⟩ :: []))) (res_none rfl) (Ac rM (Ac rM Ad)) ?_
 exact ⟨rfl, rfl⟩

theorem cut_read (a : Option Addr) (n c : Nat) (xs : List UInt8) (hl : xs.length = n) (hp : a = none → n = 0) (hn : n ≤ 90000) : Meets Tryz.prog 79 [.slice a n c] [] (fun W => SeesP W a (Ab xs)) (CutRead xs) := by
 intro W hW
 obtain ⟨x1, r1, h1⟩ : ∃ l r, Bg xs 0 0 = (l, r) := ⟨_, _, rfl⟩
 obtain ⟨a1, e1⟩ := r1
 obtain ⟨l2, r2, h2⟩ : ∃ l r, digR xs a1 e1 = (l, r) := ⟨_, _, rfl⟩
 obtain ⟨a2, e2⟩ := r2
 obtain ⟨x3, r3, h3⟩ : ∃ l r, Bg xs a2 e2 = (l, r) := ⟨_, _, rfl⟩
 obtain ⟨a3, e3⟩ := r3
 obtain ⟨ls, r4, h4⟩ : ∃ l r, Bs xs (min x3.toNat 33) a3 e3 = (l, r) := ⟨_, _, rfl⟩
 obtain ⟨a4, e4⟩ := r4
 have hcp : cutP xs = (⟨x1, l2, ls⟩, a4, e4) := by simp only [cutP, h1, h2, h3, h4]
 have hd1 := numE_le h1 hl (Nat.zero_le _)
 have hd2 := digE_le h2 hl hd1
 have hd3 := numE_le h3 hl hd2.1
 have hd4 := digsR_at (e := e3) hl hd3 (min x3.toNat 33)
 rw [h4] at hd4
 have ok1 : ({ Cut.zero with fHeight := x1 } : Cut).ok := ⟨rfl⟩
 have ok2 : ({ Cut.zero with fHeight := x1, fPrev := l2 } : Cut).ok := ⟨hd2.2⟩
 have okX : ∀ s, ({ Cut.zero with fHeight := x1, fPrev := l2, fHeads := s } : Cut).ok := fun s => ⟨hd2.2⟩
 refine calls_defer Tryz.func79 rfl 37 Tryz.ntmps79 rfl ?_
 refine Sat.region ?_
 refine Tr.alloc (cs := Cut.zero.cells) rfl Cut.zr rfl ?_
 intro n2 hn2 hf2
 refine Tr.alloc (cs := [i64 0]) rfl Zr32 rfl ?_
 intro n3 hn3 hf3
 refine Tr.nil (Aa ?_)
 refine Tr.makeFunc rfl rfl rfl rfl ?_
 refine Tr.nil ?_
 refine ⟨_, _, rfl, Body175, ?_⟩
 refine Sat.seq (Sat.region ?_)
 refine Tr.m rfl rfl rfl ?_
 refine Tr.call4 rfl rfl rfl rfl rfl Body91 (oct_Read a n c xs hl hp hn) (fun w h => Aw h rfl hW) ?_
 rintro v7 out7 ⟨n7, q7, cp7, rfl, hcp7, rfl⟩
 refine Tr.nd (fun hnd => ?_)
 have hne : q7 ≠ n7 := by intro e; simp [RB, e] at hnd
 have hn32 : n3 ≠ n2 := by intro e; simp [RB, e] at hnd
 clear hnd
 refine Tr.a rfl rfl rfl ?_
 refine Tr.nil (Aa (Sat.seq (Sat.region ?_)))
 refine Tr.m rfl rfl rfl ?_
 refine Tr.callL (L := [RB n7 q7 n cp7 0 0]) rfl rfl rfl rfl rfl Body94 (rd_NumberE n7 q7 n cp7 0 0 xs hl (Nat.zero_le _) hcp7 oM x1 a1 e1 h1) (Ac rM Ad) (A0 rfl) (fun w h => ⟨Ai h mM, Ap h mM, hne⟩) ?_
 rintro v9 out9 ⟨rfl, rfl⟩
 refine Tr.m rfl rfl rfl ?_
 refine Tr.callL (L := [RB n7 q7 n cp7 a1 e1]) rfl rfl rfl rfl rfl Body173 (rd_DigestE n7 q7 n cp7 a1 e1 xs hl hd1 hcp7 oM l2 a2 e2 h2) (Ac rM Ad) (A0 rfl) (fun w h => ⟨Ai h mM, Ap h mM, hne⟩) ?_
 rintro v9 out9 ⟨rfl, rfl⟩
 refine Tr.fld rfl rfl rfl Y53 rfl B1 dE _ rfl ?_
 refine Tr.s1 rfl rfl rfl rfl rfl B1 mM (by rw [Cut.length (by first | (simp [hd2.2]; done) | exact oK  | exact okX _ | exact ok1 | exact ok2)]; decide) (Cut.set_fHeight (by first | (simp [hd2.2]; done) | exact oK  | exact okX _ | exact ok1 | exact ok2) _) uU ?_
 refine Tr.fld rfl rfl rfl Y53 rfl Bb dE _ rfl ?_
 refine Tr.storeN (Ab _) rfl rfl rfl rfl rfl cB Bb (by simp [hd2.2]) mM (by rw [Cut.length (by first | (simp [hd2.2]; done) | exact oK  | exact okX _ | exact ok1 | exact ok2)]; simp [hd2.2]) (Cut.upd_fPrev (by first | (simp [hd2.2]; done) | exact oK  | exact okX _ | exact ok1 | exact ok2) _ (by simp [hd2.2])) uU ?_
 refine Tr.nil (Aa (Sat.seq (Sat.seq (Sat.region ?_))))
 refine Tr.m rfl rfl rfl ?_
 refine Tr.callL (L := [RB n7 q7 n cp7 a2 e2]) rfl rfl rfl rfl rfl Body94 (rd_NumberE n7 q7 n cp7 a2 e2 xs hl hd2.1 hcp7 oM x3 a3 e3 h3) (Ac rM Ad) (A0 rfl) (fun w h => ⟨Ai h mM, Ap h mM, hne⟩) ?_
 rintro v9 out9 ⟨rfl, rfl⟩
 refine Tr.min2 rfl rfl rfl rfl (show Value.int .u64 (if (33 : Int) < (x3.toNat : Int) then 33 else (x3.toNat : Int)) = .int .u64 ((min x3.toNat 33 : Nat) : Int) from by congr 1; split <;> omega) ?_
 refine Tr.m rfl rfl rfl ?_
 refine Tr.nil (Aa (Sat.block ?_))
 refine Sat.loop (ι := Nat × Sl × List Blk) (fun p => ⟨[(2, ptr n2 0), (3, ptr n3 0), (4, ptr n7 0), (16, .int .u64 ((min x3.toNat 33 : Nat) : Int)), (17, u64 (UInt64.ofNat p.1))], (RB n7 q7 n cp7 (Bs xs p.1 a3 e3).2.1 (Bs xs p.1 a3 e3).2.2 :: (⟨q7, Ab xs, 5, cp7 * 1⟩ :: (⟨n3, [i64 0], 32, 1⟩ :: (⟨n2, (({ Cut.zero with fHeight := x1, fPrev := l2, fHeads := p.2.1 } : Cut)).cells, 53, 34⟩ :: (p.2.2 ++ [])))))⟩) (fun p => p.1 ≤ min x3.toNat 33 ∧ Acc p.2.1 p.2.2 (B5 (Bs xs p.1 a3 e3).1) 50 p.1 32) (fun p => min x3.toNat 33 - p.1) ((0, Sl.nil, [])) ?_ ?_ ?_
 · exact ⟨Nat.zero_le _, Acc.none⟩
 · exact Af (wk1 rfl (wk1 rfl (wk1 rfl (wk1 rfl (wk1 rfl wk0))))) (Ac rM (Ac rM (Ac rM (Ac rM (Bl Ad)))))
 ·
  rintro p ⟨hp1, hac⟩
  have hD := digsR_at (e := e3) hl hd3 p.1
  obtain ⟨l5, r5, hd5⟩ : ∃ l r, digR xs (Bs xs p.1 a3 e3).2.1 (Bs xs p.1 a3 e3).2.2 = (l, r) := ⟨_, _, rfl⟩
  obtain ⟨a5, e5⟩ := r5
  have hdl := digE_le hd5 hl hD.1
  have hs := digsR_succ hd5
  have hj64 : (UInt64.ofNat p.1).toNat = p.1 := A1 oM
  refine Sat.seq (Sat.region ?_)
  refine Tr.lss rfl rfl rfl rfl rfl ?_
  refine Tr.nil (Aa (Sat.seq ?_))
  first
   | refine Sat.condP rfl (fun hc0 => ?_) (fun hc0 => ?_)
   | refine Sat.condNP rfl (fun hc0 => ?_) (fun hc0 => ?_)
   | refine Sat.cond rfl (fun hc0 => ?_) (fun hc0 => ?_)
  ·
   have hp3 : p.1 < min x3.toNat 33 := by omega
   refine Sat.skip (Aa (Sat.seq (Sat.block ?_)))
   refine Sat.drawK (sp_v (sp_v (sp_v (sp_k (sp_x sp_n))))) rfl [(0, 0), (0, 1), (0, 2), (4, 3), (2, 4), (4, 5), (0, 6)] [(4, 7)] Bv zK zK ?_
   refine Tr.fld rfl rfl rfl Y53 rfl Sz51 dE _ rfl ?_
   refine Tr.kload1 rfl rfl rfl Y51 rfl mM (by first | exact Cut.get_fHeads (by first | (simp [hd2.2]; done) | exact oK  | exact okX _ | exact ok1 | exact ok2) | exact (by first | rfl | exact Az (by first | omega | (simp [hd2.2]; done) | (simp [hd2.2]; omega)) | exact A9 (by first | omega | (simp [hd2.2]; done) | (simp [hd2.2]; omega)) | exact Bp (by first | omega | (simp [hd2.2]; done) | (simp [hd2.2]; omega)))) ?_
   refine Tr.m rfl rfl rfl ?_
   refine Tr.callL (L := [RB n7 q7 n cp7 (Bs xs p.1 a3 e3).2.1 (Bs xs p.1 a3 e3).2.2]) rfl rfl rfl rfl rfl Body173 (rd_DigestE n7 q7 n cp7 (Bs xs p.1 a3 e3).2.1 (Bs xs p.1 a3 e3).2.2 xs hl hD.1 hcp7 oM l5 a5 e5 hd5) (Ac rM Ad) (A0 rfl) (fun w h => ⟨Ai h mM, Ap h mM, hne⟩) ?_
   rintro v9 out9 ⟨rfl, rfl⟩
   refine Tr.mkRow2 (z := agg (Ab (List.replicate 32 0))) [agg (Ab l5)] (Ab l5) rfl rfl Y51 Bb Zr50 rfl rfl (by intro v hv; rw [List.mem_singleton.1 hv]; simp [Value.cells, hdl.2]) dE (by simp [Value.cells]) ?_
   intro q23
   refine Tr.appendAcc (z := agg (Ab (List.replicate 32 0))) (by' := 32) (Ab l5) rfl rfl rfl rfl rfl Y51 Y51 Bb Zr50 (by unfold By; kernel_rfl) rfl hac sG (fun w h => SeesP.of (Ap h mM)) (fun e => by cases e) (Bc _) oM oM (by simp [Ab, hdl.2]) ?_
   intro s24 bl24 hac24
   refine Tr.fld rfl rfl rfl Y53 rfl Sz51 dE _ rfl ?_
   refine Tr.nil ?_
   refine Tr.s1 rfl rfl rfl rfl rfl Sz51 mM (by rw [Cut.length (by first | (simp [hd2.2]; done) | exact oK  | exact okX _ | exact ok1 | exact ok2)]; decide) (by first | exact Cut.set_fHeads (by first | (simp [hd2.2]; done) | exact oK  | exact okX _ | exact ok1 | exact ok2) _ | exact Cut.setS_fHeads (by first | (simp [hd2.2]; done) | exact oK  | exact okX _ | exact ok1 | exact ok2) _ _ _) uU ?_
   refine Tr.nil (B2 (Aa (Sat.region ?_)))
   refine Tr.add_u64 rfl rfl rfl (show Aj _ _ = some (u64 1) from rfl) ?_
   refine Tr.m rfl rfl rfl ?_
   refine Tr.nil (Aa ?_)
   refine ⟨(p.1 + 1, s24, bl24), ⟨by simp only []; omega, ?_⟩, by simp only []; omega, Af (wk1 rfl (wk1 rfl (wk1 rfl (wk1 rfl (wk1 (congrArg (fun z => some (u64 z)) (ofNat_step _)) wk0))))) (pm_consE rM (by simp only [hs]) rfl (Ac rM (Ac rM (Ac rM (Ah sG Ad)))))⟩
   simp only [hs]
   rw [flatB_append]
   simpa [B5] using hac24
  ·
   have hp3 : p.1 = min x3.toNat 33 := by omega
   rw [hp3, h4] at hac
   rw [hp3, h4]
   refine Sat.exit (Bf (Bf (bl_h (Aa (Sat.seq (Sat.seq (Sat.region ?_)))))))
   refine Tr.m rfl rfl rfl ?_
   refine Tr.cV rfl rfl rfl rfl Body105 (rd_End n7 q7 n cp7 a4 e4 hd4.1 oM) (fun w h => Ai h mM) ?_
   refine two (fun r hr k => Tr.nei rfl rfl rfl rfl hr k) (fun hs8_20 => ?_) (fun hs8_20 => ?_)
   ·
    first | have hs8_2 := of_decide_eq_true hs8_20 | have hs8_2 := of_decide_eq_false hs8_20 | have hs8_2 := A2 hs8_20 | have hs8_2 := A3 hs8_20 | have hs8_2 := hs8_20
    refine Tr.m rfl rfl rfl ?_
    refine Tr.skp rfl rfl ?_
    refine Tr.skp rfl rfl ?_
    refine Tr.skp rfl rfl ?_
    refine Tr.pick rfl rfl rfl rfl rfl rfl ?_
    refine Tr.nil (Aa ?_)
    refine Sat.cond_t rfl rfl ?_
    refine Sat.seq (Sat.region ?_)
    refine Tr.lA rfl rfl rfl Y53 rfl Ca mM (Cut.length (by first | (simp [hd2.2]; done) | exact oK  | exact okX _ | exact ok1 | exact ok2)) ?_
    refine Tr.sA rfl rfl rfl rfl (Cut.isCell (by first | (simp [hd2.2]; done) | exact oK  | exact okX _ | exact ok1 | exact ok2)) Ca (Cut.length (by first | (simp [hd2.2]; done) | exact oK  | exact okX _ | exact ok1 | exact ok2)) mM (Cut.length (by first | (simp [hd2.2]; done) | exact oK  | exact okX _ | exact ok1 | exact ok2)) uU ?_
    refine Tr.s1 rfl rfl rfl rfl rfl Sz32 mM (by first | (simp [hd2.2]; done) | (simp [hd2.2]; omega)) sT uU ?_
    refine Tr.nil (Aa (Sat.ret (Ao ?_)))
    refine enD_r ?_
    refine ⟨[n3, n2], [⟨n3, [i64 4], 32, 1⟩, ⟨n2, (({ Cut.zero with fHeight := x1, fPrev := l2, fHeads := p.2.1 } : Cut)).cells, 53, 34⟩], _, _, _, (Ac rM (Ac rM Ad)), A0 rfl, cut_r1_bad n3 n2 (({ Cut.zero with fHeight := x1, fPrev := l2, fHeads := p.2.1 } : Cut)) (okX _) hn32, (fun w h => ⟨Ai h mM, Ai h mM⟩), fun v2 out2 h => ?_⟩
    obtain ⟨rfl, rfl⟩ := h
    refine Ak (out := []) (res_cell_cell rfl rfl rfl Y53 rfl Ca mM (Cut.length (by first | exact okX _ | exact Cut.zero_ok)) Y32 rfl mM) Ad ?_
    exact cut_bad (by rw [hcp, hl]; exact fun h => hs8_2 h.1)
   ·
    first | have hs8_2 := of_decide_eq_true hs8_20 | have hs8_2 := of_decide_eq_false hs8_20 | have hs8_2 := A2 hs8_20 | have hs8_2 := A3 hs8_20 | have hs8_2 := hs8_20
    refine Tr.m rfl rfl rfl ?_
    refine Tr.lA rfl rfl rfl Y53 rfl Ca mM (Cut.length (by first | (simp [hd2.2]; done) | exact oK  | exact okX _ | exact ok1 | exact ok2)) ?_
    refine Tr.cV rfl rfl rfl rfl Body87 (cut_check ({ Cut.zero with fHeight := x1, fPrev := l2, fHeads := p.2.1 } : Cut) ⟨x1, l2, ls⟩) (fun w h => ⟨okX _, rfl, rfl, acc_rows hac (Lies.of h iN) hd4.2.1 (by rw [hd4.2.2]) oM⟩) ?_
    refine Tr.nei rfl rfl rfl rfl rfl ?_
    refine Tr.pick rfl rfl rfl rfl rfl rfl ?_
    refine Tr.nil (Aa ?_)
    first
     | refine Sat.condP rfl (fun hc1 => ?_) (fun hc1 => ?_)
     | refine Sat.condNP rfl (fun hc1 => ?_) (fun hc1 => ?_)
     | refine Sat.cond rfl (fun hc1 => ?_) (fun hc1 => ?_)
    ·
     refine Sat.seq (Sat.region ?_)
     refine Tr.lA rfl rfl rfl Y53 rfl Ca mM (Cut.length (by first | (simp [hd2.2]; done) | exact oK  | exact okX _ | exact ok1 | exact ok2)) ?_
     refine Tr.sA rfl rfl rfl rfl (Cut.isCell (by first | (simp [hd2.2]; done) | exact oK  | exact okX _ | exact ok1 | exact ok2)) Ca (Cut.length (by first | (simp [hd2.2]; done) | exact oK  | exact okX _ | exact ok1 | exact ok2)) mM (Cut.length (by first | (simp [hd2.2]; done) | exact oK  | exact okX _ | exact ok1 | exact ok2)) uU ?_
     refine Tr.s1 rfl rfl rfl rfl rfl Sz32 mM (by first | (simp [hd2.2]; done) | (simp [hd2.2]; omega)) sT uU ?_
     refine Tr.nil (Aa (Sat.ret (Ao ?_)))
     refine enD_r ?_
     refine ⟨[n3, n2], [⟨n3, [i64 4], 32, 1⟩, ⟨n2, (({ Cut.zero with fHeight := x1, fPrev := l2, fHeads := p.2.1 } : Cut)).cells, 53, 34⟩], _, _, _, (Ac rM (Ac rM Ad)), A0 rfl, cut_r1_bad n3 n2 (({ Cut.zero with fHeight := x1, fPrev := l2, fHeads := p.2.1 } : Cut)) (okX _) hn32, (fun w h => ⟨Ai h mM, Ai h mM⟩), fun v2 out2 h => ?_⟩
     obtain ⟨rfl, rfl⟩ := h
     refine Ak (out := []) (res_cell_cell rfl rfl rfl Y53 rfl Ca mM (Cut.length (by first | exact okX _ | exact Cut.zero_ok)) Y32 rfl mM) Ad ?_
     exact cut_bad (by rw [hcp, hl]; exact fun h => hc1 h.2)
    ·
     refine Sat.skip (Aa (Sat.seq (Sat.region ?_)))
     refine Tr.lA rfl rfl rfl Y53 rfl Ca mM (Cut.length (by first | (simp [hd2.2]; done) | exact oK  | exact okX _ | exact ok1 | exact ok2)) ?_
     refine Tr.sA rfl rfl rfl rfl (Cut.isCell (by first | (simp [hd2.2]; done) | exact oK  | exact okX _ | exact ok1 | exact ok2)) Ca (Cut.length (by first | (simp [hd2.2]; done) | exact oK  | exact okX _ | exact ok1 | exact ok2)) mM (Cut.length (by first | (simp [hd2.2]; done) | exact oK  | exact okX _ | exact ok1 | exact ok2)) uU ?_
     refine Tr.s1 rfl rfl rfl rfl rfl Sz32 mM (by first | (simp [hd2.2]; done) | (simp [hd2.2]; omega)) sT uU ?_
     refine Tr.nil (Aa (Sat.ret ?_))
     refine enD_r ?_
     refine ⟨[n3, n2], [⟨n3, [i64 0], 32, 1⟩, ⟨n2, (({ Cut.zero with fHeight := x1, fPrev := l2, fHeads := p.2.1 } : Cut)).cells, 53, 34⟩], _, _, _, (Ac rM (Ac rM Ad)), A0 rfl, cut_r1_ok n3 n2 (({ Cut.zero with fHeight := x1, fPrev := l2, fHeads := p.2.1 } : Cut)) (okX _) hn32, (fun w h => ⟨Ai h mM, Ai h mM⟩), fun v2 out2 h => ?_⟩
     obtain ⟨rfl, rfl⟩ := h
     refine Ak (out := (p.2.2 ++ [])) (res_cell_cell rfl rfl rfl Y53 rfl Ca mM (Cut.length (by first | exact okX _ | exact Cut.zero_ok)) Y32 rfl mM) (Ah sG Ad) ?_
     exact cut_ok (by rw [hcp, hl]; exact ⟨hs8_2, hc1⟩) (okX _) (fun W2 h2 => by
      rw [hcp]
      exact ⟨okX _, rfl, rfl, acc_rows hac (h2.sub in_here) hd4.2.1 (by rw [hd4.2.2]) oM⟩)

end Go.Proofs.YtdifpjmfabhpiaaGreat
end

section
namespace Go.Proofs.YtdifpjmfabhpiaaGreat
open Go Hw

theorem Acc.hrep {P : Program} {W : World} {N : Nat} {s : Sl} {bl : List Blk} {cells : List Value} {E : TypeId} {n size : Nat} (h : Hw.Acc s bl cells E n size) (hl : Lies bl W) : HRep ⟨P, W, N, bl.map (·.n), [], []⟩ bl W :=
  ⟨hl, by rcases h with ⟨_, rfl, _⟩ | ⟨q, c, _, _, _, rfl⟩ <;> simp, fun b hb => .inr (List.mem_map.2 ⟨b, hb, rfl⟩), Keeps.refl _ _, fun _ h => (by cases h), fun _ _ _ h => (by cases h)⟩
theorem sees_kok {w : World} {b o : Nat} {cs l : List Value} {T : TypeId} {m : Nat} (hb : BlkOk w ⟨b, cs, T, m⟩) (hs : ∀ (j : Nat) (v : Value), l[j]? = some v → cs[o + j]? = some v) : Cb w b o l := fun j v hj => hb.cell (o := o + j) (hs j v hj)
theorem sp_e {X A K : List Blk} (h : ([] : List Blk).Perm (A ++ K)) : X.Perm ((X ++ A) ++ K) := by rw [List.append_assoc]; exact (List.Perm.append_left X h).symm.symm.trans (.refl _) |> fun k => (by rw [List.append_nil] at k; exact k)
theorem seesP_na {C : Cx} {hp : List Blk} {w : World} {p : Option Addr} {cs : List Value} (h : HRep C hp w) (hs : SeesP C.W0 p cs) (hna : ∀ a, p = some a → a.block ∉ C.lent) : SeesP w p cs := fun j v hj => by
  obtain ⟨b, o, e, hc⟩ := hs j v hj
  exact ⟨b, o, e, h.keeps.cell (show b ∉ C.lent from hna ⟨b, o, none⟩ e) hc⟩
theorem na_kb {C : Cx} {hp bl : List Blk} {w : World} {k : Blk} {o : Nat} (h : HRep C hp w) (hk : k ∈ C.kb) (hb : ∀ b ∈ bl, b ∈ hp) : ∀ a, (some ⟨k.n, o, none⟩ : Option Addr) = some a → a.block ∉ bl.map (·.n) := fun a e hm => by
  cases e
  obtain ⟨b, hb2, e2⟩ := List.mem_map.1 hm
  exact h.kd b (hb b hb2) k hk e2
def voteT (V : Vote) : List UInt8 := Au V.fHeight ++ Au V.fRound ++ Au (Hw.Bx V.fPhase).toUInt64 ++ V.fValue ++ Au V.fProof ++ V.fVoter
def Be (V : Vote) : List UInt8 := if Bw V = 0 then voteT V ++ V.fSig else []
def voteN (V : Vote) : Nat := szN V.fHeight.toNat + szN V.fRound.toNat + szN (Hw.Bx V.fPhase).toUInt64.toNat + 32 + szN V.fProof.toNat + 32
theorem voteT_length {V : Vote} (h : V.ok) : (voteT V).length = voteN V := by simp only [voteT, voteN, List.length_append, Aq, h.l_fValue, h.l_fVoter]
theorem voteN_le (V : Vote) : voteN V ≤ 100 := by
  have h1 := A8 V.fHeight.toNat
  have h2 := A8 V.fRound.toNat
  have h3 := A8 (Hw.Bx V.fPhase).toUInt64.toNat
  have h4 := A8 V.fProof.toNat
  unfold voteN
  omega

theorem text_number (s : Sl) (bl : List Blk) (l : List UInt8) (n : Nat) (hac : Hw.Acc s bl (Ab l) 5 n 1) (hn : n ≤ 1000) (x : UInt64) : Meets Tryz.prog 234 [s.v, u64 x] (bl.map (·.n)) (fun W => Lies bl W ∧ True) (fun v out => ∃ s', v = s'.v ∧ Hw.Acc s' out (Ab (l ++ Au x)) 5 (n + szN x.toNat) 1) := by
 intro W hW
 have hz := A8 x.toNat
 refine A7 (hp0 := bl) Tryz.func234 rfl 9 Tryz.ntmps234 rfl (Acc.hrep hac hW.1) ?_
 refine Sat.seq (Sat.region ?_)
 refine Tr.a rfl rfl rfl ?_
 refine Tr.nil (Aa (Sat.seq (Sat.region ?_)))
 refine Tr.m rfl rfl rfl ?_
 refine Tr.m rfl rfl rfl ?_
 refine Tr.call4 rfl rfl rfl rfl rfl Body106 (oct_Number none 0 0 [] x rfl (fun _ => rfl) oM) (fun _ _ => SeesP.nil) ?_
 rintro v7 out7 ⟨q7, c7, rfl, hc7, rfl⟩
 simp only [Nat.zero_add, List.nil_append, List.cons_append]
 refine Tr.appendAcc (z := u8 0) (by' := 1) (Ab (Au x)) rfl rfl rfl rfl rfl Tryz.underlying234 Y58 Sz5 Zr5 (by unfold By; kernel_rfl) rfl hac (by repeat (first | exact sg_end | apply sg_there)) (fun w h => SeesP.of (Ap h Z0)) (fun e => by cases e) (Bc _) oM oM (by simp [Aq]) ?_
 intro s8 bl8 hac8
 refine Tr.a rfl rfl rfl ?_
 refine Tr.nil (Aa (Sat.ret (Am ?_)))
 refine Ak (out := (bl8 ++ [])) (Ae rfl rfl) (Ah sG Ad) ?_
 exact ⟨s8, rfl, by rw [bytesV_app, List.append_nil]; exact hac8⟩

theorem text_raw (s : Sl) (bl : List Blk) (l : List UInt8) (n : Nat) (hac : Hw.Acc s bl (Ab l) 5 n 1) (hn : n ≤ 1000) (p : Option Addr) (m c : Nat) (ys : List UInt8) (hy : ys.length = m) (hm : m ≤ 1000) (hpn : p = none → m = 0) : Meets Tryz.prog 203 [s.v, .slice p m c] (bl.map (·.n)) (fun W => Lies bl W ∧ SeesP W p (Ab ys) ∧ ∀ a, p = some a → a.block ∉ bl.map (·.n)) (fun v out => ∃ s', v = s'.v ∧ Hw.Acc s' out (Ab (l ++ ys)) 5 (n + m) 1) := by
 intro W hW
 refine A7 (hp0 := bl) Tryz.func203 rfl 8 Tryz.ntmps203 rfl (Acc.hrep hac hW.1) ?_
 refine Sat.seq (Sat.region ?_)
 refine Tr.a rfl rfl rfl ?_
 refine Tr.nil (Aa (Sat.seq (Sat.region ?_)))
 refine Tr.m rfl rfl rfl ?_
 refine Tr.m rfl rfl rfl ?_
 refine Tr.appendAcc (z := u8 0) (by' := 1) (Ab ys) rfl rfl rfl rfl rfl Tryz.underlying234 Y58 Sz5 Zr5 (by unfold By; kernel_rfl) rfl hac (by repeat (exact sg_end)) (fun w h => seesP_na h hW.2.1 hW.2.2) hpn (Bc _) oM oM (by rw [Ab, List.length_map, hy, Nat.mul_one]) ?_
 intro s7 bl7 hac7
 refine Tr.a rfl rfl rfl ?_
 refine Tr.nil (Aa (Sat.ret (Am ?_)))
 refine Ak (out := (bl7 ++ [])) (Ae rfl rfl) (Ah sG Ad) ?_
 exact ⟨s7, rfl, by rw [bytesV_app, List.append_nil]; exact hac7⟩

theorem text_vote (s : Sl) (bl : List Blk) (l : List UInt8) (n : Nat) (hac : Hw.Acc s bl (Ab l) 5 n 1) (hn : n ≤ 100) (V : Vote) (hV : V.ok) : Meets Tryz.prog 202 [s.v, agg V.cells] (bl.map (·.n)) (fun W => Lies bl W) (fun v out => ∃ s', v = s'.v ∧ Hw.Acc s' out (Ab (l ++ voteT V)) 5 (n + voteN V) 1) := by
 intro W hW
 have z1 := A8 V.fHeight.toNat
 have z2 := A8 V.fRound.toNat
 have z3 := A8 (Hw.Bx V.fPhase).toUInt64.toNat
 have z4 := A8 V.fProof.toNat
 refine A7 (hp0 := bl) Tryz.func202 rfl 27 Tryz.ntmps202 rfl (Acc.hrep hac hW) ?_
 refine Sat.seq (Sat.region ?_)
 refine Tr.boxA rfl rfl ?_
 intro n3 hn3 hf3
 refine Tr.a rfl rfl rfl ?_
 refine Tr.nil (Aa ?_)
 refine Sat.join (ι := Sl × List Blk) (fun p => ⟨[(0, p.1.v), (3, ptr n3 0)], (p.2 ++ (⟨n3, V.cells, 81, V.cells.length⟩ :: []))⟩) (fun p => Hw.Acc p.1 p.2 (Ab (l ++ Au V.fHeight ++ Au V.fRound ++ Au (Hw.Bx V.fPhase).toUInt64)) 5 (n + szN V.fHeight.toNat + szN V.fRound.toNat + szN (Hw.Bx V.fPhase).toUInt64.toNat) 1) ?_ ?_
 ·
  refine Sat.withK (sp_k (sp_e sp_n)) rfl ?_
  refine Sat.draw [(0, 0), (0, 1), (0, 2), (0, 4), (0, 5), (0, 7), (0, 8), (0, 9), (0, 10), (4, 3), (4, 6), (4, 11), (0, 12)] Bv zK ?_
  refine Tr.m rfl rfl rfl ?_
  refine Tr.fld rfl rfl rfl Y81 rfl B1 dE _ rfl ?_
  refine Tr.kload1 rfl rfl rfl Y48 rfl Z0 (by exact Vote.get_fHeight zA) ?_
  refine Tr.fld rfl rfl rfl Y81 rfl B1 dE _ rfl ?_
  refine Tr.kload1 rfl rfl rfl Y48 rfl Z0 (by exact Vote.get_fRound zA) ?_
  refine Tr.fld rfl rfl rfl Y81 rfl Sz3 dE _ rfl ?_
  refine Tr.kload1 rfl rfl rfl Y3 rfl Z0 (by exact Vote.get_fPhase zA) ?_
  refine Tr.conv rfl rfl rfl Y3 Y5 (cv_i64_u8 _) ?_
  refine Tr.conv rfl rfl rfl Y5 Y48 (cv_u8_u64 _) ?_
  refine Tr.callL (L := bl) rfl rfl rfl rfl rfl Body234 (text_number s bl (l) (n) hac oM (V.fHeight)) sG (A0 rfl) (fun w h => ⟨Lies.of h (by repeat (exact in_here)), trivial⟩) ?_
  rintro v8 out8 ⟨s8, rfl, hac8⟩
  refine Tr.callL (L := out8) rfl rfl rfl rfl rfl Body234 (text_number s8 out8 (l ++ Au V.fHeight) (n + szN V.fHeight.toNat) hac8 oM (V.fRound)) sG (A0 rfl) (fun w h => ⟨Lies.of h (by repeat (exact in_here)), trivial⟩) ?_
  rintro v11 out11 ⟨s11, rfl, hac11⟩
  refine Tr.callL (L := out11) rfl rfl rfl rfl rfl Body234 (text_number s11 out11 (l ++ Au V.fHeight ++ Au V.fRound) (n + szN V.fHeight.toNat + szN V.fRound.toNat) hac11 oM ((Hw.Bx V.fPhase).toUInt64)) sG (A0 rfl) (fun w h => ⟨Lies.of h (by repeat (exact in_here)), trivial⟩) ?_
  rintro v16 out16 ⟨s16, rfl, hac16⟩
  refine Tr.a rfl rfl rfl ?_
  refine Tr.nil (Aa ?_)
  simp only [List.cons_append, List.nil_append, List.append_nil]
  exact ⟨(s16, out16), hac16, Af (wk1 rfl (wk1 rfl wk0)) (Ah sG (Ac rM Ad))⟩
 ·
  intro p hj
  have hap := hj
  refine Sat.seq ?_
  refine Sat.withK (sp_x (sp_k sp_n)) rfl ?_
  refine Sat.draw [(0, 0), (0, 1), (0, 2), (0, 4), (0, 5), (0, 7), (0, 8), (4, 3), (4, 6), (4, 9), (0, 10)] Bv zK ?_
  refine Tr.m rfl rfl rfl ?_
  refine Tr.fld rfl rfl rfl Y81 rfl Bb dE _ rfl ?_
  refine Tr.sliceArr rfl rfl rfl Y50 Sz5 ?_
  refine Tr.fld rfl rfl rfl Y81 rfl B1 dE _ rfl ?_
  refine Tr.kload1 rfl rfl rfl Y48 rfl Z0 (by exact Vote.get_fProof zA) ?_
  refine Tr.fld rfl rfl rfl Y81 rfl Sz75 dE _ rfl ?_
  refine Tr.sliceArr rfl rfl rfl Y75 Sz5 ?_
  refine Tr.callL (L := p.2) rfl rfl rfl rfl rfl Body203 (text_raw p.1 p.2 (l ++ Au V.fHeight ++ Au V.fRound ++ Au (Hw.Bx V.fPhase).toUInt64) (n + szN V.fHeight.toNat + szN V.fRound.toNat + szN (Hw.Bx V.fPhase).toUInt64.toNat) hap oM (some ⟨n3, 0 + 3, none⟩) 32 32 V.fValue hV.l_fValue dE (fun e => by cases e)) sG (A0 rfl) (fun w h => ⟨Lies.of h (by repeat (exact in_here)), SeesP.of (sees_kok (h.kok _ List.mem_cons_self) (Vote.see_fValue hV)), na_kb h List.mem_cons_self (by repeat (exact in_here))⟩) ?_
  rintro v20 out20 ⟨s20, rfl, hac20⟩
  refine Tr.callL (L := out20) rfl rfl rfl rfl rfl Body234 (text_number s20 out20 (l ++ Au V.fHeight ++ Au V.fRound ++ Au (Hw.Bx V.fPhase).toUInt64 ++ V.fValue) (n + szN V.fHeight.toNat + szN V.fRound.toNat + szN (Hw.Bx V.fPhase).toUInt64.toNat + 32) hac20 oM (V.fProof)) sG (A0 rfl) (fun w h => ⟨Lies.of h (by repeat (exact in_here)), trivial⟩) ?_
  rintro v23 out23 ⟨s23, rfl, hac23⟩
  refine Tr.callL (L := out23) rfl rfl rfl rfl rfl Body203 (text_raw s23 out23 (l ++ Au V.fHeight ++ Au V.fRound ++ Au (Hw.Bx V.fPhase).toUInt64 ++ V.fValue ++ Au V.fProof) (n + szN V.fHeight.toNat + szN V.fRound.toNat + szN (Hw.Bx V.fPhase).toUInt64.toNat + 32 + szN V.fProof.toNat) hac23 oM (some ⟨n3, 0 + 36, none⟩) 32 32 V.fVoter hV.l_fVoter dE (fun e => by cases e)) sG (A0 rfl) (fun w h => ⟨Lies.of h (by repeat (exact in_here)), SeesP.of (sees_kok (h.kok _ List.mem_cons_self) (Vote.see_fVoter hV)), na_kb h List.mem_cons_self (by repeat (exact in_here))⟩) ?_
  rintro v26 out26 ⟨s26, rfl, hac26⟩
  refine Tr.a rfl rfl rfl ?_
  refine Tr.nil (Aa (Sat.ret (Am ?_)))
  simp only [List.cons_append, List.nil_append, List.append_nil]
  refine Ak (out := (out26 ++ [])) (Ae rfl rfl) (Ah sG Ad) ?_
  refine ⟨s26, rfl, ?_⟩
  rw [List.append_nil, show l ++ voteT V = l ++ Au V.fHeight ++ Au V.fRound ++ Au (Hw.Bx V.fPhase).toUInt64 ++ V.fValue ++ Au V.fProof ++ V.fVoter by simp only [voteT, List.append_assoc], show n + voteN V = n + szN V.fHeight.toNat + szN V.fRound.toNat + szN (Hw.Bx V.fPhase).toUInt64.toNat + 32 + szN V.fProof.toNat + 32 by unfold voteN; omega]
  exact hac26

theorem vote_bytes (V : Vote) (hV : V.ok) : Meets Tryz.prog 114 [agg V.cells] [] (fun _ => True) (fun v out => ∃ s, v = .tuple #[s.v, i64 (Bw V)] ∧ Hw.Acc s out (Ab (Be V)) 5 (Be V).length 1) := by
 intro W hW
 have hvl := voteT_length hV
 have hvn := voteN_le V
 have hsl := hV.l_fSig
 refine An Tryz.func114 rfl 15 Tryz.ntmps114 rfl ?_
 refine Sat.seq (Sat.region ?_)
 refine Tr.boxA rfl rfl ?_
 intro n1 hn1 hf1
 refine Tr.a rfl rfl rfl ?_
 refine Tr.a rfl rfl rfl ?_
 refine Tr.nil (Aa (Sat.seq (Sat.seq (Sat.region ?_))))
 refine Tr.lA rfl rfl rfl Y81 rfl Sz81 Z0 (Vote.length zA) ?_
 refine Tr.cV rfl rfl rfl rfl Body85 (vote_check V hV) tV ?_
 refine Tr.a rfl rfl rfl ?_
 refine Tr.nil (Aa (Sat.seq (Sat.region ?_)))
 refine Tr.m rfl rfl rfl ?_
 refine Tr.nei rfl rfl rfl rfl rfl ?_
 refine Tr.nil (Aa ?_)
 refine Sat.condNP rfl (fun hc0 => ?_) (fun hc0 => ?_)
 ·
  refine Sat.seq (Sat.region ?_)
  refine Tr.m rfl rfl rfl ?_
  refine Tr.a rfl rfl rfl ?_
  refine Tr.a rfl rfl rfl ?_
  refine Tr.nil (Aa (Sat.ret (Ao (Am ?_))))
  refine Ak (out := []) (Ba rfl rfl rfl) Ad ?_
  exact ⟨Sl.nil, rfl, by rw [show Be V = [] from if_neg hc0]; exact Acc.none⟩
 ·
  refine Sat.skip (Aa (Sat.seq ?_))
  refine Sat.withK (sp_k sp_n) rfl ?_
  refine Sat.draw [(0, 0), (0, 2), (0, 3), (4, 1), (4, 4), (0, 5), (0, 6)] Bv zK ?_
  refine Tr.kloadAll rfl rfl rfl Y81 rfl Sz81 Z0 (Vote.length zA) ?_
  refine Tr.fld rfl rfl rfl Y81 rfl Sz77 dE _ rfl ?_
  refine Tr.sliceArr rfl rfl rfl Y77 Sz5 ?_
  refine Tr.callL (L := []) rfl rfl rfl rfl rfl Body202 (text_vote Sl.nil [] [] 0 Acc.none dE V hV) (.refl _) (A0 rfl) (fun w h => fun b hb => (by cases hb)) ?_
  rintro v11 out11 ⟨s11, rfl, hac11⟩
  simp only [List.nil_append, Nat.zero_add] at hac11
  refine Tr.callL (L := out11) rfl rfl rfl rfl rfl Body203 (text_raw s11 out11 (voteT V) (voteN V) hac11 oM (some ⟨n1, 0 + 68, none⟩) 64 64 V.fSig hV.l_fSig dE (fun e => by cases e)) sG (A0 rfl) (fun w h => ⟨Lies.of h (by repeat (exact in_here)), SeesP.of (sees_kok (h.kok _ List.mem_cons_self) (Vote.see_fSig hV)), na_kb h List.mem_cons_self (by repeat (exact in_here))⟩) ?_
  rintro v14 out14 ⟨s14, rfl, hac14⟩
  refine Tr.a rfl rfl rfl ?_
  refine Tr.a rfl rfl rfl ?_
  refine Tr.nil (Aa (Sat.ret (Am ?_)))
  simp only [List.cons_append, List.nil_append, List.append_nil]
  refine Ak (out := (out14 ++ [])) (Ba rfl rfl rfl) (Ah sG Ad) ?_
  refine ⟨s14, by rw [show Bw V = 0 by omega], ?_⟩
  rw [show Be V = voteT V ++ V.fSig from if_pos oM, List.append_nil, show (voteT V ++ V.fSig).length = voteN V + 64 by rw [List.length_append, hvl, hsl]]
  exact hac14

theorem upd_vsig {X : Vote} (h : X.ok) {l : List UInt8} (hl : l = [] ∨ l.length = 64) : upd X.cells 68 (Ab l) = ({ X with fSig := l ++ X.fSig.drop l.length } : Vote).cells := by
  rcases hl with rfl | hl
  · exact upd_nil _ _
  · rw [Vote.upd_fSig h l hl, hl, List.drop_of_length_le (by rw [h.l_fSig]; exact Nat.le_refl _), List.append_nil]
def voteP (xs : List UInt8) : Vote × Nat × Int :=
  let r1 := Bg xs 0 0
  let r2 := Bg xs r1.2.1 r1.2.2
  let r3 := Bg xs r2.2.1 r2.2.2
  let r4 := digR xs r3.2.1 r3.2.2
  let r5 := Bg xs r4.2.1 r4.2.2
  let r6 := digR xs r5.2.1 r5.2.2
  let r7 := takR xs 64 r6.2.1 r6.2.2
  (⟨r1.1, r2.1, ((min r3.1.toNat 4 : Nat) : Int), r4.1, r5.1, r6.1, r7.1 ++ (List.replicate 64 0).drop r7.1.length⟩, r7.2)
def voteRd (xs : List UInt8) : Vote × Int :=
  if endR xs.length (voteP xs).2.1 (voteP xs).2.2 = 0 ∧ Bw (voteP xs).1 = 0 then ((voteP xs).1, 0) else (Vote.zero, 4)
theorem voteRd_bad {xs : List UInt8} (h : ¬ (endR xs.length (voteP xs).2.1 (voteP xs).2.2 = 0 ∧ Bw (voteP xs).1 = 0)) : voteRd xs = (Vote.zero, 4) := if_neg h
theorem voteRd_ok {xs : List UInt8} (h : endR xs.length (voteP xs).2.1 (voteP xs).2.2 = 0 ∧ Bw (voteP xs).1 = 0) : voteRd xs = ((voteP xs).1, 0) := if_pos h

theorem vote_read (a : Option Addr) (n c : Nat) (xs : List UInt8) (hl : xs.length = n) (hp : a = none → n = 0) (hn : n ≤ 90000) : Meets Tryz.prog 77 [.slice a n c] [] (fun W => SeesP W a (Ab xs)) (fun v out => v = .tuple #[agg (voteRd xs).1.cells, i64 (voteRd xs).2] ∧ out = []) := by
 intro W hW
 obtain ⟨x1, r1, h1⟩ : ∃ l r, Bg xs 0 0 = (l, r) := ⟨_, _, rfl⟩
 obtain ⟨a1, e1⟩ := r1
 obtain ⟨x2, r2, h2⟩ : ∃ l r, Bg xs a1 e1 = (l, r) := ⟨_, _, rfl⟩
 obtain ⟨a2, e2⟩ := r2
 obtain ⟨x3, r3, h3⟩ : ∃ l r, Bg xs a2 e2 = (l, r) := ⟨_, _, rfl⟩
 obtain ⟨a3, e3⟩ := r3
 obtain ⟨l4, r4, h4⟩ : ∃ l r, digR xs a3 e3 = (l, r) := ⟨_, _, rfl⟩
 obtain ⟨a4, e4⟩ := r4
 obtain ⟨x5, r5, h5⟩ : ∃ l r, Bg xs a4 e4 = (l, r) := ⟨_, _, rfl⟩
 obtain ⟨a5, e5⟩ := r5
 obtain ⟨l6, r6, h6⟩ : ∃ l r, digR xs a5 e5 = (l, r) := ⟨_, _, rfl⟩
 obtain ⟨a6, e6⟩ := r6
 obtain ⟨l7, r7, h7⟩ : ∃ l r, takR xs 64 a6 e6 = (l, r) := ⟨_, _, rfl⟩
 obtain ⟨a7, e7⟩ := r7
 have hvp : voteP xs = (({ Vote.zero with fHeight := x1, fRound := x2, fPhase := ((min x3.toNat 4 : Nat) : Int), fValue := l4, fProof := x5, fVoter := l6, fSig := l7 ++ Vote.zero.fSig.drop l7.length } : Vote), a7, e7) := by simp only [voteP, h1, h2, h3, h4, h5, h6, h7]; rfl
 have hd1 := numE_le h1 hl (Nat.zero_le _)
 have hd2 := numE_le h2 hl hd1
 have hd3 := numE_le h3 hl hd2
 have hd4 := digE_le h4 hl hd3
 have hd5 := numE_le h5 hl hd4.1
 have hd6 := digE_le h6 hl hd5
 have hd7 := takE_le h7 hl hd6.1
 have hlen7 : l7.length ≤ 64 := by rcases hd7.2 with h | h <;> simp [h]
 have hs64 : (l7 ++ Vote.zero.fSig.drop l7.length).length = 64 := by rcases hd7.2 with h | h <;> simp [h, Vote.zero]
 have ok2 : ({ Vote.zero with fHeight := x1, fRound := x2 } : Vote).ok := ⟨rfl, rfl, rfl⟩
 have ok3 : ({ Vote.zero with fHeight := x1, fRound := x2, fPhase := ((min x3.toNat 4 : Nat) : Int) } : Vote).ok := ⟨rfl, rfl, rfl⟩
 have ok4 : ({ Vote.zero with fHeight := x1, fRound := x2, fPhase := ((min x3.toNat 4 : Nat) : Int), fValue := l4 } : Vote).ok := ⟨hd4.2, rfl, rfl⟩
 have ok5 : ({ Vote.zero with fHeight := x1, fRound := x2, fPhase := ((min x3.toNat 4 : Nat) : Int), fValue := l4, fProof := x5 } : Vote).ok := ⟨hd4.2, rfl, rfl⟩
 have ok6 : ({ Vote.zero with fHeight := x1, fRound := x2, fPhase := ((min x3.toNat 4 : Nat) : Int), fValue := l4, fProof := x5, fVoter := l6 } : Vote).ok := ⟨hd4.2, hd6.2, rfl⟩
 have okX : ({ Vote.zero with fHeight := x1, fRound := x2, fPhase := ((min x3.toNat 4 : Nat) : Int), fValue := l4, fProof := x5, fVoter := l6, fSig := l7 ++ Vote.zero.fSig.drop l7.length } : Vote).ok := ⟨hd4.2, hd6.2, hs64⟩
 refine An Tryz.func77 rfl 42 Tryz.ntmps77 rfl ?_
 refine Sat.seq (Sat.region ?_)
 refine Tr.alloc (cs := Vote.zero.cells) rfl Vote.zr rfl ?_
 intro n2 hn2 hf2
 refine Tr.a rfl rfl rfl ?_
 refine Tr.nil (Aa (Sat.seq (Sat.region ?_)))
 refine Tr.m rfl rfl rfl ?_
 refine Tr.call4 rfl rfl rfl rfl rfl Body91 (oct_Read a n c xs hl hp hn) (fun w h => Aw h rfl hW) ?_
 rintro v7 out7 ⟨n7, q7, cp7, rfl, hcp7, rfl⟩
 refine Tr.nd (fun hnd => ?_)
 have hne : q7 ≠ n7 := by intro e; simp [RB, e] at hnd
 clear hnd
 refine Tr.a rfl rfl rfl ?_
 refine Tr.nil (Aa (Sat.seq (Sat.region ?_)))
 refine Tr.m rfl rfl rfl ?_
 refine Tr.callL (L := [RB n7 q7 n cp7 0 0]) rfl rfl rfl rfl rfl Body94 (rd_NumberE n7 q7 n cp7 0 0 xs hl (Nat.zero_le _) hcp7 oM x1 a1 e1 h1) (Ac rM Ad) (A0 rfl) (fun w h => ⟨Ai h Z0, Ap h Z1, hne⟩) ?_
 rintro v9 out9 ⟨rfl, rfl⟩
 refine Tr.m rfl rfl rfl ?_
 refine Tr.callL (L := [RB n7 q7 n cp7 a1 e1]) rfl rfl rfl rfl rfl Body94 (rd_NumberE n7 q7 n cp7 a1 e1 xs hl hd1 hcp7 oM x2 a2 e2 h2) (Ac rM Ad) (A0 rfl) (fun w h => ⟨Ai h Z0, Ap h Z1, hne⟩) ?_
 rintro v9 out9 ⟨rfl, rfl⟩
 refine Tr.build (cs := ({ Vote.zero with fHeight := x1, fRound := x2 } : Vote).cells) rfl rfl rfl (fun w => by kernel_rfl) ?_
 refine Tr.alloc (cs := Vote.zero.cells) rfl Vote.zr rfl ?_
 intro n5 hn5 hf5
 refine Tr.sA rfl rfl rfl rfl (Vote.isCell zA) Sz81 (Vote.length zA) Z0 (Vote.length zT) zU ?_
 refine Tr.nil (Aa (Sat.seq (Sat.region ?_)))
 refine Tr.m rfl rfl rfl ?_
 refine Tr.callL (L := [RB n7 q7 n cp7 a2 e2]) rfl rfl rfl rfl rfl Body94 (rd_NumberE n7 q7 n cp7 a2 e2 xs hl hd2 hcp7 oM x3 a3 e3 h3) (Ac rM Ad) (A0 rfl) (fun w h => ⟨Ai h Z1, Ap h Z2, hne⟩) ?_
 rintro v9 out9 ⟨rfl, rfl⟩
 refine Tr.min2 rfl rfl rfl rfl (show Value.int .u64 (if (4 : Int) < (x3.toNat : Int) then 4 else (x3.toNat : Int)) = .int .u64 ((min x3.toNat 4 : Nat) : Int) from by congr 1; split <;> omega) ?_
 refine Tr.conv rfl rfl rfl Y48 Y3 (show Value.int .i64 (IntKind.i64.wrap ((min x3.toNat 4 : Nat) : Int)) = i64 ((min x3.toNat 4 : Nat) : Int) by rw [i64_wrap oM]) ?_
 refine Tr.fld rfl rfl rfl Y81 rfl Sz3 dE _ rfl ?_
 refine Tr.s1 rfl rfl rfl rfl rfl Sz3 Z1 (by rw [Vote.length zA]; decide) (Vote.set_fPhase zA _) zV ?_
 refine Tr.nil (Aa (Sat.seq (Sat.region ?_)))
 refine Tr.m rfl rfl rfl ?_
 refine Tr.callL (L := [RB n7 q7 n cp7 a3 e3]) rfl rfl rfl rfl rfl Body173 (rd_DigestE n7 q7 n cp7 a3 e3 xs hl hd3 hcp7 oM l4 a4 e4 h4) (Ac rM Ad) (A0 rfl) (fun w h => ⟨Ai h Z0, Ap h Z2, hne⟩) ?_
 rintro v9 out9 ⟨rfl, rfl⟩
 refine Tr.fld rfl rfl rfl Y81 rfl Bb dE _ rfl ?_
 refine Tr.storeN (Ab _) rfl rfl rfl rfl rfl zE Bb (by simp [hd4.2]) Z1 (by rw [Vote.length zA]; simp [hd4.2]) (Vote.upd_fValue zA _ (by simp [hd4.2])) zV ?_
 refine Tr.nil (Aa (Sat.seq (Sat.region ?_)))
 refine Tr.m rfl rfl rfl ?_
 refine Tr.callL (L := [RB n7 q7 n cp7 a4 e4]) rfl rfl rfl rfl rfl Body94 (rd_NumberE n7 q7 n cp7 a4 e4 xs hl hd4.1 hcp7 oM x5 a5 e5 h5) (Ac rM Ad) (A0 rfl) (fun w h => ⟨Ai h Z0, Ap h Z2, hne⟩) ?_
 rintro v9 out9 ⟨rfl, rfl⟩
 refine Tr.fld rfl rfl rfl Y81 rfl B1 dE _ rfl ?_
 refine Tr.s1 rfl rfl rfl rfl rfl B1 Z1 (by rw [Vote.length zA]; decide) (Vote.set_fProof zA _) zV ?_
 refine Tr.nil (Aa (Sat.seq (Sat.region ?_)))
 refine Tr.m rfl rfl rfl ?_
 refine Tr.callL (L := [RB n7 q7 n cp7 a5 e5]) rfl rfl rfl rfl rfl Body173 (rd_DigestE n7 q7 n cp7 a5 e5 xs hl hd5 hcp7 oM l6 a6 e6 h6) (Ac rM Ad) (A0 rfl) (fun w h => ⟨Ai h Z0, Ap h Z2, hne⟩) ?_
 rintro v9 out9 ⟨rfl, rfl⟩
 refine Tr.fld rfl rfl rfl Y81 rfl Sz75 dE _ rfl ?_
 refine Tr.storeN (Ab _) rfl rfl rfl rfl rfl zE Sz75 (by simp [hd6.2]) Z1 (by rw [Vote.length zA]; simp [hd6.2]) (Vote.upd_fVoter zA _ (by simp [hd6.2])) zV ?_
 refine Tr.nil (Aa (Sat.seq ?_))
 refine Sat.draw [(0, 0), (0, 1), (0, 2), (4, 3), (4, 4)] Bv zK ?_
 refine Tr.fld rfl rfl rfl Y81 rfl Sz77 dE _ rfl ?_
 refine Tr.sliceArr rfl rfl rfl Y77 Sz5 ?_
 refine Tr.m rfl rfl rfl ?_
 refine Tr.callL (L := [RB n7 q7 n cp7 a6 e6]) rfl rfl rfl rfl rfl Body174 (rd_TakeE n7 q7 n cp7 a6 e6 64 dE dE xs hl hd6.1 hcp7 oM l7 a7 e7 h7) (Ac rM Ad) (A0 rfl) (fun w h => ⟨Ai h Z0, Ap h Z2, hne⟩) ?_
 rintro v30 out30 ⟨s30, bl30, rfl, hac30, rfl⟩
 simp only [List.append_assoc, List.cons_append, List.nil_append]
 refine Tr.copyP (Ab l7) l7.length rfl rfl rfl rfl rfl Y58 Sz5 (fun w h => hac30.see (Lies.of h (by repeat (exact in_here)))) (fun e => hac30.nil e) (by simp [Ab, hac30.num]) (by rw [hac30.num]; omega) (List.take_of_length_le (by simp [Ab])) (Bc _) mR (by rw [Vote.length ok6]; show 68 + l7.length ≤ 132; omega) (upd_vsig ok6 hd7.2) uU ?_
 refine Tr.nil (Aa (Sat.seq (Sat.seq (Sat.region ?_))))
 refine Tr.m rfl rfl rfl ?_
 refine Tr.cV rfl rfl rfl rfl Body105 (rd_End n7 q7 n cp7 a7 e7 hd7.1 oM) (fun w h => Ai h mR) ?_
 refine two (fun r hr k => Tr.nei rfl rfl rfl rfl hr k) (fun hs8_20 => ?_) (fun hs8_20 => ?_)
 ·
  have hs8_2 := A2 hs8_20
  refine Tr.m rfl rfl rfl ?_
  refine Tr.skp rfl rfl ?_
  refine Tr.skp rfl rfl ?_
  refine Tr.skp rfl rfl ?_
  refine Tr.pick rfl rfl rfl rfl rfl rfl ?_
  refine Tr.nil (Aa ?_)
  refine Sat.cond_t rfl rfl ?_
  refine Sat.seq (Sat.region ?_)
  refine Tr.build (cs := Vote.zero.cells) rfl rfl rfl (fun w => by kernel_rfl) ?_
  refine Tr.sA rfl rfl rfl rfl (Vote.isCell zT) Sz81 (Vote.length zT) mR (Vote.length zT) uU ?_
  refine Tr.a rfl rfl rfl ?_
  refine Tr.nil (Aa (Sat.ret (Ao (Am ?_))))
  refine Ak (out := []) (A6 rfl rfl rfl Y81 rfl Sz81 mR (by exact Vote.length zT)) Ad ?_
  exact ⟨by rw [voteRd_bad (by rw [hvp, hl]; exact fun h => hs8_2 h.1)], rfl⟩
 ·
  have hs8_2 := A3 hs8_20
  refine Tr.m rfl rfl rfl ?_
  refine Tr.lA rfl rfl rfl Y81 rfl Sz81 mR (Vote.length zA) ?_
  refine Tr.cV rfl rfl rfl rfl Body85 (vote_check ({ Vote.zero with fHeight := x1, fRound := x2, fPhase := ((min x3.toNat 4 : Nat) : Int), fValue := l4, fProof := x5, fVoter := l6, fSig := l7 ++ Vote.zero.fSig.drop l7.length } : Vote) okX) tV ?_
  refine Tr.nei rfl rfl rfl rfl rfl ?_
  refine Tr.pick rfl rfl rfl rfl rfl rfl ?_
  refine Tr.nil (Aa ?_)
  refine Sat.condNP rfl (fun hc0 => ?_) (fun hc0 => ?_)
  ·
   refine Sat.seq (Sat.region ?_)
   refine Tr.build (cs := Vote.zero.cells) rfl rfl rfl (fun w => by kernel_rfl) ?_
   refine Tr.sA rfl rfl rfl rfl (Vote.isCell zT) Sz81 (Vote.length zT) mR (Vote.length zT) uU ?_
   refine Tr.a rfl rfl rfl ?_
   refine Tr.nil (Aa (Sat.ret (Ao (Am ?_))))
   refine Ak (out := []) (A6 rfl rfl rfl Y81 rfl Sz81 mR (by exact Vote.length zT)) Ad ?_
   exact ⟨by rw [voteRd_bad (by rw [hvp, hl]; exact fun h => hc0 h.2)], rfl⟩
  ·
   refine Sat.skip (Aa (Sat.seq (Sat.region ?_)))
   refine Tr.lA rfl rfl rfl Y81 rfl Sz81 mR (Vote.length zA) ?_
   refine Tr.sA rfl rfl rfl rfl (Vote.isCell zA) Sz81 (Vote.length zA) mR (Vote.length zT) uU ?_
   refine Tr.a rfl rfl rfl ?_
   refine Tr.nil (Aa (Sat.ret (Am ?_)))
   refine Ak (out := []) (A6 rfl rfl rfl Y81 rfl Sz81 mR (by exact Vote.length zA)) Ad ?_
   exact ⟨by rw [voteRd_ok (by rw [hvp, hl]; exact ⟨hs8_2, hc0⟩), hvp], rfl⟩

end Go.Proofs.YtdifpjmfabhpiaaGreat
end

section
namespace Go.Proofs.YtdifpjmfabhpiaaGreat
open Go Hw

def blkB (ys : List UInt8) : List UInt8 := Au (UInt64.ofNat ys.length) ++ ys
def Av {D : Type} (f : D → List UInt8) (ds : List D) : List UInt8 := (ds.map fun d => blkB (f d)).flatten
theorem blkB_length {ys : List UInt8} (h : ys.length ≤ 1000000) : (blkB ys).length = szN ys.length + ys.length := by rw [blkB, List.length_append, Aq, A1 h]
theorem listB_step {D : Type} (f : D → List UInt8) {ds : List D} {k : Nat} {d : D} (h : ds[k]? = some d) : Av f (ds.take (k + 1)) = Av f (ds.take k) ++ blkB (f d) := by
  rw [take_snoc h, Av, List.map_append, List.flatten_append]; simp [Av]
theorem listB_le {D : Type} (f : D → List UInt8) (M : Nat) (hM : M ≤ 100000) : ∀ ds : List D, (∀ d ∈ ds, (f d).length ≤ M) → (Av f ds).length ≤ ds.length * (M + 9)
  | [], _ => by simp [Av]
  | d :: ds, h => by
    have ih := listB_le f M hM ds (fun x hx => h x (List.mem_cons_of_mem _ hx))
    have h1 := h d List.mem_cons_self
    have h2 := A8 (f d).length
    have e : Av f (d :: ds) = blkB (f d) ++ Av f ds := rfl
    rw [e, List.length_append, blkB_length oM, List.length_cons, Nat.add_mul]
    omega
theorem listB_take_le {D : Type} (f : D → List UInt8) (M : Nat) (hM : M ≤ 100000) (ds : List D) (h : ∀ d ∈ ds, (f d).length ≤ M) (k : Nat) : (Av f (ds.take k)).length ≤ ds.length * (M + 9) := by
  have h1 := listB_le f M hM (ds.take k) (fun d hd => h d (List.mem_of_mem_take hd))
  have h2 : (ds.take k).length ≤ ds.length := by rw [List.length_take]; omega
  exact Nat.le_trans h1 (Nat.mul_le_mul_right _ h2)

theorem blk_vote_1 (a : Option Addr) (n c : Nat) (l : List UInt8) (hl : l.length = n) (hp : a = none → n = 0) (hn : n ≤ 40000) (X : Vote) (D : Vote) (q : Nat) (hsz : (Be D).length ≤ 40000) : Meets Tryz.prog 201 [.slice a n c, agg X.cells, ptr q 0] [] (fun W => SeesP W a (Ab l) ∧ VoteIs W X D ∧ W.cell? ⟨q, 0, none⟩ = some (.func (.func 114) #[] #[])) (fun v out => FreshRow v out (Ab (l ++ blkB (Be D))) 5 (l ++ blkB (Be D)).length 1) := by
 intro W hW
 obtain rfl : D = X := hW.2.1.eq.symm
 refine An Tryz.func201 rfl 17 Tryz.ntmps201 rfl ?_
 refine Sat.seq (Sat.region ?_)
 refine Tr.boxA rfl rfl ?_
 intro n4 hn4 hf4
 refine Tr.a rfl rfl rfl ?_
 refine Tr.nil (Aa (Sat.seq (Sat.region ?_)))
 refine Tr.loadE rfl rfl rfl Tryz.underlying164 rfl (by first | (simp; done) | (simp; exact hW.2.2) | (simp [Cx.with]; done) | (simp [Cx.with]; omega)) (hW.2.2) ?_
 refine Tr.lA rfl rfl rfl Y81 rfl Sz81 mM (Vote.length (by first | exact oK  | exact hW.2.1.ok)) ?_
 refine Tr.call4 rfl rfl rfl rfl rfl Body114 (vote_bytes D hW.2.1.ok) (fun w h => trivial) ?_
 rintro v11 out11 ⟨s11, rfl, hac11⟩
 have hnm := hac11.num
 refine Tr.m rfl rfl rfl ?_
 refine Tr.eX rfl rfl rfl rfl ?_
 refine Tr.eX rfl rfl rfl rfl ?_
 refine Tr.a rfl rfl rfl ?_
 refine Tr.a rfl rfl rfl ?_
 refine Tr.nil (Aa (Sat.seq (Sat.region ?_)))
 refine Tr.m rfl rfl rfl ?_
 refine Tr.m rfl rfl rfl ?_
 refine Tr.call4 rfl rfl rfl rfl rfl Body121 (oct_Block a s11.p n c s11.n s11.c l (Be D) hl hnm.symm hp (fun e => hac11.nil e) hn oM) (fun w h => ⟨Aw h rfl hW.1, hac11.see (Lies.of h iN)⟩) ?_
 rintro v16 out16 ⟨q16, c16, rfl, hc16, rfl⟩
 have hq16 : n + szN s11.n + s11.n = (l ++ blkB (Be D)).length := by rw [List.length_append, blkB_length oM, hl, hnm]; omega
 refine Tr.a rfl rfl rfl ?_
 refine Tr.nil (Aa (Sat.ret (Am ?_)))
 refine Ak (out := (⟨q16, Ab (l ++ blkB (Be D)), 5, c16 * 1⟩ :: [])) (Ae rfl rfl) (pm_consE rM (by rw [blkB, hnm, List.append_assoc]) rfl Ad) ?_
 exact ⟨q16, c16, by rw [hq16], by rw [← hq16]; exact hc16, rfl⟩

theorem mk_blk_vote  : Meets Tryz.prog 113 [.func (.func 114) #[] #[]] [] (fun _ => True) (fun v out => ∃ c, v = .func (.func 201) #[] #[ptr c 0] ∧ out = [⟨c, [.func (.func 114) #[] #[]], 164, 1⟩]) := by
 intro W hW
 refine An Tryz.func113 rfl 4 Tryz.ntmps113 rfl ?_
 refine Sat.seq (Sat.region ?_)
 refine Tr.box1 rfl rfl rfl ?_
 intro n1 hn1 hf1
 refine Tr.a rfl rfl rfl ?_
 refine Tr.nil (Aa (Sat.seq (Sat.region ?_)))
 refine Tr.makeFunc rfl rfl rfl rfl ?_
 refine Tr.a rfl rfl rfl ?_
 refine Tr.nil (Aa (Sat.ret (Am ?_)))
 refine Ak (out := (⟨n1, [.func (.func 114) #[] #[]], 164, 1⟩ :: [])) (Ae rfl rfl) (Ac rM Ad) ?_
 exact ⟨n1, rfl, by simp⟩

theorem put_votes (a : Option Addr) (n c : Nat) (l : List UInt8) (s : Sl) (ds : List Vote) (q M : Nat) (hl : l.length = n) (hp : a = none → n = 0) (hM : M ≤ 40000) (hsz : ∀ d ∈ ds, (Be d).length ≤ M) (hs : s.n ≤ 1000) (hN : n + 9 + s.n * (M + 9) ≤ 40000) : Meets Tryz.prog 112 [.slice a n c, s.v, .func (.func 201) #[] #[ptr q 0]] [] (fun W => SeesP W a (Ab l) ∧ VotesAt W s ds ∧ W.cell? ⟨q, 0, none⟩ = some (.func (.func 114) #[] #[])) (fun v out => FreshRow v out (Ab (l ++ Au (UInt64.ofNat s.n) ++ Av Be ds)) 5 (l ++ Au (UInt64.ofNat s.n) ++ Av Be ds).length 1) := by
 intro W hW
 obtain ⟨rs, hs1⟩ := hW.2.1
 have hnd := hs1.nd
 have hz := A8 s.n
 have hon := A1 (n := s.n) oM
 have hmul : ds.length * (M + 9) = s.n * (M + 9) := by rw [hnd]
 have hle : ∀ k, (l ++ Au (UInt64.ofNat s.n) ++ Av Be (ds.take k)).length ≤ 40000 := fun k => by
  have := listB_take_le Be M oM ds hsz k
  simp only [List.length_append, Aq, hon, hl]
  omega
 refine An Tryz.func112 rfl 26 Tryz.ntmps112 rfl ?_
 refine Sat.seq (Sat.region ?_)
 refine Tr.a rfl rfl rfl ?_
 refine Tr.nil (Aa (Sat.seq (Sat.region ?_)))
 refine Tr.m rfl rfl rfl ?_
 refine Tr.m rfl rfl rfl ?_
 refine Tr.lenSl rfl rfl rfl Y24 ?_
 refine Tr.conv rfl rfl rfl Y3 Y48 (Bh _) ?_
 rw [word_nat (n := s.n) oM]
 refine Tr.call4 rfl rfl rfl rfl rfl Body106 (oct_Number a n c l (UInt64.ofNat s.n) hl hp oM) (fun w h => Aw h rfl hW.1) ?_
 rintro v13 out13 ⟨q1, c1, rfl, hc1, rfl⟩
 have e13 : n + szN (UInt64.ofNat s.n).toNat = (l ++ Au (UInt64.ofNat s.n) ++ Av Be (ds.take 0)).length := by simp [Av, Aq, hl]
 rw [e13] at hc1 ⊢
 refine Tr.a rfl rfl rfl ?_
 refine Tr.nil (Aa (Sat.seq (Sat.seq (Sat.region ?_))))
 refine Tr.m rfl rfl rfl ?_
 refine Tr.lenSl rfl rfl rfl Y24 ?_
 refine Tr.m rfl rfl rfl ?_
 refine Tr.nil (Aa (Sat.block ?_))
 refine Sat.loop (ι := Nat × Nat × Nat) (fun p => ⟨[(0, .slice (some ⟨p.2.1, 0, none⟩) (l ++ Au (UInt64.ofNat s.n) ++ Av Be (ds.take p.1)).length p.2.2), (2, .func (.func 201) #[] #[ptr q 0]), (14, s.v), (15, i64 (s.n : Int)), (16, i64 (p.1 : Int))], [⟨p.2.1, Ab (l ++ Au (UInt64.ofNat s.n) ++ Av Be (ds.take p.1)), 5, p.2.2 * 1⟩]⟩) (fun p => p.1 ≤ s.n ∧ (l ++ Au (UInt64.ofNat s.n) ++ Av Be (ds.take p.1)).length ≤ p.2.2) (fun p => s.n - p.1) ((0, q1, c1)) ?_ ?_ ?_
 · exact ⟨Nat.zero_le _, hc1⟩
 · exact Ar (wk1 rfl (wk1 rfl (wk1 rfl (wk1 rfl (wk1 rfl wk0))))) (wh1 (by simp only [List.take_zero, Av, List.map_nil, List.flatten_nil, List.append_nil]; exact mem0) wh0) nD
 ·
  rintro p ⟨hp1, hp2⟩
  refine Sat.seq (Sat.region ?_)
  refine Tr.lss rfl rfl rfl rfl rfl ?_
  refine Tr.nil (Aa (Sat.seq ?_))
  first
   | refine Sat.condP rfl (fun hc0 => ?_) (fun hc0 => ?_)
   | refine Sat.condNP rfl (fun hc0 => ?_) (fun hc0 => ?_)
   | refine Sat.cond rfl (fun hc0 => ?_) (fun hc0 => ?_)
  ·
   have hk2 : p.1 < s.n := by omega
   obtain ⟨b, o, r, d, hsp, hr, hd, his, hlen, hsee⟩ := hs1.at dE hk2
   refine Sat.skip (Aa (Sat.seq (Sat.block (Sat.seq (Sat.region ?_)))))
   refine Tr.idxSlP 132 rfl rfl rfl hsp rfl Y24 Sz81 p.1 rfl oM ?_
   refine Tr.loadEN r.cells rfl rfl rfl Y81 rfl Sz81 sP hlen hsee ?_
   refine Tr.alloc (cs := Vote.zero.cells) rfl Vote.zr rfl ?_
   intro n8 hn8 hf8
   refine Tr.sA rfl rfl rfl rfl (Vote.isCell (by first | exact oK  | exact his.ok)) Sz81 (Vote.length (by first | exact oK  | exact his.ok)) mM (Vote.length (by first | exact oK  | exact his.ok)) uU ?_
   refine Tr.nil (Aa (Sat.region ?_))
   refine Tr.m rfl rfl rfl ?_
   refine Tr.m rfl rfl rfl ?_
   refine Tr.lA rfl rfl rfl Y81 rfl Sz81 mM (Vote.length (by first | exact oK  | exact his.ok)) ?_
   refine Tr.call4C rfl rfl rfl rfl rfl rfl Body201 (blk_vote_1 (some ⟨p.2.1, 0, none⟩) (l ++ Au (UInt64.ofNat s.n) ++ Av Be (ds.take p.1)).length p.2.2 (l ++ Au (UInt64.ofNat s.n) ++ Av Be (ds.take p.1)) rfl (fun e => by cases e) (hle _) r d q (Nat.le_trans (hsz d (List.mem_of_getElem? hd)) hM)) (fun w h => ⟨SeesP.of (Ap h mM), his.ext h rfl, h.keeps.cell sP hW.2.2⟩) ?_
   rintro v23 out23 ⟨q2, c2, rfl, hq2, rfl⟩
   rw [show l ++ Au (UInt64.ofNat s.n) ++ Av Be (ds.take p.1) ++ blkB (Be d) = l ++ Au (UInt64.ofNat s.n) ++ Av Be (ds.take (p.1 + 1)) by rw [listB_step Be hd, ← List.append_assoc]] at hq2 ⊢
   refine Tr.a rfl rfl rfl ?_
   refine Tr.nil (B2 (Aa (Sat.region ?_)))
   refine Tr.aI rfl rfl rfl rfl oM ?_
   refine Tr.m rfl rfl rfl ?_
   refine Tr.nil (Aa ?_)
   exact ⟨(p.1 + 1, q2, c2), ⟨by simp only []; omega, hq2⟩, by simp only []; omega, Ar (wk1 rfl (wk1 rfl (wk1 rfl (wk1 rfl (wk1 rfl wk0))))) (wh1 mM wh0) nD⟩
  ·
   have hpe : p.1 = s.n := by omega
   have hds : ds = ds.take p.1 := by rw [List.take_of_length_le oM]
   refine Sat.exit (Bf (Bf (bl_h (Aa (Sat.seq (Sat.region ?_))))))
   refine Tr.m rfl rfl rfl ?_
   refine Tr.a rfl rfl rfl ?_
   refine Tr.nil (Aa (Sat.ret (Am ?_)))
   refine ⟨_, [⟨p.2.1, Ab (l ++ Au (UInt64.ofNat s.n) ++ Av Be ds), 5, p.2.2 * 1⟩], Ae rfl rfl, (by intro b hb; rw [List.mem_singleton.1 hb, hds]; simp only [List.take_take, Nat.min_self]; exact mem0), Bz, ⟨p.2.1, p.2.2, by rw [← hds], by rw [← hds] at hp2; exact hp2, rfl⟩⟩

end Go.Proofs.YtdifpjmfabhpiaaGreat
end

section
namespace Go.Proofs.YtdifpjmfabhpiaaGreat
open Go Hw

def DCert.bytes (D : DCert) : List UInt8 := blkB (cutR D.dCut) ++ Au (UInt64.ofNat D.dVotes.length) ++ Av Be D.dVotes
noncomputable def Bt (D : DCert) : List UInt8 := if D.check = 0 then D.bytes else []
theorem seqv_ok {W : World} {s : Sl} {rs ds : List Vote} (h : SeqIs Vote.cells 132 VoteIs W s rs ds) : ∀ d ∈ ds, d.ok := by
  intro d hd
  obtain ⟨j, hj, rfl⟩ := List.getElem_of_mem hd
  have hj2 : j < rs.length := by rw [h.nr, ← h.nd]; exact hj
  have := h.is j _ _ (List.getElem?_eq_getElem hj2) (List.getElem?_eq_getElem hj)
  rw [← this.eq]; exact this.ok
theorem voteBy_le {V : Vote} (h : V.ok) : (Be V).length ≤ 164 := by
  unfold Be
  split
  · have := voteN_le V
    rw [List.length_append, voteT_length h, h.l_fSig]; omega
  · simp
theorem DCert.facts {D : DCert} (h : D.check = 0) : D.dCut.check = 0 ∧ 1 ≤ D.dVotes.length ∧ D.dVotes.length ≤ 16 := by
  have h1 : ¬ D.head = true := fun e => by rw [cert_bad1 e] at h; cases h
  simp only [DCert.head, Bool.or_eq_true, Bool.not_eq_true', decide_eq_true_eq, decide_eq_false_iff_not] at h1
  omega
theorem cutR_le {C : Cut} {D : DCut} {W : World} (h : CutIs W C D) : (cutR D).length ≤ 2000 := by
  unfold cutR
  split
  · rename_i h1
    exact D.bytes_small h1 (h.fPrev ▸ h.ok.l_fPrev) h.fHeads.row
  · simp

theorem cert_bytes (C : Cert) (D : DCert) : Meets Tryz.prog 30 [agg C.cells] [] (fun W => CertIs W C D) (fun v out => ∃ s, v = .tuple #[s.v, i64 D.check] ∧ Hw.Acc s out (Ab (Bt D)) 5 (Bt D).length 1) := by
 intro W hW
 obtain ⟨rs, hvs⟩ := hW.fVotes
 have hcl := cutR_le hW.fCut
 have hvok := seqv_ok hvs
 have hvn := hvs.nd
 have hz := A8 (cutR D.dCut).length
 refine An Tryz.func30 rfl 24 Tryz.ntmps30 rfl ?_
 refine Sat.seq (Sat.region ?_)
 refine Tr.boxA rfl rfl ?_
 intro n1 hn1 hf1
 refine Tr.a rfl rfl rfl ?_
 refine Tr.a rfl rfl rfl ?_
 refine Tr.nil (Aa (Sat.seq (Sat.seq (Sat.region ?_))))
 refine Tr.lA rfl rfl rfl Y55 rfl Sz55 mM (Cert.length (by first | exact oK  | exact hW.ok | exact hW.ok.o_fCut)) ?_
 refine Tr.cV rfl rfl rfl rfl Body31 (cert_check C D) (fun w h => hW.ext h rfl) ?_
 refine Tr.a rfl rfl rfl ?_
 refine Tr.nil (Aa (Sat.seq (Sat.region ?_)))
 refine Tr.m rfl rfl rfl ?_
 refine Tr.nei rfl rfl rfl rfl rfl ?_
 refine Tr.nil (Aa ?_)
 first
  | refine Sat.condP rfl (fun hc0 => ?_) (fun hc0 => ?_)
  | refine Sat.condNP rfl (fun hc0 => ?_) (fun hc0 => ?_)
  | refine Sat.cond rfl (fun hc0 => ?_) (fun hc0 => ?_)
 ·
  refine Sat.seq (Sat.region ?_)
  refine Tr.m rfl rfl rfl ?_
  refine Tr.a rfl rfl rfl ?_
  refine Tr.a rfl rfl rfl ?_
  refine Tr.nil (Aa (Sat.ret (Ao (Am ?_))))
  refine Ak (out := []) (Ba rfl rfl rfl) Ad ?_
  exact ⟨Sl.nil, rfl, by rw [show Bt D = [] from if_neg hc0]; exact Acc.none⟩
 ·
  have hck : D.check = 0 := by omega
  obtain ⟨hk1, hk2, hk3⟩ := DCert.facts hck
  refine Sat.skip (Aa (Sat.seq (Sat.region ?_)))
  refine Tr.fld rfl rfl rfl Y55 rfl Ca dE _ rfl ?_
  refine Tr.lN (Cut.cells _) rfl rfl rfl Y53 rfl Ca mM (Cert.row_fCut (by first | exact oK  | exact hW.ok | exact hW.ok.o_fCut)) (Cert.rl_fCut (by first | exact oK  | exact hW.ok | exact hW.ok.o_fCut)) ?_
  refine Tr.call4 rfl rfl rfl rfl rfl Body117 (cut_bytes C.fCut D.dCut) (fun w h => hW.fCut.ext h rfl) ?_
  rintro v15 out15 ⟨s15, rfl, hac15⟩
  have hn15 := hac15.num
  refine Tr.m rfl rfl rfl ?_
  refine Tr.eX rfl rfl rfl rfl ?_
  refine Tr.eX rfl rfl rfl rfl ?_
  refine Tr.a rfl rfl rfl ?_
  refine Tr.a rfl rfl rfl ?_
  refine Tr.nil (Aa (Sat.seq ?_))
  refine Sat.withK (sp_x (sp_k sp_n)) rfl ?_
  refine Sat.draw [(0, 0), (0, 2), (0, 3), (4, 1), (4, 4), (4, 5), (0, 6), (0, 7)] Bv zK ?_
  refine Tr.m rfl rfl rfl ?_
  refine Tr.fld rfl rfl rfl Y55 rfl Sz24 dE _ rfl ?_
  refine Tr.kload1 rfl rfl rfl Y24 rfl mM (by first | exact Cert.get_fVotes (by first | exact oK  | exact hW.ok | exact hW.ok.o_fCut) | exact vL) ?_
  refine Tr.call4 rfl rfl rfl rfl rfl Body121 (oct_Block none s15.p 0 0 s15.n s15.c [] (cutR D.dCut) rfl hn15.symm (fun _ => rfl) (fun e => hac15.nil e) dE oM) (fun w h => ⟨SeesP.nil, hac15.see (Lies.of h iN)⟩) ?_
  rintro v19 out19 ⟨q19, c19, rfl, hc19, rfl⟩
  have hb19 : [] ++ Au (UInt64.ofNat s15.n) ++ cutR D.dCut = blkB (cutR D.dCut) := by rw [blkB, hn15]; rfl
  rw [hb19]
  refine Tr.call4 rfl rfl rfl rfl rfl Body113 (mk_blk_vote) tV ?_
  rintro v22 out22 ⟨c22, rfl, rfl⟩
  refine Tr.call4 rfl rfl rfl rfl rfl Body112 (put_votes (some ⟨q19, 0, none⟩) (0 + szN s15.n + s15.n) c19 (blkB (cutR D.dCut)) C.fVotes D.dVotes c22 164 (by rw [blkB_length oM, hn15]; omega) (fun e => by cases e) dE (fun d hd => voteBy_le (hvok d hd)) oM (by rw [hn15]; have : C.fVotes.n * (164 + 9) ≤ 16 * 173 := Nat.mul_le_mul oM (Nat.le_refl _); omega)) (fun w h => ⟨SeesP.of (Ap (cs := Ab (blkB (cutR D.dCut))) h mM), Votes_ext h rfl ⟨rs, hvs⟩, (Ai (B := ⟨c22, _, _, _⟩) h mM).cell (o := 0) rfl⟩) ?_
  rintro v23 out23 ⟨q23, c23, rfl, hc23, rfl⟩
  refine Tr.a rfl rfl rfl ?_
  refine Tr.a rfl rfl rfl ?_
  refine Tr.nil (Aa (Sat.ret (Am ?_)))
  simp only [List.cons_append, List.nil_append, List.append_nil]
  refine Ak (out := (⟨q23, Ab (blkB (cutR D.dCut) ++ Au (UInt64.ofNat C.fVotes.n) ++ Av Be D.dVotes), 5, c23 * 1⟩ :: [])) (Ba rfl rfl rfl) (Ac rM Ad) ?_
  refine ⟨⟨some ⟨q23, 0, none⟩, (blkB (cutR D.dCut) ++ Au (UInt64.ofNat C.fVotes.n) ++ Av Be D.dVotes).length, c23⟩, (by rw [hck]; try rfl), ?_⟩
  rw [show Bt D = D.bytes from if_pos hck, DCert.bytes, hvn]
  exact Acc.some hc23 (by rw [Ab, List.length_map, Nat.mul_one])

end Go.Proofs.YtdifpjmfabhpiaaGreat
end

section
namespace Hw
open Go Go.RowKit
section
variable {C : Cx} {fn : Func} {s : St}
end

def AccO (s : Sl) (bl : List Blk) (cells : List Value) (E : TypeId) (n : Nat) : Prop :=
  (s = Sl.nil ∧ bl = [] ∧ cells = [] ∧ n = 0) ∨ ∃ q o c m pre post, s = ⟨some ⟨q, o, none⟩, n, c⟩ ∧ n ≤ c ∧ cells.length = n ∧ pre.length = o ∧ (post = [] ∨ n = c) ∧ o + c ≤ m ∧ bl = [⟨q, pre ++ cells ++ post, E, m⟩]
section
variable {s : Sl} {bl : List Blk} {cells : List Value} {E : TypeId} {n : Nat}
theorem AccO.none : AccO Sl.nil [] [] E 0 := .inl ⟨rfl, rfl, rfl, rfl⟩
theorem AccO.num (h : AccO s bl cells E n) : s.n = n := by rcases h with ⟨rfl, _, _, rfl⟩ | ⟨q, o, c, m, pre, post, rfl, _⟩ <;> rfl
theorem AccO.len (h : AccO s bl cells E n) : cells.length = n := by rcases h with ⟨_, _, rfl, rfl⟩ | ⟨q, o, c, m, pre, post, _, _, h, _⟩; rfl; exact h
theorem AccO.cap (h : AccO s bl cells E n) : s.n ≤ s.c := by rcases h with ⟨rfl, _⟩ | ⟨q, o, c, m, pre, post, rfl, h, _⟩; exact Nat.le_refl _; exact h
theorem AccO.nilc (h : AccO s bl cells E n) (hp : s.p = .none) : s.c = 0 := by rcases h with ⟨rfl, _⟩ | ⟨q, o, c, m, pre, post, rfl, _⟩; rfl; cases hp
theorem AccO.see (h : AccO s bl cells E n) {w : World} (hw : Lies bl w) : SeesP w s.p cells := by
  rcases h with ⟨_, _, rfl, _⟩ | ⟨q, o, c, m, pre, post, rfl, _, h3, h4, _, _, rfl⟩
  · exact SeesP.nil
  · refine SeesP.of fun j v hj => ?_
    refine (hw _ (List.mem_singleton.2 rfl)).cell (o := o + j) (v := v) ?_
    show (pre ++ cells ++ post)[o + j]? = some v
    have hlt := (List.getElem?_eq_some_iff.1 hj).1
    rw [List.append_assoc, List.getElem?_append_right oM, h4, Nat.add_sub_cancel_left, List.getElem?_append_left hlt]
    exact hj
theorem AccO.pos (h : AccO s bl cells E n) (hn : 0 < n) : ∃ q o c m pre post, s = ⟨some ⟨q, o, .none⟩, n, c⟩ ∧ n ≤ c ∧ cells.length = n ∧ pre.length = o ∧ (post = [] ∨ n = c) ∧ o + c ≤ m ∧ bl = [⟨q, pre ++ cells ++ post, E, m⟩] := by
  rcases h with ⟨_, _, _, rfl⟩ | h
  · exact absurd hn dE
  · exact h
theorem AccO.cut {q o c m : Nat} {pre post : List Value} {x : Value} {l : List Value} (hc : n + 1 ≤ c) (hl : l.length = n) (hp : pre.length = o) (hpo : post = [] ∨ n + 1 = c) (hm : o + c ≤ m) : AccO ⟨some ⟨q, if c = 1 then o else o + 1 * 1, .none⟩, n + 1 - 1, c - 1⟩ [⟨q, pre ++ (x :: l) ++ post, E, m⟩] l E n := by
  by_cases e : c = 1
  · obtain rfl : n = 0 := by omega
    obtain rfl : l = [] := List.eq_nil_of_length_eq_zero hl
    subst e
    rw [if_pos rfl]
    exact .inr ⟨q, o, 0, m, pre, x :: post, rfl, Nat.le_refl _, rfl, hp, .inr rfl, by omega, by simp⟩
  · rw [if_neg e]
    exact .inr ⟨q, o + 1, c - 1, m, pre ++ [x], post, by simp, by omega, hl, by simp [hp], hpo.imp_right (fun h => by omega), by omega, by simp⟩
theorem Acc.off {c : Nat} (h : Acc s bl cells E n 1) : AccO s bl cells E n := by
  rcases h with ⟨rfl, rfl, rfl, rfl⟩ | ⟨q, c, rfl, h1, h2, rfl⟩
  · exact .inl ⟨rfl, rfl, rfl, rfl⟩
  · exact .inr ⟨q, 0, c, c * 1, [], [], rfl, h1, by omega, rfl, .inl rfl, by omega, by simp⟩
end
section
variable {C : Cx} {ops : Array Oper} {rest : List (Nat × Oper)} {sl : List (Nat × Value)} {hp hp' : List Blk} {Q : St → Prop} {c d : Nat} {ty : TypeId} {pos : String} {af : Array Edge} {g : Option (Nat × Bool)}
theorem Tr.mkRoomN {T E : TypeId} {x y : Operand} {kx ky : IntKind} {z : Value} {by' size : Nat} {mi : Int} (m : Nat) (hg : Al ops sl g = true) (hk : okG c d C.N = true) (hx : Aj sl x = some (.int kx 0)) (hy : Aj sl y = some (.int ky mi)) (hmi : mi = m)
    (hu : C.P.underlying T = some (.slice E)) (hs : Sz C.P E size) (hz : Zr C.P E z) (hb : By C.P E by') (hn : m ≤ 1000000) (hfit : m * by' ≤ 140737488355328)
    (k : ∀ q, Tr C ops rest ⟨(d, .slice (some ⟨q, 0, none⟩) 0 m) :: sl, ⟨q, [], E, m * size⟩ :: hp⟩ Q) : Tr C ops ((c, ⟨some d, .makeSlice T x y, ty, pos, af, g⟩) :: rest) ⟨sl, hp⟩ Q := by
  subst hmi
  simp only [okG, Bool.and_eq_true, Bool.or_eq_true] at hk
  refine Tr.grow (ρ := Nat) (fun _ => True) (fun q => .slice (some ⟨q, 0, none⟩) 0 m) (fun q => [⟨q, [], E, m * size⟩]) (hk.1.imp nbeq' nbeq') (A5 hg) (B6 (nblt hk.2)) ⟨known2 hx hy, fun l hl => ?_, fun a w hf hh => ?_⟩ (fun q _ => k q)
  · obtain ⟨q, _, hq⟩ := fresh_is 0 l
    refine ⟨q, trivial, ?_⟩
    simp only [List.singleton_append, List.map_cons, List.nodup_cons]
    exact ⟨fun h => by obtain ⟨b, hb, e⟩ := List.mem_map.1 h; exact hq b hb e, hl⟩
  · have h1 := hf x (by simp [Op.operands]); rw [hx] at h1
    have h2 := hf y (by simp [Op.operands]); rw [hy] at h2
    simp only [Option.some.injEq] at h1 h2
    have rs := run_sz hs
    unfold Sz at hs; unfold Zr at hz; unfold By at hb
    cases hi : C.P.info? E with
    | none => rw [hi] at hs; simp at hs
    | some i =>
      rw [hi] at hs hz hb
      simp only [Option.map_some, Option.some.injEq, Option.bind_some] at hs hz hb
      have wn : IntKind.i64.wrap (m : Int) = m := i64_wrap oM
      have w0 : IntKind.i64.wrap 0 = 0 := by decide
      have hm2 : ((by' : Int) * m) = ((m * by' : Nat) : Int) := by rw [Int.mul_comm]; simp
      have n1 : ¬ ((m : Int) < 0) := by omega
      have n2 : ¬ (281474976710656 < (i.bytes : Int) * m) := by rw [hb, hm2]; omega
      have n5 : ¬ (140737488355328 < m * i.bytes) := by rw [hb]; omega
      have hrun : ∃ arr : Array Value, arr.size = m * size ∧ (execOp a.eval ⟨some d, .makeSlice T x y, ty, pos, af, g⟩).run C.P w = .ok (.value (.slice (some ⟨w.heap.size, 0, none⟩) 0 m)) { w with heap := w.heap.push (.cells arr E) } := by
        by_cases h0 : m * size = 0
        · refine ⟨(Array.range (m * size)).map fun x => (#[] : Array Value)[x % 0]!, by simp, ?_⟩
          simp [execOp, Instr.makeSlice, run_underlying hu, asInt, asIntOf, typeInfo, hi, rs, zeroValue, hz, ← h1, ← h2, wn, w0, n1, n2, n5, h0, newRow, newObj, askRoom, roomBytes]
          simp [Sem.run]
        · refine ⟨(Array.range (m * size)).map fun x => z.cells[x % z.cells.size]!, by simp, ?_⟩
          simp [execOp, Instr.makeSlice, run_underlying hu, asInt, asIntOf, typeInfo, hi, rs, zeroValue, hz, ← h1, ← h2, wn, w0, n1, n2, n5, h0, newRow, newObj, askRoom, roomBytes]
          simp [Sem.run]
      obtain ⟨arr, ha, hrun⟩ := hrun
      unfold Oper.wp
      rw [hrun]
      refine ⟨w.heap.size, trivial, rfl, ⟨⟨rfl, rfl, rfl, by simp, fun k hk _ => ?_⟩, fun b hb => ?_, by simp, fun b hb => ?_⟩⟩
      · simp only [Array.getElem?_push]
        rw [if_neg oM]
      · obtain rfl := List.mem_singleton.1 hb
        exact ⟨arr, (0, 0), by simp, ha, by simp, free0⟩
      · obtain rfl := List.mem_singleton.1 hb
        exact .inl (Nat.le_refl _)
theorem Tr.extractB {x : Operand} {vs : Array Value} {i : Nat} {b : Bool} (hg : Al ops sl g = true) (hk : okD c d C.N = true) (hx : Aj sl x = some (.tuple vs)) (hv : vs[i]? = some (.bool b))
    (kt : b = true → Tr C ops rest ⟨(d, .bool true) :: sl, hp⟩ Q) (kf : b = false → Tr C ops rest ⟨(d, .bool false) :: sl, hp⟩ Q) : Tr C ops ((c, ⟨some d, .extract x i, ty, pos, af, g⟩) :: rest) ⟨sl, hp⟩ Q := by
  cases b
  · exact Tr.eX hg hk hx hv (kf rfl)
  · exact Tr.eX hg hk hx hv (kt rfl)
end
end Hw
end

section
namespace Go.Proofs.YtdifpjmfabhpiaaGreat
open Go Hw

theorem rdblk_loose (n q N cp a1 : Nat) (e1 : Int) (ys : List UInt8) : LooseL [n] (fun v out => ∃ s bl, v = Sl.v s ∧ Hw.Acc s bl (Ab ys) 5 ys.length 1 ∧ out = bl ++ [RB n q N cp a1 e1]) := fun l h1 h2 => by
  obtain ⟨n0, _, hn0⟩ := fresh_is (n + 1) l
  refine ⟨_, _, ⟨⟨some ⟨n0, 0, none⟩, ys.length, ys.length⟩, [⟨n0, Ab ys, 5, ys.length * 1⟩], rfl, Acc.some (Nat.le_refl _) (by simp [Ab]), rfl⟩, ?_⟩
  simp only [List.cons_append, List.nil_append, List.map_cons, List.nodup_cons, List.mem_cons, RB]
  refine ⟨?_, ?_, h1⟩
  · rintro (h | h)
    · omega
    · obtain ⟨b, hb, e⟩ := List.mem_map.1 h
      exact hn0 b hb e
  · intro h
    obtain ⟨b, hb, e⟩ := List.mem_map.1 h
    exact h2 b hb (by rw [e]; exact List.mem_cons_self)

theorem item_vote (n q N cp at' : Nat) (e : Int) (c : Nat) (xs : List UInt8) (hx : xs.length = N) (hat : at' ≤ N) (hN : N ≤ cp) (hbig : N ≤ 90000) (hcn : c ≠ n) (o : Option (List UInt8)) (a1 : Nat) (e1 : Int) (h1 : blkR xs at' e = (o, a1, e1)) (hvk : (voteRd (o.getD [])).1.ok) : Meets Tryz.prog 194 [ptr n 0, ptr c 0] [n] (fun W => BlkOk W (RB n q N cp at' e) ∧ Cb W q 0 (Ab xs) ∧ q ≠ n ∧ W.cell? ⟨c, 0, none⟩ = some (.func (.func 77) #[] #[])) (fun v out => v = .tuple #[agg (voteRd (o.getD [])).1.cells, .bool (decide ((voteRd (o.getD [])).2 = 0))] ∧ out = [RB n q N cp a1 e1]) := by
 intro W hW
 have hb1 := blkE_le h1 hx hat
 refine A7 (hp0 := [RB n q N cp at' e]) Tryz.func194 rfl 17 Tryz.ntmps194 rfl (HRep.one hW.1) ?_
 refine Sat.seq (Sat.region ?_)
 refine Tr.alloc (cs := Vote.zero.cells) rfl Vote.zr rfl ?_
 intro n3 hn3 hf3
 refine Tr.a rfl rfl rfl ?_
 refine Tr.nil (Aa (Sat.seq ?_))
 refine Sat.withK (sp_v (sp_v sp_n)) rfl ?_
 refine Sat.draw [(0, 0), (0, 1), (5, 2), (3, 3), (0, 4), (0, 5), (0, 6), (2, 7), (4, 8), (0, 9)] Bv zK ?_
 refine Tr.kloadE rfl rfl rfl Tryz.underlying114 rfl (by first | (simp; done) | (simp; exact hW.2.2) | (simp [Cx.with]; done) | (simp [Cx.with]; omega)) (hW.2.2.2) ?_
 refine Tr.m rfl rfl rfl ?_
 refine Tr.callL5 (L := [RB n q N cp at' e]) rfl rfl rfl rfl rfl Body120 (rd_BlockE n q N cp at' e xs hx hat hN hbig o a1 e1 h1) (rdblk_loose n q N cp a1 e1 (o.getD [])) (Ac rM Ad) (A0 rfl) (fun w h => ⟨Ai h mM, Bk h (by simp [Cx.with]; exact hW.2.2.1) hW.2.1, hW.2.2.1⟩) ?_
 rintro v10 out10 ⟨s10, bl10, rfl, hac10, rfl⟩
 simp only [List.append_assoc, List.cons_append, List.nil_append]
 refine Tr.cV rfl rfl rfl rfl Body77 (vote_read s10.p s10.n s10.c (o.getD []) hac10.num.symm (fun e => hac10.nil e) (by rw [hac10.num]; omega)) (fun w h => hac10.see (Lies.of h iN)) ?_
 refine Tr.m rfl rfl rfl ?_
 refine Tr.eX rfl rfl rfl rfl ?_
 refine Tr.eX rfl rfl rfl rfl ?_
 refine Tr.alloc (cs := Vote.zero.cells) rfl Vote.zr rfl ?_
 intro n5 hn5 hf5
 refine Tr.sA rfl rfl rfl rfl (Vote.isCell (by first | exact oK  | exact hvk)) Sz81 (Vote.length (by first | exact oK  | exact hvk)) mM (Vote.length (by first | exact oK  | exact hvk)) uU ?_
 refine Tr.a rfl rfl rfl ?_
 refine Tr.nil (Aa (Sat.seq (Sat.region ?_)))
 simp only [List.cons_append, List.nil_append, List.append_nil, List.append_assoc]
 refine Tr.lA rfl rfl rfl Y81 rfl Sz81 mM (Vote.length (by first | exact oK  | exact hvk)) ?_
 refine Tr.m rfl rfl rfl ?_
 refine Tr.eqi rfl rfl rfl rfl rfl ?_
 refine Tr.sA rfl rfl rfl rfl (Vote.isCell (by first | exact oK  | exact hvk)) Sz81 (Vote.length (by first | exact oK  | exact hvk)) mM (Vote.length (by first | exact oK  | exact hvk)) uU ?_
 refine Tr.a rfl rfl rfl ?_
 refine Tr.nil (Aa (Sat.ret (Am ?_)))
 refine Ak (out := (RB n q N cp a1 e1 :: [])) (A6 rfl rfl rfl Y81 rfl Sz81 mM (by first | (simp; done) | exact Vote.length (by first | exact oK  | exact hvk))) (Ac rM Ad) ?_
 exact ⟨rfl, rfl⟩

theorem pm_one {hp l R : List Blk} {x : Blk} (h : hp.Perm ((x :: l) ++ R)) : hp.Perm (([x] ++ l) ++ R) := h
def votesR (xs : List UInt8) : Nat → Nat → Int → Option (List Vote × Nat × Int)
  | 0, a, e => some ([], a, e)
  | k + 1, a, e => (votesR xs k a e).bind fun r => if (voteRd ((blkR xs r.2.1 r.2.2).1.getD [])).2 = 0 ∧ (blkR xs r.2.1 r.2.2).2.2 = 0 then some (r.1 ++ [(voteRd ((blkR xs r.2.1 r.2.2).1.getD [])).1], (blkR xs r.2.1 r.2.2).2) else none
def readVL (xs : List UInt8) (M a : Nat) (e : Int) : Option (List Vote × Nat × Int) :=
  if (Bg xs a e).2.2 = 0 ∧ (Bg xs a e).1.toNat ≤ M then votesR xs (Bg xs a e).1.toNat (Bg xs a e).2.1 (Bg xs a e).2.2 else none
theorem votesR_step {xs : List UInt8} {k a : Nat} {e : Int} {vs : List Vote} {a2 a3 : Nat} {e2 e3 : Int} {o : Option (List UInt8)} (h : votesR xs k a e = some (vs, a2, e2)) (hb : blkR xs a2 e2 = (o, a3, e3)) (h1 : (voteRd (o.getD [])).2 = 0) (h2 : e3 = 0) : votesR xs (k + 1) a e = some (vs ++ [(voteRd (o.getD [])).1], a3, e3) := by
  rw [votesR, h, Option.bind_some]
  simp only [hb]
  rw [if_pos ⟨h1, h2⟩]
theorem votesR_stop {xs : List UInt8} {k a : Nat} {e : Int} {vs : List Vote} {a2 a3 : Nat} {e2 e3 : Int} {o : Option (List UInt8)} (h : votesR xs k a e = some (vs, a2, e2)) (hb : blkR xs a2 e2 = (o, a3, e3)) (h1 : ¬ ((voteRd (o.getD [])).2 = 0 ∧ e3 = 0)) : ∀ m, k < m → votesR xs m a e = none
  | 0, hm => absurd hm oM
  | m + 1, hm => by
    rcases Nat.lt_succ_iff_lt_or_eq.1 hm with h3 | rfl
    · rw [votesR, votesR_stop h hb h1 m h3]; rfl
    · rw [votesR, h, Option.bind_some]
      simp only [hb]
      rw [if_neg h1]
theorem voteRd_vok (xs : List UInt8) : (voteRd xs).1.ok := by
  unfold voteRd
  split
  · obtain ⟨x1, r1, h1⟩ : ∃ l r, Bg xs 0 0 = (l, r) := ⟨_, _, rfl⟩
    obtain ⟨a1, e1⟩ := r1
    obtain ⟨x2, r2, h2⟩ : ∃ l r, Bg xs a1 e1 = (l, r) := ⟨_, _, rfl⟩
    obtain ⟨a2, e2⟩ := r2
    obtain ⟨x3, r3, h3⟩ : ∃ l r, Bg xs a2 e2 = (l, r) := ⟨_, _, rfl⟩
    obtain ⟨a3, e3⟩ := r3
    obtain ⟨l4, r4, h4⟩ : ∃ l r, digR xs a3 e3 = (l, r) := ⟨_, _, rfl⟩
    obtain ⟨a4, e4⟩ := r4
    obtain ⟨x5, r5, h5⟩ : ∃ l r, Bg xs a4 e4 = (l, r) := ⟨_, _, rfl⟩
    obtain ⟨a5, e5⟩ := r5
    obtain ⟨l6, r6, h6⟩ : ∃ l r, digR xs a5 e5 = (l, r) := ⟨_, _, rfl⟩
    obtain ⟨a6, e6⟩ := r6
    obtain ⟨l7, r7, h7⟩ : ∃ l r, takR xs 64 a6 e6 = (l, r) := ⟨_, _, rfl⟩
    obtain ⟨a7, e7⟩ := r7
    have hd1 := numE_le h1 rfl (Nat.zero_le _)
    have hd2 := numE_le h2 rfl hd1
    have hd3 := numE_le h3 rfl hd2
    have hd4 := digE_le h4 rfl hd3
    have hd5 := numE_le h5 rfl hd4.1
    have hd6 := digE_le h6 rfl hd5
    have hd7 := takE_le h7 rfl hd6.1
    have hvp : (voteP xs).1 = (⟨x1, x2, ((min x3.toNat 4 : Nat) : Int), l4, x5, l6, l7 ++ (List.replicate 64 0).drop l7.length⟩ : Vote) := by simp only [voteP, h1, h2, h3, h4, h5, h6, h7]
    show (voteP xs).1.ok
    rw [hvp]
    exact ⟨hd4.2, hd6.2, by rcases hd7.2 with h | h <;> simp [h]⟩
  · exact Vote.zero_ok
theorem wf_small {x : Int} (h0 : 0 ≤ x) (h4 : x ≤ 4) : (Lit.int .i64 x).wf = true := by
  have e1 : IntKind.i64.min = -9223372036854775808 := rfl
  have e2 : IntKind.i64.max = 9223372036854775807 := rfl
  simp [Lit.wf]
  omega
structure Vgood (V : Vote) : Prop where
  ok : V.ok
  wf : (Lit.int .i64 V.fPhase).wf = true
theorem voteRd_good (xs : List UInt8) : Vgood (voteRd xs).1 := ⟨voteRd_vok xs, by
  unfold voteRd
  split
  · refine wf_small ?_ ?_ <;> simp only [voteP] <;> omega
  · exact wf_small dE dE⟩
def VotesRead (xs : List UInt8) (M a : Nat) (e : Int) (n q N cp : Nat) (v : Value) (out : List Blk) : Prop :=
  ∃ s bl a1 e1, a1 ≤ N ∧ out = bl ++ [RB n q N cp a1 e1] ∧ v = .tuple #[Sl.v s, .bool (readVL xs M a e).isSome] ∧ (∀ vs a2 e2, readVL xs M a e = some (vs, a2, e2) → a1 = a2 ∧ e1 = e2 ∧ vs.length ≤ M ∧ (∀ V ∈ vs, Vgood V) ∧ Hw.Acc s bl (vs.map Vote.cells).flatten 81 vs.length 132)
theorem votes_none {xs : List UInt8} {M a : Nat} {e : Int} {n q N cp a1 : Nat} {e1 : Int} (h : readVL xs M a e = none) (ha : a1 ≤ N) : VotesRead xs M a e n q N cp (.tuple #[.slice none 0 0, .bool false]) (RB n q N cp a1 e1 :: []) :=
  ⟨Sl.nil, [], a1, e1, ha, rfl, by rw [h]; rfl, fun vs a2 e2 h2 => by rw [h] at h2; cases h2⟩
structure VSt where
  k : Nat
  s : Sl
  bl : List Blk
  vs : List Vote
  a : Nat
  e : Int

theorem read_votes (n q N cp at' : Nat) (e : Int) (c M : Nat) (xs : List UInt8) (hx : xs.length = N) (hat : at' ≤ N) (hN : N ≤ cp) (hbig : N ≤ 90000) (hcn : c ≠ n) (hM : M ≤ 1000) : Meets Tryz.prog 99 [ptr n 0, i64 (M : Int), .func (.func 194) #[] #[ptr c 0]] [n] (fun W => BlkOk W (RB n q N cp at' e) ∧ Cb W q 0 (Ab xs) ∧ q ≠ n ∧ W.cell? ⟨c, 0, none⟩ = some (.func (.func 77) #[] #[])) (VotesRead xs M at' e n q N cp) := by
 intro W hW
 obtain ⟨x1, r1, h1⟩ : ∃ l r, Bg xs at' e = (l, r) := ⟨_, _, rfl⟩
 obtain ⟨a1, e1⟩ := r1
 have hd1 := numE_le h1 hx hat
 have hMw : (UInt64.ofNat M).toNat = M := A1 oM
 have hrv : readVL xs M at' e = if e1 = 0 ∧ x1.toNat ≤ M then votesR xs x1.toNat a1 e1 else none := by simp only [readVL, h1]
 refine A7 (hp0 := [RB n q N cp at' e]) Tryz.func99 rfl 47 Tryz.ntmps99 rfl (HRep.one hW.1) ?_
 refine Sat.seq (Sat.region ?_)
 refine Tr.a rfl rfl rfl ?_
 refine Tr.a rfl rfl rfl ?_
 refine Tr.nil (Aa (Sat.seq (Sat.region ?_)))
 refine Tr.m rfl rfl rfl ?_
 refine Tr.callL (L := [RB n q N cp at' e]) rfl rfl rfl rfl rfl Body94 (rd_NumberE n q N cp at' e xs hx hat hN oM x1 a1 e1 h1) (Ac rM Ad) (A0 rfl) (fun w h => ⟨Ai h mM, Bk h (by simp; exact hW.2.2.1) hW.2.1, hW.2.2.1⟩) ?_
 rintro v13 out13 ⟨rfl, rfl⟩
 refine Tr.a rfl rfl rfl ?_
 refine Tr.nil (Aa (Sat.seq (Sat.seq (Sat.region ?_))))
 refine Tr.m rfl rfl rfl ?_
 refine Tr.cV rfl rfl rfl rfl Body192 (rd_Err n q N cp a1 e1) (fun w h => Ai h mM) ?_
 refine two (fun r hr k => Tr.nei rfl rfl rfl rfl hr k) (fun hs2_20 => ?_) (fun hs2_20 => ?_)
 ·
  first | have hs2_2 := of_decide_eq_true hs2_20 | have hs2_2 := of_decide_eq_false hs2_20 | have hs2_2 := A2 hs2_20 | have hs2_2 := A3 hs2_20 | have hs2_2 := hs2_20
  refine Tr.m rfl rfl rfl ?_
  refine Tr.skp rfl rfl ?_
  refine Tr.skp rfl rfl ?_
  refine Tr.skp rfl rfl ?_
  refine Tr.skp rfl rfl ?_
  refine Tr.pick rfl rfl rfl rfl rfl rfl ?_
  refine Tr.nil (Aa ?_)
  refine Sat.cond_t rfl rfl ?_
  refine Sat.seq (Sat.region ?_)
  refine Tr.a rfl rfl rfl ?_
  refine Tr.a rfl rfl rfl ?_
  refine Tr.nil (Aa (Sat.ret (Ao (Am ?_))))
  refine Ak (out := (RB n q N cp a1 e1 :: [])) (Ba rfl rfl rfl) (Ac rM Ad) ?_
  exact votes_none (by rw [hrv]; exact if_neg (fun h => by omega)) oM
 ·
  first | have hs2_2 := of_decide_eq_true hs2_20 | have hs2_2 := of_decide_eq_false hs2_20 | have hs2_2 := A2 hs2_20 | have hs2_2 := A3 hs2_20 | have hs2_2 := hs2_20
  refine Tr.m rfl rfl rfl ?_
  refine Tr.m rfl rfl rfl ?_
  refine Tr.m rfl rfl rfl ?_
  refine Tr.conv rfl rfl rfl Y3 Y48 (Bh _) ?_
  rw [word_nat (n := M) oM]
  refine Tr.gtr rfl rfl rfl rfl rfl ?_
  refine Tr.pick rfl rfl rfl rfl rfl rfl ?_
  refine Tr.nil (Aa ?_)
  first
   | refine Sat.condP rfl (fun hc0 => ?_) (fun hc0 => ?_)
   | refine Sat.condNP rfl (fun hc0 => ?_) (fun hc0 => ?_)
   | refine Sat.cond rfl (fun hc0 => ?_) (fun hc0 => ?_)
  ·
   have hno : ¬ (e1 = 0 ∧ x1.toNat ≤ M) := by omega
   refine Sat.seq (Sat.region ?_)
   refine Tr.a rfl rfl rfl ?_
   refine Tr.a rfl rfl rfl ?_
   refine Tr.nil (Aa (Sat.ret (Ao (Am ?_))))
   refine Ak (out := (RB n q N cp a1 e1 :: [])) (Ba rfl rfl rfl) (Ac rM Ad) ?_
   exact votes_none (by rw [hrv]; exact if_neg (fun h => by omega)) oM
  ·
   have hyes : e1 = 0 ∧ x1.toNat ≤ M := by omega
   have hx64 : x1 = UInt64.ofNat x1.toNat := by simp
   refine Sat.skip (Aa (Sat.seq (Sat.region ?_)))
   refine Tr.m rfl rfl rfl ?_
   refine Tr.mkRoomN (z := agg Vote.zero.cells) (by' := 160) x1.toNat rfl rfl rfl rfl rfl Y24 Sz81 Vote.zr (by unfold By; kernel_rfl) oM oM ?_
   intro q9
   refine Tr.a rfl rfl rfl ?_
   refine Tr.nil (Aa (Sat.seq (Sat.seq (Sat.region ?_))))
   refine Tr.m rfl rfl rfl ?_
   refine Tr.m rfl rfl rfl ?_
   refine Tr.nil (Aa (Sat.block ?_))
   refine Sat.loop (ι := VSt) (fun p => ⟨[(0, ptr n 0), (2, .func (.func 194) #[] #[ptr c 0]), (9, p.s.v), (25, u64 x1), (26, u64 (UInt64.ofNat p.k))], (RB n q N cp p.a p.e :: (p.bl ++ []))⟩) (fun p => p.k ≤ x1.toNat ∧ votesR xs p.k a1 e1 = some (p.vs, p.a, p.e) ∧ p.a ≤ N ∧ Hw.Acc p.s p.bl (p.vs.map Vote.cells).flatten 81 p.k 132 ∧ p.vs.length = p.k ∧ ∀ V ∈ p.vs, Vgood V) (fun p => x1.toNat - p.k) (⟨0, ⟨some ⟨q9, 0, none⟩, 0, x1.toNat⟩, [⟨q9, [], 81, x1.toNat * 132⟩], [], a1, e1⟩) ?_ ?_ ?_
   · exact ⟨Nat.zero_le _, rfl, hd1, Acc.some (Nat.zero_le _) sP, rfl, fun V h => (by cases h)⟩
   · exact Af (wk1 rfl (wk1 rfl (wk1 rfl (wk1 rfl (wk1 rfl wk0))))) (Ac rM (pm_one (Ac rM Ad)))
   ·
    rintro p hp
    obtain ⟨k, s, bl, vs, a2, e2⟩ := p
    obtain ⟨hk, hvr, ha2, hac, hvl, hvo⟩ := hp
    dsimp only at hk hvr ha2 hac hvl hvo ⊢
    obtain ⟨o, r3, hb3⟩ : ∃ l r, blkR xs a2 e2 = (l, r) := ⟨_, _, rfl⟩
    obtain ⟨a3, e3⟩ := r3
    have hd3 := blkE_le hb3 hx ha2
    refine Sat.seq (Sat.region ?_)
    refine Tr.lss rfl rfl rfl rfl rfl ?_
    refine Tr.nil (Aa (Sat.seq ?_))
    first
     | refine Sat.condP rfl (fun hc1 => ?_) (fun hc1 => ?_)
     | refine Sat.condNP rfl (fun hc1 => ?_) (fun hc1 => ?_)
     | refine Sat.cond rfl (fun hc1 => ?_) (fun hc1 => ?_)
    ·
     have hk64 : (UInt64.ofNat k).toNat = k := A1 oM
     have hk2 : k < x1.toNat := by omega
     refine Sat.skip (Aa (Sat.seq (Sat.block (Sat.seq (Sat.region ?_)))))
     refine Tr.m rfl rfl rfl ?_
     refine Tr.m rfl rfl rfl ?_
     refine Tr.callCL (L := [RB n q N cp a2 e2]) rfl rfl rfl rfl rfl rfl Body194 (item_vote n q N cp a2 e2 c xs hx ha2 hN hbig hcn o a3 e3 hb3 (voteRd_vok _)) (Ac rM Ad) (A0 rfl) (fun w h => ⟨Ai h mM, Bk h (by simp; exact hW.2.2.1) hW.2.1, hW.2.2.1, h.keeps.cell (by simp; exact hcn) hW.2.2.2⟩) ?_
     rintro v31 out31 ⟨rfl, rfl⟩
     refine Tr.m rfl rfl rfl ?_
     refine Tr.eX rfl rfl rfl rfl ?_
     refine Tr.extractB rfl rfl rfl rfl (fun hs7_50 => ?_) (fun hs7_50 => ?_)
     ·
      first | have hs7_5 := of_decide_eq_true hs7_50 | have hs7_5 := of_decide_eq_false hs7_50 | have hs7_5 := A2 hs7_50 | have hs7_5 := A3 hs7_50 | have hs7_5 := hs7_50
      refine Tr.alloc (cs := Vote.zero.cells) rfl Vote.zr rfl ?_
      intro n10 hn10 hf10
      refine Tr.sA rfl rfl rfl rfl (Vote.isCell (by first | exact oK  | exact voteRd_vok _)) Sz81 (Vote.length (by first | exact oK  | exact voteRd_vok _)) mM (Vote.length (by first | exact oK  | exact voteRd_vok _)) uU ?_
      refine Tr.a rfl rfl rfl ?_
      refine Tr.nil (Aa (Sat.seq (Sat.seq (Sat.region ?_))))
      refine Tr.m rfl rfl rfl ?_
      refine Tr.not rfl rfl rfl ?_
      refine Tr.m rfl rfl rfl ?_
      refine Tr.m rfl rfl rfl ?_
      refine Tr.cV rfl rfl rfl rfl Body192 (rd_Err n q N cp a3 e3) (fun w h => Ai h mM) ?_
      refine Tr.nei rfl rfl rfl rfl rfl ?_
      refine Tr.pick rfl rfl rfl rfl rfl rfl ?_
      refine Tr.nil (Aa ?_)
      first
       | refine Sat.condP rfl (fun hc2 => ?_) (fun hc2 => ?_)
       | refine Sat.condNP rfl (fun hc2 => ?_) (fun hc2 => ?_)
       | refine Sat.cond rfl (fun hc2 => ?_) (fun hc2 => ?_)
      ·
       refine Sat.seq (Sat.region ?_)
       refine Tr.a rfl rfl rfl ?_
       refine Tr.a rfl rfl rfl ?_
       refine Tr.nil (Aa (Sat.ret (Ao (B8 (Ao (Ao (B8 (Ao (Am ?_)))))))))
       refine Ak (out := (RB n q N cp a3 e3 :: [])) (Ba rfl rfl rfl) (Ac rM Ad) ?_
       exact votes_none (by rw [hrv, if_pos hyes]; exact votesR_stop hvr hb3 oM _ hk2) hd3.1
      ·
       refine Sat.skip (Aa (Sat.region ?_))
       refine Tr.m rfl rfl rfl ?_
       refine Tr.lA rfl rfl rfl Y81 rfl Sz81 mM (Vote.length (by first | exact oK  | exact voteRd_vok _)) ?_
       refine Tr.mkRow (z := agg Vote.zero.cells) [agg (voteRd (o.getD [])).1.cells] (voteRd (o.getD [])).1.cells rfl rfl rfl Y24 Sz81 Vote.zr rfl rfl (by intro v hv; rw [List.mem_singleton.1 hv]; exact Vote.length (voteRd_vok _)) dE (by simp [Value.cells]) ?_
       intro q43
       refine Tr.appendAcc (z := agg Vote.zero.cells) (by' := 160) ((voteRd (o.getD [])).1.cells) rfl rfl rfl rfl rfl Y24 Y24 Sz81 Zr81 (by unfold By; kernel_rfl) rfl hac sG (fun w h => SeesP.of (Ap h mM)) (fun e => by cases e) (Vote.isCell (voteRd_vok _)) oM oM (by rw [Vote.length (voteRd_vok _)]) ?_
       intro s44 bl44 hac44
       refine Tr.a rfl rfl rfl ?_
       refine Tr.nil (B2 (Aa (Sat.region ?_)))
       refine Tr.add_u64 rfl rfl rfl (show Aj _ _ = some (u64 1) from rfl) ?_
       refine Tr.m rfl rfl rfl ?_
       refine Tr.nil (Aa ?_)
       refine ⟨⟨k + 1, s44, bl44, vs ++ [(voteRd (o.getD [])).1], a3, e3⟩, ⟨by simp only []; omega, votesR_step hvr hb3 hs7_5 oM, hd3.1, by simpa using hac44, by simp [hvl], fun V hV => ?_⟩, by simp only []; omega, Af (wk1 rfl (wk1 rfl (wk1 rfl (wk1 rfl (wk1 (congrArg (fun z => some (u64 z)) (ofNat_step _)) wk0))))) (Ac rM (Ah sG Ad))⟩
       rcases List.mem_append.1 hV with h | h
       · exact hvo V h
       · rw [List.mem_singleton.1 h]; exact voteRd_good _
     ·
      first | have hs7_5 := of_decide_eq_true hs7_50 | have hs7_5 := of_decide_eq_false hs7_50 | have hs7_5 := A2 hs7_50 | have hs7_5 := A3 hs7_50 | have hs7_5 := hs7_50
      refine Tr.alloc (cs := Vote.zero.cells) rfl Vote.zr rfl ?_
      intro n10 hn10 hf10
      refine Tr.sA rfl rfl rfl rfl (Vote.isCell (by first | exact oK  | exact voteRd_vok _)) Sz81 (Vote.length (by first | exact oK  | exact voteRd_vok _)) mM (Vote.length (by first | exact oK  | exact voteRd_vok _)) uU ?_
      refine Tr.a rfl rfl rfl ?_
      refine Tr.nil (Aa (Sat.seq (Sat.seq (Sat.region ?_))))
      refine Tr.m rfl rfl rfl ?_
      refine Tr.not rfl rfl rfl ?_
      refine Tr.m rfl rfl rfl ?_
      refine Tr.skp rfl rfl ?_
      refine Tr.skp rfl rfl ?_
      refine Tr.skp rfl rfl ?_
      refine Tr.pick rfl rfl rfl rfl rfl rfl ?_
      refine Tr.nil (Aa ?_)
      refine Sat.cond_t rfl rfl ?_
      refine Sat.seq (Sat.region ?_)
      refine Tr.a rfl rfl rfl ?_
      refine Tr.a rfl rfl rfl ?_
      refine Tr.nil (Aa (Sat.ret (Ao (B8 (Ao (Ao (B8 (Ao (Am ?_)))))))))
      refine Ak (out := (RB n q N cp a3 e3 :: [])) (Ba rfl rfl rfl) (Ac rM Ad) ?_
      exact votes_none (by rw [hrv, if_pos hyes]; exact votesR_stop hvr hb3 oM _ hk2) hd3.1
    ·
     have hk64 : (UInt64.ofNat k).toNat = k := A1 oM
     have hke : k = x1.toNat := by omega
     refine Sat.exit (Bf (Bf (bl_h (Aa (Sat.seq (Sat.region ?_))))))
     refine Tr.m rfl rfl rfl ?_
     refine Tr.a rfl rfl rfl ?_
     refine Tr.a rfl rfl rfl ?_
     refine Tr.nil (Aa (Sat.ret (Am ?_)))
     refine Ak (out := (bl ++ (RB n q N cp a2 e2 :: []))) (Ba rfl rfl rfl) (Ah sG (Ac rM Ad)) ?_
     have hfin : readVL xs M at' e = some (vs, a2, e2) := by rw [hrv, if_pos hyes, ← hke]; exact hvr
     exact ⟨s, bl, a2, e2, ha2, by simp, by rw [hfin]; rfl, fun vs2 a4 e4 h4 => by rw [hfin] at h4; cases h4; exact ⟨rfl, rfl, by omega, hvo, by rw [hvl]; exact hac⟩⟩

end Go.Proofs.YtdifpjmfabhpiaaGreat
end

section
namespace Go.Proofs.YtdifpjmfabhpiaaGreat
open Go Hw

def dcertz : DCert := ⟨DCut.zero, []⟩
noncomputable def certRd (xs : List UInt8) : DCert × Int :=
  if (cutRd ((blkR xs 0 0).1.getD [])).2 = 0 then
    match readVL xs 16 (blkR xs 0 0).2.1 (blkR xs 0 0).2.2 with
    | some (vs, a, e) => if endR xs.length a e = 0 ∧ (⟨(cutRd ((blkR xs 0 0).1.getD [])).1, vs⟩ : DCert).check = 0 then (⟨(cutRd ((blkR xs 0 0).1.getD [])).1, vs⟩, 0) else (dcertz, 4)
    | none => (dcertz, 4)
  else (dcertz, 4)
theorem certz_is (W : World) : CertIs W Cert.zero dcertz := ⟨Cert.zero_ok, cutz_is W, ⟨[], SeqIs.none⟩⟩
def CertRead (xs : List UInt8) (v : Value) (out : List Blk) : Prop := ∃ C : Cert, C.ok ∧ v = .tuple #[agg C.cells, i64 (certRd xs).2] ∧ ∀ W2, Lies out W2 → CertIs W2 C (certRd xs).1
theorem cert_bad {xs : List UInt8} {out : List Blk} (h : certRd xs = (dcertz, 4)) : CertRead xs (.tuple #[agg Cert.zero.cells, i64 4]) out := by
  refine ⟨Cert.zero, Cert.zero_ok, ?_, fun W2 _ => ?_⟩ <;> rw [h]
  exact certz_is W2
theorem cert_okR {xs : List UInt8} {out : List Blk} {C : Cert} {D : DCert} (h : certRd xs = (D, 0)) (hok : C.ok) (hC : ∀ W2, Lies out W2 → CertIs W2 C D) : CertRead xs (.tuple #[agg C.cells, i64 0]) out := by
  refine ⟨C, hok, ?_, fun W2 h2 => ?_⟩ <;> rw [h]
  exact hC W2 h2
theorem upd_cut {C : Cert} (h : C.ok) {X : Cut} (hx : X.ok) : upd C.cells (0 + 0) X.cells = ({ C with fCut := X } : Cert).cells := by
  have h1 := Cut.length h.o_fCut
  have h2 := Cut.length hx
  simp only [upd, Cert.cells, Nat.zero_add, List.take_zero, List.nil_append, h2]
  congr 1
  rw [← h1, List.drop_left]

theorem owned_vs {s : Sl} {bl : List Blk} {vs : List Vote} (hv : ∀ V ∈ vs, Vgood V) (h : Hw.Acc s bl (vs.map Vote.cells).flatten 81 vs.length 132) (hm : vs.length ≤ 1000000) : ∀ W2, Lies bl W2 → VotesAt W2 s vs := fun W2 hl => ⟨vs, acc_seq h hl rfl rfl (fun r hr => Vote.length (hv r hr).ok) hm fun i r d hr hd => (by
  rw [hr] at hd
  obtain rfl := Option.some.inj hd
  exact ⟨(hv r (List.mem_of_getElem? hr)).ok, rfl, (hv r (List.mem_of_getElem? hr)).wf⟩)⟩

theorem mk_item_vote  : Meets Tryz.prog 100 [.func (.func 77) #[] #[]] [] (fun _ => True) (fun v out => ∃ c, v = .func (.func 194) #[] #[ptr c 0] ∧ out = [⟨c, [.func (.func 77) #[] #[]], 114, 1⟩]) := by
 intro W hW
 refine An Tryz.func100 rfl 4 Tryz.ntmps100 rfl ?_
 refine Sat.seq (Sat.region ?_)
 refine Tr.box1 rfl rfl rfl ?_
 intro n1 hn1 hf1
 refine Tr.a rfl rfl rfl ?_
 refine Tr.nil (Aa (Sat.seq (Sat.region ?_)))
 refine Tr.makeFunc rfl rfl rfl rfl ?_
 refine Tr.a rfl rfl rfl ?_
 refine Tr.nil (Aa (Sat.ret (Am ?_)))
 refine Ak (out := (⟨n1, [.func (.func 77) #[] #[]], 114, 1⟩ :: [])) (Ae rfl rfl) (Ac rM Ad) ?_
 exact ⟨n1, rfl, by simp⟩

theorem cert_read (a : Option Addr) (n c : Nat) (xs : List UInt8) (hl : xs.length = n) (hp : a = none → n = 0) (hn : n ≤ 90000) : Meets Tryz.prog 29 [.slice a n c] [] (fun W => SeesP W a (Ab xs)) (CertRead xs) := by
 intro W hW
 obtain ⟨o, r1, h1⟩ : ∃ l r, blkR xs 0 0 = (l, r) := ⟨_, _, rfl⟩
 obtain ⟨a1, e1⟩ := r1
 have hd1 := blkE_le h1 hl (Nat.zero_le _)
 have hcr : certRd xs = if (cutRd (o.getD [])).2 = 0 then (match readVL xs 16 a1 e1 with | some (vs, a, e) => if endR xs.length a e = 0 ∧ (⟨(cutRd (o.getD [])).1, vs⟩ : DCert).check = 0 then ((⟨(cutRd (o.getD [])).1, vs⟩ : DCert), (0 : Int)) else (dcertz, (4 : Int)) | none => (dcertz, (4 : Int))) else (dcertz, (4 : Int)) := by simp only [certRd, h1]
 refine An Tryz.func29 rfl 40 Tryz.ntmps29 rfl ?_
 refine Sat.seq (Sat.region ?_)
 refine Tr.alloc (cs := Cert.zero.cells) rfl Cert.zr rfl ?_
 intro n2 hn2 hf2
 refine Tr.a rfl rfl rfl ?_
 refine Tr.nil (Aa (Sat.seq (Sat.region ?_)))
 refine Tr.m rfl rfl rfl ?_
 refine Tr.call4 rfl rfl rfl rfl rfl Body91 (oct_Read a n c xs hl hp hn) (fun w h => Aw h rfl hW) ?_
 rintro v7 out7 ⟨n7, q7, cp7, rfl, hcp7, rfl⟩
 refine Tr.nd (fun hnd => ?_)
 have hne : q7 ≠ n7 := by intro e; simp [RB, e] at hnd
 clear hnd
 refine Tr.a rfl rfl rfl ?_
 refine Tr.nil (Aa (Sat.seq (Sat.region ?_)))
 refine Tr.alloc (cs := Cert.zero.cells) rfl Cert.zr rfl ?_
 intro n5 hn5 hf5
 refine Tr.nil (Aa (Sat.seq (Sat.region ?_)))
 refine Tr.a rfl rfl rfl ?_
 refine Tr.nil (Aa (Sat.seq (Sat.seq (Sat.region ?_))))
 refine Tr.m rfl rfl rfl ?_
 refine Tr.callL (L := [RB n7 q7 n cp7 0 0]) rfl rfl rfl rfl rfl Body120 (rd_BlockE n7 q7 n cp7 0 0 xs hl (Nat.zero_le _) hcp7 hn o a1 e1 h1) (Ac rM Ad) (A0 rfl) (fun w h => ⟨Ai h mM, Ap h mM, hne⟩) ?_
 rintro v12 out12 ⟨s12, bl12, rfl, hac12, rfl⟩
 simp only [List.append_assoc, List.cons_append, List.nil_append]
 refine Tr.call4 rfl rfl rfl rfl rfl Body79 (cut_read s12.p s12.n s12.c (o.getD []) hac12.num.symm (fun e => hac12.nil e) (by rw [hac12.num]; omega)) (fun w h => hac12.see (Lies.of h iN)) ?_
 rintro v13 out13 ⟨C13, okC, rfl, hC13⟩
 refine Tr.m rfl rfl rfl ?_
 refine Tr.eX rfl rfl rfl rfl ?_
 refine Tr.eX rfl rfl rfl rfl ?_
 refine Tr.fld rfl rfl rfl Y55 rfl Ca dE _ rfl ?_
 refine Tr.storeN C13.cells rfl rfl rfl rfl rfl (Cut.isCell okC) Ca (Cut.length okC) mM (by rw [Cert.length Cert.zero_ok, Cut.length okC]; decide) (upd_cut Cert.zero_ok okC) uU ?_
 refine Tr.a rfl rfl rfl ?_
 refine Tr.nil (Aa (Sat.seq (Sat.region ?_)))
 refine Tr.m rfl rfl rfl ?_
 refine Tr.nei rfl rfl rfl rfl rfl ?_
 refine Tr.nil (Aa ?_)
 first
  | refine Sat.condP rfl (fun hc0 => ?_) (fun hc0 => ?_)
  | refine Sat.condNP rfl (fun hc0 => ?_) (fun hc0 => ?_)
  | refine Sat.cond rfl (fun hc0 => ?_) (fun hc0 => ?_)
 ·
  refine Sat.seq (Sat.region ?_)
  refine Tr.build (cs := Cert.zero.cells) rfl rfl rfl (fun w => by kernel_rfl) ?_
  refine Tr.sA rfl rfl rfl rfl (Cert.isCell (by first | exact oK | exact ⟨okC⟩ | exact okC)) Sz55 (Cert.length (by first | exact oK | exact ⟨okC⟩ | exact okC)) mM (Cert.length (by first | exact oK | exact ⟨okC⟩ | exact okC)) uU ?_
  refine Tr.a rfl rfl rfl ?_
  refine Tr.nil (Aa (Sat.ret (Ao (Am ?_))))
  refine Ak (out := []) (A6 rfl rfl rfl Y55 rfl Sz55 mM (by first | (simp; done) | exact Cert.length (by first | exact oK | exact ⟨okC⟩ | exact okC))) Ad ?_
  exact cert_bad (by rw [hcr]; exact if_neg oM)
 ·
  have hc13 : (cutRd (o.getD [])).2 = 0 := by omega
  refine Sat.skip (Aa (Sat.seq (Sat.region ?_)))
  refine Tr.a rfl rfl rfl ?_
  refine Tr.nil (Aa (Sat.seq (Sat.seq (Sat.region ?_))))
  refine Tr.m rfl rfl rfl ?_
  refine Tr.call4 rfl rfl rfl rfl rfl Body100 (mk_item_vote) tV ?_
  rintro v22 out22 ⟨c22, rfl, rfl⟩
  refine Tr.nd (fun hnd => ?_)
  have hcn : c22 ≠ n7 := by intro e; simp [RB, e] at hnd
  clear hnd
  simp only [List.append_assoc, List.cons_append, List.nil_append]
  refine Tr.callL (L := [RB n7 q7 n cp7 a1 e1]) rfl rfl rfl rfl rfl Body99 (read_votes n7 q7 n cp7 a1 e1 c22 16 xs hl hd1.1 hcp7 hn hcn dE) (Ac rM Ad) (A0 rfl) (fun w h => ⟨Ai h mM, Ap h mM, hne, (Ai (B := ⟨c22, _, _, _⟩) h mM).cell (o := 0) rfl⟩) ?_
  rintro v23 out23 ⟨s23, bl23, a2, e2, ha2, rfl, rfl, hv23⟩
  simp only [List.append_assoc, List.cons_append, List.nil_append]
  refine Tr.m rfl rfl rfl ?_
  refine Tr.eX rfl rfl rfl rfl ?_
  refine Tr.extractB rfl rfl rfl rfl (fun hs8_50 => ?_) (fun hs8_50 => ?_)
  ·
   first | have hs8_5 := of_decide_eq_true hs8_50 | have hs8_5 := of_decide_eq_false hs8_50 | have hs8_5 := A2 hs8_50 | have hs8_5 := A3 hs8_50 | have hs8_5 := hs8_50
   obtain ⟨r23, hr23⟩ := Option.isSome_iff_exists.1 hs8_5
   obtain ⟨vs, a4, e4⟩ := r23
   obtain ⟨rfl, rfl, hvn, hvo, hvac⟩ := hv23 vs a4 e4 hr23
   refine Tr.fld rfl rfl rfl Y55 rfl Sz24 dE _ rfl ?_
   refine Tr.s1 rfl rfl rfl rfl rfl Sz24 mM (by rw [Cert.length (by first | exact oK | exact ⟨okC⟩ | exact okC)]; decide) (by first | exact Cert.set_fVotes (by first | exact oK | exact ⟨okC⟩ | exact okC) _ | exact Cert.setS_fVotes (by first | exact oK | exact ⟨okC⟩ | exact okC) _ _ _) uU ?_
   refine Tr.a rfl rfl rfl ?_
   refine Tr.nil (Aa (Sat.seq (Sat.region ?_)))
   refine Tr.m rfl rfl rfl ?_
   refine Tr.not rfl rfl rfl ?_
   refine Tr.nil (Aa ?_)
   refine Sat.cond_f rfl rfl ?_
   refine Sat.skip (Aa (Sat.seq (Sat.seq (Sat.region ?_))))
   refine Tr.m rfl rfl rfl ?_
   refine Tr.cV rfl rfl rfl rfl Body105 (rd_End n7 q7 n cp7 a2 e2 ha2 oM) (fun w h => Ai h mM) ?_
   refine two (fun r hr k => Tr.nei rfl rfl rfl rfl hr k) (fun hs11_20 => ?_) (fun hs11_20 => ?_)
   ·
    first | have hs11_2 := of_decide_eq_true hs11_20 | have hs11_2 := of_decide_eq_false hs11_20 | have hs11_2 := A2 hs11_20 | have hs11_2 := A3 hs11_20 | have hs11_2 := hs11_20
    refine Tr.m rfl rfl rfl ?_
    refine Tr.skp rfl rfl ?_
    refine Tr.skp rfl rfl ?_
    refine Tr.skp rfl rfl ?_
    refine Tr.pick rfl rfl rfl rfl rfl rfl ?_
    refine Tr.nil (Aa ?_)
    refine Sat.cond_t rfl rfl ?_
    refine Sat.seq (Sat.region ?_)
    refine Tr.build (cs := Cert.zero.cells) rfl rfl rfl (fun w => by kernel_rfl) ?_
    refine Tr.sA rfl rfl rfl rfl (Cert.isCell (by first | exact oK | exact ⟨okC⟩ | exact okC)) Sz55 (Cert.length (by first | exact oK | exact ⟨okC⟩ | exact okC)) mM (Cert.length (by first | exact oK | exact ⟨okC⟩ | exact okC)) uU ?_
    refine Tr.a rfl rfl rfl ?_
    refine Tr.nil (Aa (Sat.ret (Ao (Am ?_))))
    refine Ak (out := []) (A6 rfl rfl rfl Y55 rfl Sz55 mM (by first | (simp; done) | exact Cert.length (by first | exact oK | exact ⟨okC⟩ | exact okC))) Ad ?_
    exact cert_bad (by rw [hcr, if_pos hc13, hr23]; dsimp only; rw [hl]; exact if_neg (fun h => by have := h.1; omega))
   ·
    first | have hs11_2 := of_decide_eq_true hs11_20 | have hs11_2 := of_decide_eq_false hs11_20 | have hs11_2 := A2 hs11_20 | have hs11_2 := A3 hs11_20 | have hs11_2 := hs11_20
    refine Tr.m rfl rfl rfl ?_
    refine Tr.lA rfl rfl rfl Y55 rfl Sz55 mM (Cert.length (by first | exact oK | exact ⟨okC⟩ | exact okC)) ?_
    refine Tr.cV rfl rfl rfl rfl Body31 (cert_check ({ Cert.zero with fCut := C13, fVotes := s23 } : Cert) ⟨(cutRd (o.getD [])).1, vs⟩) (fun w h => ⟨⟨okC⟩, hC13 w (Lies.of h iN), owned_vs hvo hvac oM w (Lies.of h iN)⟩) ?_
    refine Tr.nei rfl rfl rfl rfl rfl ?_
    refine Tr.pick rfl rfl rfl rfl rfl rfl ?_
    refine Tr.nil (Aa ?_)
    first
     | refine Sat.condP rfl (fun hc2 => ?_) (fun hc2 => ?_)
     | refine Sat.condNP rfl (fun hc2 => ?_) (fun hc2 => ?_)
     | refine Sat.cond rfl (fun hc2 => ?_) (fun hc2 => ?_)
    ·
     refine Sat.seq (Sat.region ?_)
     refine Tr.build (cs := Cert.zero.cells) rfl rfl rfl (fun w => by kernel_rfl) ?_
     refine Tr.sA rfl rfl rfl rfl (Cert.isCell (by first | exact oK | exact ⟨okC⟩ | exact okC)) Sz55 (Cert.length (by first | exact oK | exact ⟨okC⟩ | exact okC)) mM (Cert.length (by first | exact oK | exact ⟨okC⟩ | exact okC)) uU ?_
     refine Tr.a rfl rfl rfl ?_
     refine Tr.nil (Aa (Sat.ret (Ao (Am ?_))))
     refine Ak (out := []) (A6 rfl rfl rfl Y55 rfl Sz55 mM (by first | (simp; done) | exact Cert.length (by first | exact oK | exact ⟨okC⟩ | exact okC))) Ad ?_
     exact cert_bad (by rw [hcr, if_pos hc13, hr23]; dsimp only; rw [hl]; exact if_neg (fun h => by have := h.2; omega))
    ·
     refine Sat.skip (Aa (Sat.seq (Sat.region ?_)))
     refine Tr.lA rfl rfl rfl Y55 rfl Sz55 mM (Cert.length (by first | exact oK | exact ⟨okC⟩ | exact okC)) ?_
     refine Tr.sA rfl rfl rfl rfl (Cert.isCell (by first | exact oK | exact ⟨okC⟩ | exact okC)) Sz55 (Cert.length (by first | exact oK | exact ⟨okC⟩ | exact okC)) mM (Cert.length (by first | exact oK | exact ⟨okC⟩ | exact okC)) uU ?_
     refine Tr.a rfl rfl rfl ?_
     refine Tr.nil (Aa (Sat.ret (Am ?_)))
     refine Ak (out := (out13 ++ (bl23 ++ []))) (A6 rfl rfl rfl Y55 rfl Sz55 mM (by first | (simp; done) | exact Cert.length (by first | exact oK | exact ⟨okC⟩ | exact okC))) (Ah sG (Ah sG Ad)) ?_
     exact cert_okR (D := ⟨(cutRd (o.getD [])).1, vs⟩) (by rw [hcr, if_pos hc13, hr23]; dsimp only; rw [hl]; exact if_pos ⟨by omega, by omega⟩) ⟨okC⟩ (fun W2 h2 => ⟨⟨okC⟩, hC13 W2 (h2.sub iN), owned_vs hvo hvac oM W2 (h2.sub iN)⟩)
  ·
   first | have hs8_5 := of_decide_eq_true hs8_50 | have hs8_5 := of_decide_eq_false hs8_50 | have hs8_5 := A2 hs8_50 | have hs8_5 := A3 hs8_50 | have hs8_5 := hs8_50
   have hr23 : readVL xs 16 a1 e1 = none := by simpa using hs8_5
   refine Tr.fld rfl rfl rfl Y55 rfl Sz24 dE _ rfl ?_
   refine Tr.s1 rfl rfl rfl rfl rfl Sz24 mM (by rw [Cert.length (by first | exact oK | exact ⟨okC⟩ | exact okC)]; decide) (by first | exact Cert.set_fVotes (by first | exact oK | exact ⟨okC⟩ | exact okC) _ | exact Cert.setS_fVotes (by first | exact oK | exact ⟨okC⟩ | exact okC) _ _ _) uU ?_
   refine Tr.a rfl rfl rfl ?_
   refine Tr.nil (Aa (Sat.seq (Sat.region ?_)))
   refine Tr.m rfl rfl rfl ?_
   refine Tr.not rfl rfl rfl ?_
   refine Tr.nil (Aa ?_)
   refine Sat.cond_t rfl rfl ?_
   refine Sat.seq (Sat.region ?_)
   refine Tr.build (cs := Cert.zero.cells) rfl rfl rfl (fun w => by kernel_rfl) ?_
   refine Tr.sA rfl rfl rfl rfl (Cert.isCell (by first | exact oK | exact ⟨okC⟩ | exact okC)) Sz55 (Cert.length (by first | exact oK | exact ⟨okC⟩ | exact okC)) mM (Cert.length (by first | exact oK | exact ⟨okC⟩ | exact okC)) uU ?_
   refine Tr.a rfl rfl rfl ?_
   refine Tr.nil (Aa (Sat.ret (Ao (Am ?_))))
   refine Ak (out := []) (A6 rfl rfl rfl Y55 rfl Sz55 mM (by first | (simp; done) | exact Cert.length (by first | exact oK | exact ⟨okC⟩ | exact okC))) Ad ?_
   exact cert_bad (by rw [hcr, if_pos hc13, hr23])

end Go.Proofs.YtdifpjmfabhpiaaGreat
end

section
namespace Hw
open Go

def headOf (s h : Nat) : UInt8 := shl8 255 (9 - s) ||| UInt8.ofNat h
theorem head_facts : ∀ s, s < 10 → 1 ≤ s → ∀ h, h < 2 ^ (8 - s) → (s = 9 → h = 0) → cntB (headOf s h) = s ∧ (headV (headOf s h)).toNat = h := by
  decide +kernel
def beN : List UInt8 → Nat
  | [] => 0
  | b :: l => b.toNat * 256 ^ l.length + beN l
theorem beN_tail (x : UInt64) : ∀ k, k ≤ 8 → beN (tailB x k) = x.toNat % 256 ^ k
  | 0, _ => by simp [tailB, beN, Nat.mod_one]
  | k + 1, hk => by
    have hp : 0 < 256 ^ k := Nat.pow_pos dE
    have e : (2 : Nat) ^ (8 * k) = 256 ^ k := by rw [Nat.pow_mul]
    rw [tailB, beN, tailB_length, beN_tail x k oM, UInt64.toNat_toUInt8]
    have e1 : (shr64 x (8 * k)).toNat = x.toNat / 256 ^ k := by
      have h : x.toNat / 2 ^ (8 * k) ≤ x.toNat := Nat.div_le_self _ _
      have := x.toNat_lt
      rw [shr64, UInt64.toNat_ofNat', Nat.mod_eq_of_lt oM, e]
    rw [e1]
    have h3 := Nat.mod_mul (a := 256 ^ k) (b := 256) (x := x.toNat)
    have e2 : (256 : Nat) ^ (k + 1) = 256 ^ k * 256 := Nat.pow_succ ..
    have e3 : (2 : Nat) ^ 8 = 256 := by decide
    rw [e2, h3, e3, Nat.mul_comm (256 ^ k)]
    omega
theorem foldB_nat : ∀ (l : List UInt8) (a : UInt64), a.toNat * 256 ^ l.length + beN l < 2 ^ 64 → (foldB a l).toNat = a.toNat * 256 ^ l.length + beN l
  | [], a, _ => by simp [foldB, beN]
  | b :: l, a, h => by
    rw [beN, List.length_cons, Nat.pow_succ] at h
    have hb := b.toNat_lt
    have hp : 0 < 256 ^ l.length := Nat.pow_pos dE
    have e : a.toNat * (256 ^ l.length * 256) + (b.toNat * 256 ^ l.length + beN l) = (a.toNat * 256 + b.toNat) * 256 ^ l.length + beN l := by
      rw [Nat.add_mul, Nat.mul_assoc, Nat.mul_comm 256, Nat.add_assoc]
    rw [e] at h
    have h1 : a.toNat * 256 + b.toNat < 18446744073709551616 := by
      rw [show (2 : Nat) ^ 64 = 18446744073709551616 by decide] at h
      have : (a.toNat * 256 + b.toNat) * 1 ≤ (a.toNat * 256 + b.toNat) * 256 ^ l.length := Nat.mul_le_mul_left _ hp
      omega
    have hs : (shl64 a 8).toNat = a.toNat * 256 := by
      have e0 : a.toNat * 2 ^ 8 = a.toNat * 256 := rfl
      rw [shl64, UInt64.toNat_ofNat', e0, Nat.mod_eq_of_lt (Nat.lt_of_le_of_lt (Nat.le_add_right _ b.toNat) h1)]
    have ho : (shl64 a 8 ||| b.toUInt64).toNat = a.toNat * 256 + b.toNat := by
      rw [UInt64.toNat_or, hs, show b.toUInt64.toNat = b.toNat from by simp]
      rw [show a.toNat * 256 = 2 ^ 8 * a.toNat by omega, Nat.two_pow_add_eq_or_of_lt oM]
    rw [foldB, foldB_nat l _ (by rw [ho]; exact h), ho, beN, List.length_cons, Nat.pow_succ, e]

theorem or_one (x : Nat) : x ||| 1 = if x % 2 = 0 then x + 1 else x := by
  have h := Nat.or_mod_two_pow (a := x) (b := 1) (n := 1)
  have h2 := Nat.or_div_two_pow (a := x) (b := 1) (n := 1)
  simp only [Nat.pow_one] at h h2
  have e : x % 2 = 0 ∨ x % 2 = 1 := by omega
  have hm : (x ||| 1) % 2 = 1 := by
    rw [h]
    rcases e with e | e <;> rw [e] <;> rfl
  have hd : (x ||| 1) / 2 = x / 2 := by rw [h2]; simp
  split <;> omega
theorem or_one_lt {x k : Nat} (hk : 1 ≤ k) : (x ||| 1) < 2 ^ k ↔ x < 2 ^ k := by
  rw [or_one]
  have : 2 ^ k = 2 * 2 ^ (k - 1) := by rw [← Nat.pow_succ']; congr 1; omega
  split <;> omega
theorem szN_le {x s : Nat} (hs : 1 ≤ s) (h8 : s ≤ 8) : szN x ≤ s ↔ x < 2 ^ (7 * s) := by
  rw [← or_one_lt oM, ← bLen_le]
  unfold szN
  omega
theorem szN_hi {x : Nat} (hs : szN x ≤ 8) : x < 2 ^ (7 * szN x) := (szN_le (A8 x).1 hs).1 (Nat.le_refl _)

theorem headB_of (x : UInt64) : ∃ h, headB x = headOf (szN x.toNat) h ∧ h < 2 ^ (8 - szN x.toNat) ∧ (szN x.toNat = 9 → h = 0) ∧ x.toNat = h * 256 ^ (szN x.toNat - 1) + x.toNat % 256 ^ (szN x.toNat - 1) := by
  have hp := A8 x.toNat
  have hx := x.toNat_lt
  have e : (2 : Nat) ^ (8 * (szN x.toNat - 1)) = 256 ^ (szN x.toNat - 1) := by rw [Nat.pow_mul]
  have e1 : (shr64 x (8 * (szN x.toNat - 1))).toNat = x.toNat / 256 ^ (szN x.toNat - 1) := by
    have h : x.toNat / 2 ^ (8 * (szN x.toNat - 1)) ≤ x.toNat := Nat.div_le_self _ _
    rw [shr64, UInt64.toNat_ofNat', Nat.mod_eq_of_lt oM, e]
  have hlt : x.toNat / 256 ^ (szN x.toNat - 1) < 2 ^ (8 - szN x.toNat) ∧ (szN x.toNat = 9 → x.toNat / 256 ^ (szN x.toNat - 1) = 0) := by
    by_cases h9 : szN x.toNat = 9
    · rw [h9]
      have : x.toNat / 256 ^ (9 - 1) = 0 := Nat.div_eq_of_lt (by rw [show (256 : Nat) ^ (9 - 1) = 2 ^ 64 by decide]; exact hx)
      rw [this]
      exact ⟨by decide, fun _ => rfl⟩
    · refine ⟨?_, fun h => absurd h h9⟩
      rw [Nat.div_lt_iff_lt_mul (Nat.pow_pos dE), ← e, ← Nat.pow_add]
      have := szN_hi (x := x.toNat) oM
      rwa [show 8 - szN x.toNat + 8 * (szN x.toNat - 1) = 7 * szN x.toNat by omega]
  refine ⟨x.toNat / 256 ^ (szN x.toNat - 1), ?_, hlt.1, hlt.2, (Nat.div_add_mod' _ _).symm⟩
  unfold headB headOf
  congr 1
  apply UInt8.toNat_inj.1
  rw [UInt64.toNat_toUInt8, e1, UInt8.toNat_ofNat']

theorem num_back (x : UInt64) : cntB (headB x) = szN x.toNat ∧ foldB (headV (headB x)) (tailB x (szN x.toNat - 1)) = x := by
  obtain ⟨h, h1, h2, h3, h4⟩ := headB_of x
  have hp := A8 x.toNat
  have hf := head_facts (szN x.toNat) oM hp.1 h h2 h3
  rw [h1]
  refine ⟨hf.1, UInt64.toNat_inj.1 ?_⟩
  have hb := beN_tail x (szN x.toNat - 1) oM
  rw [foldB_nat _ _ (by rw [tailB_length, hf.2, hb, ← h4]; exact x.toNat_lt), tailB_length, hf.2, hb, ← h4]

end Hw
end

section
namespace Go.Proofs.YtdifpjmfabhpiaaGreat
open Go Hw

theorem drop_cons {xs l : List UInt8} {a : Nat} {f : UInt8} (h : xs.drop a = f :: l) : a < xs.length ∧ xs.getD a 0 = f ∧ xs.drop (a + 1) = l := by
  have hlt : a < xs.length := by
    rcases Nat.lt_or_ge a xs.length with h1 | h1
    · exact h1
    · rw [List.drop_eq_nil_of_le h1] at h; cases h
  rw [List.drop_eq_getElem_cons hlt] at h
  injection h with h1 h2
  exact ⟨hlt, by rw [List.getD_eq_getElem?_getD, List.getElem?_eq_getElem hlt]; exact h1, h2⟩
theorem drop_split {xs p t : List UInt8} {a : Nat} (h : xs.drop a = p ++ t) (hp : 0 < p.length) : a + p.length ≤ xs.length ∧ (xs.drop a).take p.length = p ∧ xs.drop (a + p.length) = t := by
  have h1 := congrArg List.length h
  rw [List.length_drop, List.length_append] at h1
  refine ⟨by omega, by rw [h]; simp, ?_⟩
  rw [← List.drop_drop, h]; simp
theorem dig_fwd {xs d t : List UInt8} {a : Nat} (h : xs.drop a = d ++ t) (hd : d.length = 32) : digR xs a 0 = (d, a + 32, 0) ∧ xs.drop (a + 32) = t := by
  obtain ⟨h1, h2, h3⟩ := drop_split h oM
  rw [hd] at h1 h2 h3
  unfold digR
  rw [if_neg sP, if_neg oM, h2]
  exact ⟨rfl, h3⟩
theorem num_fwd {xs t : List UInt8} {a : Nat} {x : UInt64} (h : xs.drop a = Au x ++ t) : Bg xs a 0 = (x, a + szN x.toNat, 0) ∧ xs.drop (a + szN x.toNat) = t := by
  have hp := A8 x.toNat
  have hl := Aq x
  obtain ⟨h1, h2, h3⟩ := drop_split h oM
  rw [hl] at h1 h2 h3
  rw [Au, List.cons_append] at h
  obtain ⟨g1, g2, g3⟩ := drop_cons h
  obtain ⟨n1, n2⟩ := num_back x
  have hv : numV xs a = x := by
    rw [numV, g2, g3, n1, List.take_left' (tailB_length x _)]
    exact n2
  unfold Bg
  rw [if_neg sP, if_neg oM, hv, g2, n1, if_neg oM, if_pos rfl]
  exact ⟨rfl, h3⟩
theorem blk_fwd {xs ds t : List UInt8} {a : Nat} (hn : ds.length ≤ 1000000) (h : xs.drop a = Au (UInt64.ofNat ds.length) ++ ds ++ t) : blkR xs a 0 = (some ds, a + szN ds.length + ds.length, 0) ∧ xs.drop (a + szN ds.length + ds.length) = t := by
  rw [List.append_assoc] at h
  have hx : (UInt64.ofNat ds.length).toNat = ds.length := A1 hn
  obtain ⟨h1, h2⟩ := num_fwd h
  rw [hx] at h1 h2
  unfold blkR
  rw [h1]
  simp only [hx]
  rw [if_neg sP]
  have hl := congrArg List.length h2
  rw [List.length_drop, List.length_append] at hl
  have hz := A8 ds.length
  have hle : a + szN ds.length ≤ xs.length := by
    have := congrArg List.length h
    rw [List.length_drop, List.length_append, Aq, hx] at this
    omega
  rw [if_neg oM, h2]
  refine ⟨by simp, ?_⟩
  rw [← List.drop_drop, h2]; simp
theorem tak_fwd {xs d t : List UInt8} {a m : Nat} (h : xs.drop a = d ++ t) (hd : d.length = m) (hm : 0 < m) : takR xs m a 0 = (d, a + m, 0) ∧ xs.drop (a + m) = t := by
  obtain ⟨h1, h2, h3⟩ := drop_split h oM
  rw [hd] at h1 h2 h3
  unfold takR
  rw [if_neg sP, if_neg oM, h2]
  exact ⟨rfl, h3⟩
theorem digs_fwd {xs t : List UInt8} {ls : List (List UInt8)} {a : Nat} (hls : ∀ l ∈ ls, l.length = 32) (h : xs.drop a = ls.flatten ++ t) : ∀ j, j ≤ ls.length → Bs xs j a 0 = (ls.take j, a + 32 * j, 0) ∧ xs.drop (a + 32 * j) = (ls.drop j).flatten ++ t
  | 0, _ => ⟨rfl, by simpa using h⟩
  | j + 1, hj => by
    obtain ⟨h1, h2⟩ := digs_fwd hls h j oM
    rw [List.drop_eq_getElem_cons (l := ls) (i := j) oM, List.flatten_cons, List.append_assoc] at h2
    obtain ⟨h3, h4⟩ := dig_fwd h2 (hls _ (List.getElem_mem oM))
    refine ⟨?_, by rw [show a + 32 * (j + 1) = a + 32 * j + 32 by omega]; exact h4⟩
    rw [Bs, h1]
    simp only [h3]
    rw [List.take_succ_eq_append_getElem oM]
    rfl
theorem readP_bytes {D : DB} (h : D.ok) (hc : D.check = 0) (t : List UInt8) : readP (D.bytes ++ t) = (D, D.bytes.length, 0) := by
  have hs := D.head_small hc
  have hl1 : (UInt64.ofNat D.ls.length).toNat = D.ls.length := A1 oM
  obtain ⟨xs, hxs⟩ : ∃ xs, D.bytes ++ t = xs := ⟨_, rfl⟩
  rw [hxs]
  have h0 : xs.drop 0 = D.w ++ (Au D.seq ++ (D.prev ++ (Au (UInt64.ofNat D.ls.length) ++ (D.ls.flatten ++ (Au (UInt64.ofNat D.ds.length) ++ D.ds ++ (D.sg ++ t)))))) := by
    rw [List.drop_zero, ← hxs]
    simp only [DB.bytes, DB.body, List.append_assoc]
  obtain ⟨r1, h1⟩ := dig_fwd h0 h.w
  obtain ⟨r2, h2⟩ := num_fwd h1
  obtain ⟨r3, h3⟩ := dig_fwd h2 h.prev
  obtain ⟨r4, h4⟩ := num_fwd h3
  rw [hl1] at r4 h4
  obtain ⟨r5, h5⟩ := digs_fwd h.ls h4 D.ls.length (Nat.le_refl _)
  rw [List.take_length] at r5
  rw [List.drop_length, List.flatten_nil, List.nil_append] at h5
  obtain ⟨r6, h6⟩ := blk_fwd oM h5
  obtain ⟨r7, h7⟩ := tak_fwd h6 h.sg dE
  have hk : min (UInt64.ofNat D.ls.length).toNat 17 = D.ls.length := by omega
  have hlen : D.bytes.length = 0 + 32 + szN D.seq.toNat + 32 + szN D.ls.length + 32 * D.ls.length + szN D.ds.length + D.ds.length + 64 := by
    have hfl := Bn h.ls (Nat.le_refl D.ls.length)
    rw [List.take_length] at hfl
    simp only [DB.bytes, DB.body, List.length_append, Aq, h.w, h.prev, h.sg, hfl, hl1, A1 (n := D.ds.length) oM]
    omega
  simp only [readP, r1, r2, r3, r4, hk, r5, r6, r7, Option.getD_some]
  rw [h.sg, hlen, List.drop_of_length_le sP, List.append_nil]
theorem readD_bytes {D : DB} (h : D.ok) (hc : D.check = 0) : readD D.bytes = (D, 0) := by
  have hr := readP_bytes h hc []
  rw [List.append_nil] at hr
  rw [readD_ok (by rw [hr]; exact ⟨by simp [endR], hc⟩), hr]
theorem bytes_inj {D E : DB} (hD : D.ok) (hE : E.ok) (cD : D.check = 0) (cE : E.check = 0) : D.bytes = E.bytes ↔ D = E := by
  constructor
  · intro h
    have h1 := readD_bytes hD cD
    rw [h, readD_bytes hE cE] at h1
    exact (congrArg Prod.fst h1).symm
  · intro h; rw [h]
end Go.Proofs.YtdifpjmfabhpiaaGreat
end

section
namespace Go.Proofs.YtdifpjmfabhpiaaGreat
open Go Hw

theorem cutP_bytes {D : DCut} (hp : D.dPrev.length = 32) (hr : ∀ l ∈ D.dHeads, l.length = 32) (hn : D.dHeads.length ≤ 32) : cutP D.bytes = (D, D.bytes.length, 0) := by
  have h0 : D.bytes.drop 0 = Au D.dHeight ++ (D.dPrev ++ (Au (UInt64.ofNat D.dHeads.length) ++ (D.dHeads.flatten ++ []))) := by
    simp [DCut.bytes, DCut.body, List.append_assoc]
  obtain ⟨g1, h1⟩ := num_fwd h0
  obtain ⟨g2, h2⟩ := dig_fwd h1 hp
  obtain ⟨g3, h3⟩ := num_fwd h2
  have hx : (UInt64.ofNat D.dHeads.length).toNat = D.dHeads.length := A1 oM
  obtain ⟨g4, h4⟩ := digs_fwd hr h3 D.dHeads.length (Nat.le_refl _)
  have hm : min D.dHeads.length 33 = D.dHeads.length := by omega
  simp only [cutP, g1, g2, g3, hx, hm]
  rw [hx] at g4
  simp only [g4, List.take_length]
  rw [show D.bytes.length = szN D.dHeight.toNat + 32 + szN (UInt64.ofNat D.dHeads.length).toNat + D.dHeads.length * 32 from DCut.body_len hp hr (Nat.le_refl _), hx]
  have : 0 + szN D.dHeight.toNat + 32 + szN D.dHeads.length + 32 * D.dHeads.length = szN D.dHeight.toNat + 32 + szN D.dHeads.length + D.dHeads.length * 32 := by omega
  rw [this]
theorem cutRd_bytes {D : DCut} (hp : D.dPrev.length = 32) (hr : ∀ l ∈ D.dHeads, l.length = 32) (hc : D.check = 0) : cutRd D.bytes = (D, 0) := by
  have h := cutP_bytes hp hr (D.small hc)
  unfold cutRd
  rw [h]
  exact if_pos ⟨by simp [endR], hc⟩
theorem byteOf_small {x : Int} (h0 : 0 ≤ x) (h4 : x < 256) : (Hw.Bx x).toUInt64.toNat = x.toNat := by
  simp only [Hw.Bx]
  rw [UInt8.toNat_toUInt64, UInt8.toNat_ofNat']
  omega
theorem vcheck_phase {V : Vote} (h : Bw V = 0) : 1 ≤ V.fPhase ∧ V.fPhase ≤ 3 := by
  have h2 : vokB V = true := by
    cases e : vokB V
    · unfold Bw at h
      rw [e] at h
      split at h <;> cases h
    · rfl
  unfold vokB at h2
  by_cases h3 : V.fPhase = 1
  · omega
  · rw [if_neg h3] at h2
    by_cases h4 : V.fPhase = 2 ∨ V.fPhase = 3
    · omega
    · rw [if_neg h4] at h2; cases h2
theorem voteP_bytes {V : Vote} (hV : V.ok) (hc : Bw V = 0) : voteP (voteT V ++ V.fSig) = (V, (voteT V ++ V.fSig).length, 0) := by
  have hph := vcheck_phase hc
  have hb := byteOf_small (x := V.fPhase) oM oM
  have h0 : (voteT V ++ V.fSig).drop 0 = Au V.fHeight ++ (Au V.fRound ++ (Au (Hw.Bx V.fPhase).toUInt64 ++ (V.fValue ++ (Au V.fProof ++ (V.fVoter ++ (V.fSig ++ [])))))) := by
    simp [voteT, List.append_assoc]
  obtain ⟨g1, h1⟩ := num_fwd h0
  obtain ⟨g2, h2⟩ := num_fwd h1
  obtain ⟨g3, h3⟩ := num_fwd h2
  obtain ⟨g4, h4⟩ := dig_fwd h3 hV.l_fValue
  obtain ⟨g5, h5⟩ := num_fwd h4
  obtain ⟨g6, h6⟩ := dig_fwd h5 hV.l_fVoter
  obtain ⟨g7, h7⟩ := tak_fwd h6 hV.l_fSig dE
  have hm : ((min V.fPhase.toNat 4 : Nat) : Int) = V.fPhase := by omega
  have hl : (voteT V ++ V.fSig).length = voteN V + 64 := by rw [List.length_append, voteT_length hV, hV.l_fSig]
  simp only [voteP, g1, g2, g3, g4, g5, g6, g7]
  simp only [hb, hm, hl, hV.l_fSig]
  have e : V.fSig ++ (List.replicate 64 (0 : UInt8)).drop 64 = V.fSig := by simp
  rw [e]
  congr 2
  unfold voteN
  rw [hb]
  omega
theorem voteRd_bytes {V : Vote} (hV : V.ok) (hc : Bw V = 0) : voteRd (Be V) = (V, 0) := by
  have h := voteP_bytes hV hc
  rw [show Be V = voteT V ++ V.fSig from if_pos hc]
  rw [voteRd_ok (by rw [h]; exact ⟨by simp [endR], hc⟩), h]

theorem listB_cons {D : Type} (f : D → List UInt8) (d : D) (ds : List D) : Av f (d :: ds) = blkB (f d) ++ Av f ds := rfl
theorem votesR_fwd {xs t : List UInt8} {ds : List Vote} {a : Nat} (hok : ∀ d ∈ ds, d.ok ∧ Bw d = 0) (h : xs.drop a = Av Be ds ++ t) : ∀ j, j ≤ ds.length → votesR xs j a 0 = some (ds.take j, a + (Av Be (ds.take j)).length, 0) ∧ xs.drop (a + (Av Be (ds.take j)).length) = Av Be (ds.drop j) ++ t
  | 0, _ => ⟨by simp [votesR, Av], by simpa [Av] using h⟩
  | j + 1, hj => by
    obtain ⟨h1, h2⟩ := votesR_fwd hok h j oM
    have hd : ds[j]? = some ds[j] := List.getElem?_eq_getElem oM
    obtain ⟨ho, hc⟩ := hok ds[j] (List.getElem_mem oM)
    have hle := voteBy_le ho
    rw [List.drop_eq_getElem_cons (l := ds) (i := j) oM, listB_cons, blkB, List.append_assoc] at h2
    obtain ⟨h3, h4⟩ := blk_fwd (ds := Be ds[j]) oM h2
    have hst := votesR_step h1 h3 (by rw [Option.getD_some, voteRd_bytes ho hc]) rfl
    rw [Option.getD_some, voteRd_bytes ho hc] at hst
    have e : a + (Av Be (ds.take (j + 1))).length = a + (Av Be (ds.take j)).length + szN (Be ds[j]).length + (Be ds[j]).length := by
      rw [listB_step Be hd, List.length_append, blkB_length oM]; omega
    rw [e]
    refine ⟨?_, h4⟩
    rw [hst, List.take_succ_eq_append_getElem oM]
theorem DCert.votes_ok {D : DCert} (h : D.check = 0) : ∀ d ∈ D.dVotes, Bw d = 0 := by
  intro d hd
  obtain ⟨j, hj, rfl⟩ := List.getElem_of_mem hd
  apply Classical.byContradiction
  intro hn
  have : D.check = 2 := cert_bad2 hj (.inl (by rw [vote_is (List.getElem?_eq_getElem hj)]; exact hn))
  rw [this] at h; cases h
theorem certRd_bytes {D : DCert} (hp : D.dCut.dPrev.length = 32) (hr : ∀ l ∈ D.dCut.dHeads, l.length = 32) (hv : ∀ d ∈ D.dVotes, d.ok) (hc : D.check = 0) : certRd D.bytes = (D, 0) := by
  obtain ⟨k1, k2, k3⟩ := DCert.facts hc
  have hcb : cutR D.dCut = D.dCut.bytes := if_pos k1
  have hcs := D.dCut.bytes_small k1 hp hr
  have hx : (UInt64.ofNat D.dVotes.length).toNat = D.dVotes.length := A1 oM
  obtain ⟨xs, hxs⟩ : ∃ xs, D.bytes = xs := ⟨_, rfl⟩
  have h0 : xs.drop 0 = Au (UInt64.ofNat D.dCut.bytes.length) ++ D.dCut.bytes ++ (Au (UInt64.ofNat D.dVotes.length) ++ (Av Be D.dVotes ++ [])) := by
    rw [List.drop_zero, ← hxs, DCert.bytes, hcb, blkB]; simp only [List.append_assoc, List.append_nil]
  obtain ⟨g1, h1⟩ := blk_fwd oM h0
  obtain ⟨g2, h2⟩ := num_fwd h1
  rw [hx] at g2 h2
  obtain ⟨g3, h3⟩ := votesR_fwd (fun d hd => ⟨hv d hd, D.votes_ok hc d hd⟩) h2 D.dVotes.length (Nat.le_refl _)
  rw [List.take_length] at g3
  have hlen : xs.length = 0 + szN D.dCut.bytes.length + D.dCut.bytes.length + szN D.dVotes.length + (Av Be D.dVotes).length := by
    rw [← hxs, DCert.bytes, hcb, List.length_append, List.length_append, blkB_length oM, Aq, hx]; omega
  have hrv : readVL xs 16 (0 + szN D.dCut.bytes.length + D.dCut.bytes.length) 0 = some (D.dVotes, 0 + szN D.dCut.bytes.length + D.dCut.bytes.length + szN D.dVotes.length + (Av Be D.dVotes).length, 0) := by
    unfold readVL
    rw [g2]
    simp only [hx]
    rw [if_pos ⟨trivial, by omega⟩]
    exact g3
  rw [hxs]
  unfold certRd
  simp only [g1, Option.getD_some, cutRd_bytes hp hr k1, hrv]
  rw [if_pos trivial, if_pos ⟨by rw [hlen]; simp [endR], hc⟩]

end Go.Proofs.YtdifpjmfabhpiaaGreat
end

section
namespace Go.Proofs.YtdifpjmfabhpiaaGreat
open Go Hw

def DRecord.check (D : DRecord) : Int := if D.dKind = 0 ∨ (8192 : Int) < (D.dData.length : Int) then 2 else 0

def inOrd (ds : List DCert) : Bool := (List.range ds.length).all fun k => decide ((ds.getD k dcertz).dCut.dHeight.toNat = k + 1)
end Go.Proofs.YtdifpjmfabhpiaaGreat
end
