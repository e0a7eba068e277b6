/- headwaterlaw26.KeepNeeds returns true at every input, and all that it reads reads behind the call as before. Conditions: none beyond the given statement's own. -/
import Derived.WalkKit
import Derived.Orders
import Derived.Deep.LoopGhost
import Derived.IntWalk
import Derived.Laws.StructEq
import Derived.ArgAppend
import Derived.Deep.AppendSrc
import Derived.Lib.Bytealg
import Derived.Lib.BytesEntry
import Derived.Laws.IdiomStrings
import Derived.WideKeyArr2
import Derived.ProofKit
import Derived.OpenShut
import Derived.Deep.Slices
import Derived.Laws.Pointers
import Derived.Laws.Cover3
import Derived.LaidEqlPtr
import Derived.LoopN
import Derived.RangeFuncLeaves
import Derived.RangeFuncSeq
import Derived.OrdersIn
import Derived.Test.YtkfhpmidcbmofaaGreatRows
import Derived.KernelRfl
import Derived.Laws.Externs
import Derived.Defers
import Derived.ChangeOld
import Derived.Below
import Derived.Test.YtkfhpmidcbmofaaGreatKNeedsC4
set_option maxRecDepth 100000
set_option maxHeartbeats 8000000
set_option linter.unusedVariables false
set_option linter.unusedSimpArgs false
section
namespace Go.Proofs.YtkfhpmidcbmofaaGreat
open Go Hw

theorem certBy_le {C : Cert} {D : DCert} {W : World} (h : CertIs W C D) : (certBy D).length ≤ 40000 := by
  unfold certBy
  split
  · rename_i hc
    obtain ⟨h1, h2, h3⟩ := DCert.facts hc
    have hcl := cutR_le h.fCut
    obtain ⟨rs, hvs⟩ := h.fVotes
    have h4 := listB_le Be 164 dE D.dVotes (fun d hd => voteBy_le (seqv_ok hvs d hd))
    have h5 : D.dVotes.length * (164 + 9) ≤ 16 * (164 + 9) := Nat.mul_le_mul_right _ h3
    have hz := Bb (cutR D.dCut).length
    have hz2 := Bb (UInt64.ofNat D.dVotes.length).toNat
    rw [DCert.bytes, List.length_append, List.length_append, blkB_length oM, A5]
    omega
  · simp
theorem blockBy_le {D : DB} (ok : D.ok) : (blockBy D).length ≤ 40000 := by
  unfold blockBy
  split
  · rename_i hc
    have := D.bytes_small hc ok
    omega
  · simp
theorem stay_of {C : Cx} {hp bl : List Blk} {w : World} {F : World → Prop} (h : HRep C hp w) (hl : C.lent = []) (hk : C.kb = []) (hb : ∀ b ∈ bl, b ∈ hp) (hF : ∀ w2, HRep C [] w2 → F w2) : Stay (bl.map (·.n)) w F := fun W2 k => by
  refine hF W2 ⟨fun b h => (by cases h), List.nodup_nil, fun b h => (by cases h), ⟨k.os.trans h.keeps.os, k.tape.trans h.keeps.tape, k.output.trans h.keeps.output, Nat.le_trans h.keeps.size k.size, fun i hi hn => ?_⟩, fun b hb => (by rw [hk] at hb; cases hb), fun b h => (by cases h)⟩
  rw [k.block i (Nat.lt_of_lt_of_le hi h.keeps.size) (fun hm => ?_), h.keeps.block i hi hn]
  obtain ⟨b, hb', e⟩ := List.mem_map.1 hm
  rcases h.own b (hb b hb') with h1 | h1
  · omega
  · rw [hl] at h1; cases h1
noncomputable def stg {D : Type} (f : D → DRecord × Int) (ds : List D) (q : List DRecord × Int) : List DRecord × Int := if q.2 = 0 then (if putE f ds = 0 then (q.1 ++ putD f ds, 0) else ([], putE f ds)) else q
structure QI (q : List DRecord × Int) (e : Int) (s : Sl) (b o : List Blk) (rs : List Record) (M : Nat) : Prop where
  err : e = q.2
  own : q.2 = 0 → OwnSeq Record.cells 2 RecordIs 32 s b o rs q.1 q.1.length
  bad : ¬ q.2 = 0 → q.1 = []
  le : q.1.length ≤ M
theorem QI.then' {D : Type} {f : D → DRecord × Int} {ds : List D} {q : List DRecord × Int} {e : Int} {s s2 : Sl} {b o b2 o2 : List Blk} {rs rs2 : List Record} {M n : Nat} (h : QI q e s b o rs M) (h0 : e = 0) (hd : ds.length = n) (hn : n ≤ 1000) (hy : putE f ds = 0 → OwnSeq Record.cells 2 RecordIs 32 s2 b2 (o2 ++ o) rs2 (q.1 ++ putD f ds) (q.1.length + n)) : QI (stg f ds q) (putE f ds) s2 b2 (o2 ++ o) rs2 (M + 1000) := by
  have hz : q.2 = 0 := by rw [← h.err, h0]
  have hle := h.le
  have hl : (q.1 ++ putD f ds).length = q.1.length + n := by rw [List.length_append, putD, List.length_map, hd]
  by_cases hp : putE f ds = 0
  · have e1 : stg f ds q = (q.1 ++ putD f ds, 0) := by rw [stg, if_pos hz, if_pos hp]
    rw [e1]
    refine ⟨hp, fun _ => ?_, fun c => absurd rfl c, ?_⟩
    · dsimp only; rw [hl]; exact hy hp
    · dsimp only; rw [hl]; omega
  · have e1 : stg f ds q = ([], putE f ds) := by rw [stg, if_pos hz, if_neg hp]
    rw [e1]
    exact ⟨rfl, fun c => absurd c hp, fun _ => rfl, Nat.zero_le _⟩
theorem QI.skip' {D : Type} {f : D → DRecord × Int} {ds : List D} {q : List DRecord × Int} {e : Int} {s : Sl} {b o : List Blk} {rs : List Record} {M : Nat} (h : QI q e s b o rs M) (h0 : ¬ e = 0) : QI (stg f ds q) e s b o rs (M + 1000) := by
  have hz : ¬ q.2 = 0 := by rw [← h.err]; exact h0
  have hle := h.le
  have e1 : stg f ds q = q := by rw [stg, if_neg hz]
  rw [e1]
  exact ⟨h.err, h.own, h.bad, by omega⟩
theorem QI.first' (e : Int) : QI ([], e) e Sl.nil [] [] [] 0 := ⟨rfl, fun _ => OwnSeq.none, fun _ => rfl, Nat.le_refl _⟩
noncomputable def rsE (D : DKept) : List DRecord × Int := stg (fun X : DCert => Bu 2 (certBy X) (DCert.check X)) D.dCerts ([], D.check)
noncomputable def rsB (D : DKept) : List DRecord × Int := stg (fun X : DB => Bu 1 (blockBy X) (DB.check X)) D.dBlocks (rsE D)
noncomputable def rsC (D : DKept) : List DRecord × Int := stg (fun X : DCut => Bu 4 (cutR X) (DCut.check X)) D.dCuts (rsB D)
noncomputable def recsRd (D : DKept) : List DRecord × Int := stg (fun X : Vote => Bu 3 (Be X) (Bp X)) D.dVotes (rsC D)
def RecsR (D : DKept) (v : Value) (out : List Blk) : Prop := ∃ (s : Sl) (rs : List Record), v = .tuple #[s.v, i64 (recsRd D).2] ∧ s.n = (recsRd D).1.length ∧ ∀ W2, Lies out W2 → SeqIs Record.cells 2 RecordIs W2 s rs (recsRd D).1
theorem recs_bad {D : DKept} {e : Int} {s : Sl} {b o : List Blk} {rs : List Record} {M : Nat} (h : QI (recsRd D) e s b o rs M) (h0 : ¬ e = 0) : RecsR D (.tuple #[Sl.nil.v, i64 e]) [] := by
  have hz : ¬ (recsRd D).2 = 0 := by rw [← h.err]; exact h0
  refine ⟨Sl.nil, [], by rw [h.err], by rw [h.bad hz]; rfl, fun W2 _ => ?_⟩
  rw [h.bad hz]
  exact SeqIs.none
theorem recs_ok {D : DKept} {e : Int} {s : Sl} {b o : List Blk} {rs : List Record} {M : Nat} (h : QI (recsRd D) e s b o rs M) (h0 : e = 0) (hM : M ≤ 100000) : RecsR D (.tuple #[s.v, i64 0]) (b ++ (o ++ [])) := by
  have hz : (recsRd D).2 = 0 := by rw [← h.err]; exact h0
  have ho := h.own hz
  have := h.le
  refine ⟨s, rs, by rw [hz], ho.acc.num, fun W2 hl => ho.seq (hl.sub fun b h => by simp [h]) (hl.sub fun b h => by simp [h]) oM⟩

theorem keep_records (X : Kept) (D : DKept) (h1 : X.fBlocks.n ≤ 1000) (h2 : X.fCerts.n ≤ 1000) (h3 : X.fVotes.n ≤ 1000) (h4 : X.fCuts.n ≤ 1000) : Meets Tryz.prog 19 [agg X.cells] [] (fun W => KeptIs W X D) (RecsR D) := by
 intro W hW
 obtain ⟨rsE_, hE⟩ := hW.fCerts
 obtain ⟨rsB_, hB⟩ := hW.fBlocks
 obtain ⟨rsC_, hC⟩ := hW.fCuts
 obtain ⟨rsV_, hV⟩ := hW.fVotes
 refine Ai Tryz.func19 rfl 48 Tryz.ntmps19 rfl ?_
 refine Sat.seq (Sat.region ?_)
 refine Tr.boxA rfl rfl ?_
 intro n1 hn1 hf1
 refine Tr.a rfl rfl rfl ?_
 refine Tr.a rfl rfl rfl ?_
 refine Tr.nil (Aa (Sat.seq (Sat.region ?_)))
 refine Tr.lA rfl rfl rfl U45 rfl Sz45 mM (Kept.length (by first | exact oK  | exact hW.ok)) ?_
 refine Tr.cV rfl rfl rfl rfl Body14 (keep_check X D) (fun w h => hW.ext h rfl) ?_
 refine Tr.a rfl rfl rfl ?_
 refine Tr.nil (Aa (Sat.seq (Sat.region ?_)))
 refine Tr.a rfl rfl rfl ?_
 refine Tr.nil (Aa ?_)
 refine Sat.join (ι := Int × Sl × List Blk × List Blk × List Record) (fun p1 => ⟨[(1, ptr n1 0), (4, i64 p1.1), (5, p1.2.1.v)], (⟨n1, X.cells, 45, X.cells.length⟩ :: (p1.2.2.1 ++ (p1.2.2.2.1 ++ [])))⟩) (fun p1 => QI (rsE D) p1.1 p1.2.1 p1.2.2.1 p1.2.2.2.1 p1.2.2.2.2 1000) ?_ ?_
 ·
  refine Sat.seq (Sat.region ?_)
  refine Tr.m rfl rfl rfl ?_
  refine Tr.eqi rfl rfl rfl rfl rfl ?_
  refine Tr.nil (Aa ?_)
  first
   | refine Sat.condP rfl (fun hc0 => ?_) (fun hc0 => ?_)
   | refine Sat.condNP rfl (fun hc0 => ?_) (fun hc0 => ?_)
   | refine Sat.cond rfl (fun hc0 => ?_) (fun hc0 => ?_)
  ·
   refine Sat.region ?_
   refine Tr.m rfl rfl rfl ?_
   refine Tr.fld rfl rfl rfl U45 rfl Sz41 dE _ rfl ?_
   refine Tr.load1 rfl rfl rfl U41 rfl mM (by first | exact Kept.get_fCerts (by first | exact oK  | exact hW.ok) | exact vL) ?_
   refine Tr.call4 rfl rfl rfl rfl rfl Body69 (kput_cert Sl.nil [] [] [] [] 0 OwnSeq.none dE X.fCerts rsE_ D.dCerts oM (fun d hd => by obtain ⟨i, hi⟩ := List.getElem?_of_mem hd; obtain ⟨b, o, r, d', hp, hr, hd', hI, _⟩ := hE.at dE (show i < X.fCerts.n by rw [← hE.nd]; exact (List.getElem?_eq_some_iff.1 hi).1); rw [hi] at hd'; cases hd'; exact certBy_le hI)) (fun w h => ⟨fun b hb => (by cases hb), stay_of h rfl rfl (bl := []) (fun b hb => (by cases hb)) (fun w2 h2 => hE.ext h2 rfl (fun r d h3 => h3.ext h2 rfl))⟩) ?_
   rintro v14 out14 ⟨s14, b14, o14, rs14, rfl, rfl, hy14, hn14⟩
   clear hn14
   simp only [List.append_assoc, List.nil_append]
   refine Tr.m rfl rfl rfl ?_
   refine Tr.eX rfl rfl rfl rfl ?_
   refine Tr.eX rfl rfl rfl rfl ?_
   refine Tr.a rfl rfl rfl ?_
   refine Tr.a rfl rfl rfl ?_
   refine Tr.nil (Aa ?_)
   first
    | exact ⟨(putE (fun X : DCert => Bu 2 (certBy X) (DCert.check X)) D.dCerts, s14, b14, o14 ++ [], rs14), (QI.first' D.check).then' hc0 hE.nd oM hy14, Ah (wk1 rfl (wk1 rfl (wk1 rfl wk0))) (Ad rM (Ac sG (B5 (Ac sG (Ac sG Af)))))⟩
    | exact ⟨(D.check, Sl.nil, [], [], []), (QI.first' D.check).skip' hc0, Ah (wk1 rfl (wk1 rfl (wk1 rfl wk0))) (Ad rM (Ac sG (Ac sG Af)))⟩
  ·
   refine Sat.skip (Aa ?_)
   first
    | exact ⟨(putE (fun X : DCert => Bu 2 (certBy X) (DCert.check X)) D.dCerts, s14, b14, o14 ++ [], rs14), (QI.first' D.check).then' hc0 hE.nd oM hy14, Ah (wk1 rfl (wk1 rfl (wk1 rfl wk0))) (Ad rM (Ac sG (B5 (Ac sG (Ac sG Af)))))⟩
    | exact ⟨(D.check, Sl.nil, [], [], []), (QI.first' D.check).skip' hc0, Ah (wk1 rfl (wk1 rfl (wk1 rfl wk0))) (Ad rM (Ac sG (Ac sG Af)))⟩
 ·
  intro p1 hj
  have hp1 := hj
  refine Sat.join (ι := Int × Sl × List Blk × List Blk × List Record) (fun p2 => ⟨[(1, ptr n1 0), (4, i64 p2.1), (5, p2.2.1.v)], (⟨n1, X.cells, 45, X.cells.length⟩ :: (p2.2.2.1 ++ (p2.2.2.2.1 ++ [])))⟩) (fun p2 => QI (rsB D) p2.1 p2.2.1 p2.2.2.1 p2.2.2.2.1 p2.2.2.2.2 2000) ?_ ?_
  ·
   refine Sat.seq (Sat.region ?_)
   refine Tr.m rfl rfl rfl ?_
   refine Tr.eqi rfl rfl rfl rfl rfl ?_
   refine Tr.nil (Aa ?_)
   first
    | refine Sat.condP rfl (fun hc1 => ?_) (fun hc1 => ?_)
    | refine Sat.condNP rfl (fun hc1 => ?_) (fun hc1 => ?_)
    | refine Sat.cond rfl (fun hc1 => ?_) (fun hc1 => ?_)
   ·
    refine Sat.region ?_
    refine Tr.m rfl rfl rfl ?_
    refine Tr.fld rfl rfl rfl U45 rfl Sz40 dE _ rfl ?_
    refine Tr.load1 rfl rfl rfl U40 rfl mM (by first | exact Kept.get_fBlocks (by first | exact oK  | exact hW.ok) | exact vL) ?_
    refine Tr.callL (L := p1.2.2.1) rfl rfl rfl rfl rfl Body70 (kput_block p1.2.1 p1.2.2.1 p1.2.2.2.1 p1.2.2.2.2 (rsE D).1 (rsE D).1.length (hp1.own (by rw [← hp1.err]; exact hc1)) (by have := hp1.le; omega) X.fBlocks rsB_ D.dBlocks oM (fun d hd => by obtain ⟨i, hi⟩ := List.getElem?_of_mem hd; obtain ⟨b, o, r, d', hp, hr, hd', hI, _⟩ := hB.at dE (show i < X.fBlocks.n by rw [← hB.nd]; exact (List.getElem?_eq_some_iff.1 hi).1); rw [hi] at hd'; cases hd'; exact blockBy_le hI.dok)) sG (A4 rfl) (fun w h => ⟨Lies.of h iN, stay_of h rfl rfl iN (fun w2 h2 => hB.ext h2 rfl (fun r d h3 => h3.ext h2 rfl))⟩) ?_
    rintro v23 out23 ⟨s23, b23, o23, rs23, rfl, rfl, hy23, hn23⟩
    clear hn23
    simp only [List.append_assoc, List.nil_append]
    refine Tr.m rfl rfl rfl ?_
    refine Tr.eX rfl rfl rfl rfl ?_
    refine Tr.eX rfl rfl rfl rfl ?_
    refine Tr.a rfl rfl rfl ?_
    refine Tr.a rfl rfl rfl ?_
    refine Tr.nil (Aa ?_)
    first
     | exact ⟨(putE (fun X : DB => Bu 1 (blockBy X) (DB.check X)) D.dBlocks, s23, b23, o23 ++ p1.2.2.2.1, rs23), hp1.then' hc1 hB.nd oM hy23, Ah (wk1 rfl (wk1 rfl (wk1 rfl wk0))) (Ad rM (Ac sG (B5 (Ac sG (Ac sG Af)))))⟩
     | exact ⟨p1, hp1.skip' hc1, Ah (wk1 rfl (wk1 rfl (wk1 rfl wk0))) (Ad rM (Ac sG (Ac sG Af)))⟩
   ·
    refine Sat.skip (Aa ?_)
    first
     | exact ⟨(putE (fun X : DB => Bu 1 (blockBy X) (DB.check X)) D.dBlocks, s23, b23, o23 ++ p1.2.2.2.1, rs23), hp1.then' hc1 hB.nd oM hy23, Ah (wk1 rfl (wk1 rfl (wk1 rfl wk0))) (Ad rM (Ac sG (B5 (Ac sG (Ac sG Af)))))⟩
     | exact ⟨p1, hp1.skip' hc1, Ah (wk1 rfl (wk1 rfl (wk1 rfl wk0))) (Ad rM (Ac sG (Ac sG Af)))⟩
  ·
   intro p2 hj
   have hp2 := hj
   refine Sat.join (ι := Int × Sl × List Blk × List Blk × List Record) (fun p3 => ⟨[(1, ptr n1 0), (4, i64 p3.1), (5, p3.2.1.v)], (⟨n1, X.cells, 45, X.cells.length⟩ :: (p3.2.2.1 ++ (p3.2.2.2.1 ++ [])))⟩) (fun p3 => QI (rsC D) p3.1 p3.2.1 p3.2.2.1 p3.2.2.2.1 p3.2.2.2.2 3000) ?_ ?_
   ·
    refine Sat.seq (Sat.region ?_)
    refine Tr.m rfl rfl rfl ?_
    refine Tr.eqi rfl rfl rfl rfl rfl ?_
    refine Tr.nil (Aa ?_)
    first
     | refine Sat.condP rfl (fun hc2 => ?_) (fun hc2 => ?_)
     | refine Sat.condNP rfl (fun hc2 => ?_) (fun hc2 => ?_)
     | refine Sat.cond rfl (fun hc2 => ?_) (fun hc2 => ?_)
    ·
     refine Sat.region ?_
     refine Tr.m rfl rfl rfl ?_
     refine Tr.fld rfl rfl rfl U45 rfl Sz43 dE _ rfl ?_
     refine Tr.load1 rfl rfl rfl U43 rfl mM (by first | exact Kept.get_fCuts (by first | exact oK  | exact hW.ok) | exact vL) ?_
     refine Tr.callL (L := p2.2.2.1) rfl rfl rfl rfl rfl Body71 (kput_cut p2.2.1 p2.2.2.1 p2.2.2.2.1 p2.2.2.2.2 (rsB D).1 (rsB D).1.length (hp2.own (by rw [← hp2.err]; exact hc2)) (by have := hp2.le; omega) X.fCuts rsC_ D.dCuts oM (fun d hd => by obtain ⟨i, hi⟩ := List.getElem?_of_mem hd; obtain ⟨b, o, r, d', hp, hr, hd', hI, _⟩ := hC.at dE (show i < X.fCuts.n by rw [← hC.nd]; exact (List.getElem?_eq_some_iff.1 hi).1); rw [hi] at hd'; cases hd'; exact Nat.le_trans (cutR_le hI) dE)) sG (A4 rfl) (fun w h => ⟨Lies.of h iN, stay_of h rfl rfl iN (fun w2 h2 => hC.ext h2 rfl (fun r d h3 => h3.ext h2 rfl))⟩) ?_
     rintro v32 out32 ⟨s32, b32, o32, rs32, rfl, rfl, hy32, hn32⟩
     clear hn32
     simp only [List.append_assoc, List.nil_append]
     refine Tr.m rfl rfl rfl ?_
     refine Tr.eX rfl rfl rfl rfl ?_
     refine Tr.eX rfl rfl rfl rfl ?_
     refine Tr.a rfl rfl rfl ?_
     refine Tr.a rfl rfl rfl ?_
     refine Tr.nil (Aa ?_)
     first
      | exact ⟨(putE (fun X : DCut => Bu 4 (cutR X) (DCut.check X)) D.dCuts, s32, b32, o32 ++ p2.2.2.2.1, rs32), hp2.then' hc2 hC.nd oM hy32, Ah (wk1 rfl (wk1 rfl (wk1 rfl wk0))) (Ad rM (Ac sG (B5 (Ac sG (Ac sG Af)))))⟩
      | exact ⟨p2, hp2.skip' hc2, Ah (wk1 rfl (wk1 rfl (wk1 rfl wk0))) (Ad rM (Ac sG (Ac sG Af)))⟩
    ·
     refine Sat.skip (Aa ?_)
     first
      | exact ⟨(putE (fun X : DCut => Bu 4 (cutR X) (DCut.check X)) D.dCuts, s32, b32, o32 ++ p2.2.2.2.1, rs32), hp2.then' hc2 hC.nd oM hy32, Ah (wk1 rfl (wk1 rfl (wk1 rfl wk0))) (Ad rM (Ac sG (B5 (Ac sG (Ac sG Af)))))⟩
      | exact ⟨p2, hp2.skip' hc2, Ah (wk1 rfl (wk1 rfl (wk1 rfl wk0))) (Ad rM (Ac sG (Ac sG Af)))⟩
   ·
    intro p3 hj
    have hp3 := hj
    refine Sat.join (ι := Int × Sl × List Blk × List Blk × List Record) (fun p4 => ⟨[(1, ptr n1 0), (4, i64 p4.1), (5, p4.2.1.v)], (⟨n1, X.cells, 45, X.cells.length⟩ :: (p4.2.2.1 ++ (p4.2.2.2.1 ++ [])))⟩) (fun p4 => QI (recsRd D) p4.1 p4.2.1 p4.2.2.1 p4.2.2.2.1 p4.2.2.2.2 4000) ?_ ?_
    ·
     refine Sat.seq (Sat.region ?_)
     refine Tr.m rfl rfl rfl ?_
     refine Tr.eqi rfl rfl rfl rfl rfl ?_
     refine Tr.nil (Aa ?_)
     first
      | refine Sat.condP rfl (fun hc3 => ?_) (fun hc3 => ?_)
      | refine Sat.condNP rfl (fun hc3 => ?_) (fun hc3 => ?_)
      | refine Sat.cond rfl (fun hc3 => ?_) (fun hc3 => ?_)
     ·
      refine Sat.region ?_
      refine Tr.m rfl rfl rfl ?_
      refine Tr.fld rfl rfl rfl U45 rfl Sz42 dE _ rfl ?_
      refine Tr.load1 rfl rfl rfl U42 rfl mM (by first | exact Kept.get_fVotes (by first | exact oK  | exact hW.ok) | exact vL) ?_
      refine Tr.callL (L := p3.2.2.1) rfl rfl rfl rfl rfl Body72 (kput_vote p3.2.1 p3.2.2.1 p3.2.2.2.1 p3.2.2.2.2 (rsC D).1 (rsC D).1.length (hp3.own (by rw [← hp3.err]; exact hc3)) (by have := hp3.le; omega) X.fVotes rsV_ D.dVotes oM (fun d hd => Nat.le_trans (voteBy_le (seqv_ok hV d hd)) dE)) sG (A4 rfl) (fun w h => ⟨Lies.of h iN, stay_of h rfl rfl iN (fun w2 h2 => hV.ext h2 rfl (fun r d h3 => h3.ext h2 rfl))⟩) ?_
      rintro v41 out41 ⟨s41, b41, o41, rs41, rfl, rfl, hy41, hn41⟩
      clear hn41
      simp only [List.append_assoc, List.nil_append]
      refine Tr.m rfl rfl rfl ?_
      refine Tr.eX rfl rfl rfl rfl ?_
      refine Tr.eX rfl rfl rfl rfl ?_
      refine Tr.a rfl rfl rfl ?_
      refine Tr.a rfl rfl rfl ?_
      refine Tr.nil (Aa ?_)
      first
       | exact ⟨(putE (fun X : Vote => Bu 3 (Be X) (Bp X)) D.dVotes, s41, b41, o41 ++ p3.2.2.2.1, rs41), hp3.then' hc3 hV.nd oM hy41, Ah (wk1 rfl (wk1 rfl (wk1 rfl wk0))) (Ad rM (Ac sG (B5 (Ac sG (Ac sG Af)))))⟩
       | exact ⟨p3, hp3.skip' hc3, Ah (wk1 rfl (wk1 rfl (wk1 rfl wk0))) (Ad rM (Ac sG (Ac sG Af)))⟩
     ·
      refine Sat.skip (Aa ?_)
      first
       | exact ⟨(putE (fun X : Vote => Bu 3 (Be X) (Bp X)) D.dVotes, s41, b41, o41 ++ p3.2.2.2.1, rs41), hp3.then' hc3 hV.nd oM hy41, Ah (wk1 rfl (wk1 rfl (wk1 rfl wk0))) (Ad rM (Ac sG (B5 (Ac sG (Ac sG Af)))))⟩
       | exact ⟨p3, hp3.skip' hc3, Ah (wk1 rfl (wk1 rfl (wk1 rfl wk0))) (Ad rM (Ac sG (Ac sG Af)))⟩
    ·
     intro p4 hj
     have hp4 := hj
     refine Sat.seq (Sat.seq (Sat.region ?_))
     refine Tr.m rfl rfl rfl ?_
     refine Tr.nei rfl rfl rfl rfl rfl ?_
     refine Tr.nil (Aa ?_)
     first
      | refine Sat.condP rfl (fun hc4 => ?_) (fun hc4 => ?_)
      | refine Sat.condNP rfl (fun hc4 => ?_) (fun hc4 => ?_)
      | refine Sat.cond rfl (fun hc4 => ?_) (fun hc4 => ?_)
     ·
      refine Sat.seq (Sat.region ?_)
      refine Tr.m rfl rfl rfl ?_
      refine Tr.a rfl rfl rfl ?_
      refine Tr.a rfl rfl rfl ?_
      refine Tr.nil (Aa (Sat.ret (Ao (Ak ?_))))
      refine Aj (out := []) (Bj rfl rfl rfl) Af ?_
      exact recs_bad hp4 hc4
     ·
      refine Sat.skip (Aa (Sat.seq (Sat.region ?_)))
      refine Tr.m rfl rfl rfl ?_
      refine Tr.a rfl rfl rfl ?_
      refine Tr.a rfl rfl rfl ?_
      refine Tr.nil (Aa (Sat.ret (Ak ?_)))
      refine Aj (out := (p4.2.2.1 ++ (p4.2.2.2.1 ++ []))) (Bj rfl rfl rfl) (Ac sG (Ac sG Af)) ?_
      exact recs_ok hp4 oM dE

end Go.Proofs.YtkfhpmidcbmofaaGreat
end

section
namespace Go.Proofs.YtkfhpmidcbmofaaGreat
open Go Hw

def DKept.light (D : DKept) (n : Int) : Bool := lightOf lightBf D.dBlocks n && (lightOf lightEf D.dCerts n && (decide ((D.dVotes.length : Int) ≤ n) && lightOf lightCf D.dCuts n))
structure LightK (D : DKept) : Prop where
  nB : D.dBlocks.length ≤ 12
  nE : D.dCerts.length ≤ 12
  nV : D.dVotes.length ≤ 12
  nC : D.dCuts.length ≤ 12
  blocks : ∀ d ∈ D.dBlocks, d.ls.length ≤ 500000 ∧ d.ds.length ≤ 500000
  cuts : ∀ d ∈ D.dCuts, d.dHeads.length ≤ 500000
  certs : ∀ d ∈ D.dCerts, d.dCut.dHeads.length ≤ 500000 ∧ d.dVotes.length ≤ 500000
theorem lightk_small {D : DKept} (h : D.light 12 = true) : LightK D := by
  simp only [DKept.light, lightOf, lightBf, lightCf, lightEf, Bool.and_eq_true, decide_eq_true_eq, Bool.not_eq_true', decide_eq_false_iff_not, List.all_eq_true] at h
  obtain ⟨⟨h3, h4⟩, ⟨h8, h9⟩, h5, ⟨h6, h7⟩⟩ := h
  exact ⟨by omega, by omega, by omega, by omega, fun d hd => by have := h4 d hd; omega, fun d hd => by have := h7 d hd; omega, fun d hd => by have := h9 d hd; omega⟩
theorem no_lie0 {n : Nat} {v : Value} {T : TypeId} {W : World} (h : Lies [⟨n, [v], T, 0⟩] W) : False := by
  obtain ⟨full, fr, hb⟩ := h _ (List.mem_singleton.2 rfl)
  have h1 := hb.pre.length_le
  have h2 := hb.size
  simp at h1
  simp only at h2
  omega
theorem flat_len0 {R : Type} {cells : R → List Value} {k : Nat} : ∀ (rs : List R), (∀ r ∈ rs, (cells r).length = k) → (rs.map cells).flatten.length = rs.length * k
  | [], _ => by simp
  | r :: l, h => by
    rw [List.map_cons, List.flatten_cons, List.length_append, flat_len0 l (fun x hx => h x (List.mem_cons_of_mem _ hx)), h r List.mem_cons_self, List.length_cons, Nat.add_mul, Nat.one_mul, Nat.add_comm]
theorem ownseq_loose {R D : Type} {cells : R → List Value} {k : Nat} {Is : World → R → D → Prop} {E : TypeId} (r0 : R) (hr : (cells r0).length = k) {ds : List D} {n : Nat} (hd : ds.length = n) : Loose (fun v out => ∃ (sl : Sl) (bl bl2 : List Blk) (rs : List R), v = sl.v ∧ out = bl ++ bl2 ∧ OwnSeq cells k Is E sl bl bl2 rs ds n) := fun l hl => by
  obtain ⟨q, _, hq⟩ := fresh_is 0 l
  obtain ⟨q2, h2, hq2⟩ := fresh_is (q + 1) l
  refine ⟨_, _, ⟨⟨some ⟨q, 0, none⟩, n, n⟩, [⟨q, ((List.replicate n r0).map cells).flatten, E, n * k⟩], [⟨q2, [undef], 0, 0⟩], List.replicate n r0, rfl, rfl, Acc.some (Nat.le_refl _) ?_, by simp, hd, fun r h => by rw [(List.mem_replicate.1 h).2]; exact hr, fun W2 h => (no_lie0 h).elim⟩, ?_⟩
  · rw [flat_len0 (k := k) _ (fun r h => by rw [(List.mem_replicate.1 h).2]; exact hr), List.length_replicate]
  · rw [List.map_append, List.nodup_append]
    refine ⟨by simp; omega, hl, fun i hi j hj => ?_⟩
    obtain ⟨b, hb, rfl⟩ := List.mem_map.1 hj
    simp at hi
    rcases hi with rfl | rfl
    · exact fun e => hq b hb e.symm
    · exact fun e => hq2 b hb e.symm
def OwnedKept (D : DKept) (v : Value) (out : List Blk) : Prop := ∃ X : Kept, X.ok ∧ v = agg X.cells ∧ ∀ W2, Lies out W2 → KeptIs W2 X D
theorem kept_lens {W : World} {X : Kept} {D : DKept} (h : KeptIs W X D) : D.dBlocks.length = X.fBlocks.n ∧ D.dCerts.length = X.fCerts.n ∧ D.dVotes.length = X.fVotes.n ∧ D.dCuts.length = X.fCuts.n := by
  obtain ⟨_, h1⟩ := h.fBlocks
  obtain ⟨_, h2⟩ := h.fCerts
  obtain ⟨_, h3⟩ := h.fVotes
  obtain ⟨_, h4⟩ := h.fCuts
  exact ⟨h1.nd, h2.nd, h3.nd, h4.nd⟩

theorem light_kept (X : Kept) (D : DKept) (n : Int) : Meets Tryz.prog 16 [agg X.cells, i64 n] [] (fun W => KeptIs W X D) (fun v out => v = .bool (D.light n) ∧ out = []) := by
 intro W hW
 have hok := hW.ok
 obtain ⟨l1, l2, l3, l4⟩ := kept_lens hW
 refine Ai Tryz.func16 rfl 28 Tryz.ntmps16 rfl ?_
 refine Sat.seq (Sat.region ?_)
 refine Tr.boxA rfl rfl ?_
 intro n2 hn2 hf2
 refine Tr.a rfl rfl rfl ?_
 refine Tr.nil (Aa (Sat.seq (Sat.region ?_)))
 refine Tr.fld rfl rfl rfl U45 rfl Sz40 dE _ rfl ?_
 refine Tr.load1 rfl rfl rfl U40 rfl mM (by first | exact Kept.get_fBlocks (by first | exact oK  | exact hok) | exact vL) ?_
 refine Tr.m rfl rfl rfl ?_
 refine Tr.callB rfl rfl rfl rfl Body63 (lightd_blocks X.fBlocks D.dBlocks n) (fun w h => Bk h rfl hW.fBlocks) (fun hs1_30 => ?_) (fun hs1_30 => ?_)
 ·
  first | have hs1_3 := of_decide_eq_true hs1_30 | have hs1_3 := of_decide_eq_false hs1_30 | have hs1_3 := Bg hs1_30 | have hs1_3 := Bh hs1_30 | have hs1_3 := hs1_30
  refine Tr.m rfl rfl rfl ?_
  refine Tr.fld rfl rfl rfl U45 rfl Sz41 dE _ rfl ?_
  refine Tr.load1 rfl rfl rfl U41 rfl mM (by first | exact Kept.get_fCerts (by first | exact oK  | exact hok) | exact vL) ?_
  refine Tr.m rfl rfl rfl ?_
  refine Tr.callB rfl rfl rfl rfl Body64 (lightd_certs X.fCerts D.dCerts n) (fun w h => Bt h rfl hW.fCerts) (fun hs1_80 => ?_) (fun hs1_80 => ?_)
  ·
   first | have hs1_8 := of_decide_eq_true hs1_80 | have hs1_8 := of_decide_eq_false hs1_80 | have hs1_8 := Bg hs1_80 | have hs1_8 := Bh hs1_80 | have hs1_8 := hs1_80
   refine Tr.pick rfl rfl rfl rfl rfl rfl ?_
   refine Tr.m rfl rfl rfl ?_
   refine Tr.fld rfl rfl rfl U45 rfl Sz42 dE _ rfl ?_
   refine Tr.load1 rfl rfl rfl U42 rfl mM (by first | exact Kept.get_fVotes (by first | exact oK  | exact hok) | exact vL) ?_
   refine Tr.lenSl rfl rfl rfl U42 ?_
   refine Tr.m rfl rfl rfl ?_
   refine two (fun r hr k => Tr.leq rfl rfl rfl rfl hr k) (fun hs1_150 => ?_) (fun hs1_150 => ?_)
   ·
    first | have hs1_15 := of_decide_eq_true hs1_150 | have hs1_15 := of_decide_eq_false hs1_150 | have hs1_15 := Bg hs1_150 | have hs1_15 := Bh hs1_150 | have hs1_15 := hs1_150
    refine Tr.pick rfl rfl rfl rfl rfl rfl ?_
    refine Tr.m rfl rfl rfl ?_
    refine Tr.fld rfl rfl rfl U45 rfl Sz43 dE _ rfl ?_
    refine Tr.load1 rfl rfl rfl U43 rfl mM (by first | exact Kept.get_fCuts (by first | exact oK  | exact hok) | exact vL) ?_
    refine Tr.m rfl rfl rfl ?_
    refine Tr.cV rfl rfl rfl rfl Body65 (lightd_cuts X.fCuts D.dCuts n) (fun w h => Cuts_ext h rfl hW.fCuts) ?_
    refine Tr.pick rfl rfl rfl rfl rfl rfl ?_
    refine Tr.a rfl rfl rfl ?_
    refine Tr.nil (Aa (Sat.ret (Ak ?_)))
    refine ⟨_, [], Ae rfl rfl, sP, sP, ?_, rfl⟩
    refine congrArg Value.bool ?_
    simp only [DKept.light, ← l3]
    first
     | (simp [*]; done)
     | (simp_all; done)
   ·
    first | have hs1_15 := of_decide_eq_true hs1_150 | have hs1_15 := of_decide_eq_false hs1_150 | have hs1_15 := Bg hs1_150 | have hs1_15 := Bh hs1_150 | have hs1_15 := hs1_150
    refine Tr.pick rfl rfl rfl rfl rfl rfl ?_
    refine Tr.m rfl rfl rfl ?_
    refine Tr.skp rfl rfl ?_
    refine Tr.skp rfl rfl ?_
    refine Tr.skp rfl rfl ?_
    refine Tr.skp rfl rfl ?_
    refine Tr.pick rfl rfl rfl rfl rfl rfl ?_
    refine Tr.a rfl rfl rfl ?_
    refine Tr.nil (Aa (Sat.ret (Ak ?_)))
    refine ⟨_, [], Ae rfl rfl, sP, sP, ?_, rfl⟩
    refine congrArg Value.bool ?_
    simp only [DKept.light, ← l3]
    first
     | (simp [*]; done)
     | (simp_all; done)
  ·
   first | have hs1_8 := of_decide_eq_true hs1_80 | have hs1_8 := of_decide_eq_false hs1_80 | have hs1_8 := Bg hs1_80 | have hs1_8 := Bh hs1_80 | have hs1_8 := hs1_80
   refine Tr.pick rfl rfl rfl rfl rfl rfl ?_
   refine Tr.m rfl rfl rfl ?_
   refine Tr.skp rfl rfl ?_
   refine Tr.skp rfl rfl ?_
   refine Tr.skp rfl rfl ?_
   refine Tr.skp rfl rfl ?_
   refine Tr.skp rfl rfl ?_
   refine Tr.pick rfl rfl rfl rfl rfl rfl ?_
   refine Tr.m rfl rfl rfl ?_
   refine Tr.skp rfl rfl ?_
   refine Tr.skp rfl rfl ?_
   refine Tr.skp rfl rfl ?_
   refine Tr.skp rfl rfl ?_
   refine Tr.pick rfl rfl rfl rfl rfl rfl ?_
   refine Tr.a rfl rfl rfl ?_
   refine Tr.nil (Aa (Sat.ret (Ak ?_)))
   refine ⟨_, [], Ae rfl rfl, sP, sP, ?_, rfl⟩
   refine congrArg Value.bool ?_
   simp only [DKept.light, ← l3]
   first
    | (simp [*]; done)
    | (simp_all; done)
 ·
  first | have hs1_3 := of_decide_eq_true hs1_30 | have hs1_3 := of_decide_eq_false hs1_30 | have hs1_3 := Bg hs1_30 | have hs1_3 := Bh hs1_30 | have hs1_3 := hs1_30
  refine Tr.m rfl rfl rfl ?_
  refine Tr.skp rfl rfl ?_
  refine Tr.skp rfl rfl ?_
  refine Tr.skp rfl rfl ?_
  refine Tr.skp rfl rfl ?_
  refine Tr.pick rfl rfl rfl rfl rfl rfl ?_
  refine Tr.m rfl rfl rfl ?_
  refine Tr.skp rfl rfl ?_
  refine Tr.skp rfl rfl ?_
  refine Tr.skp rfl rfl ?_
  refine Tr.skp rfl rfl ?_
  refine Tr.skp rfl rfl ?_
  refine Tr.pick rfl rfl rfl rfl rfl rfl ?_
  refine Tr.m rfl rfl rfl ?_
  refine Tr.skp rfl rfl ?_
  refine Tr.skp rfl rfl ?_
  refine Tr.skp rfl rfl ?_
  refine Tr.skp rfl rfl ?_
  refine Tr.pick rfl rfl rfl rfl rfl rfl ?_
  refine Tr.a rfl rfl rfl ?_
  refine Tr.nil (Aa (Sat.ret (Ak ?_)))
  refine ⟨_, [], Ae rfl rfl, sP, sP, ?_, rfl⟩
  refine congrArg Value.bool ?_
  simp only [DKept.light, ← l3]
  first
   | (simp [*]; done)
   | (simp_all; done)

theorem kit_own_kept (X : Kept) (D : DKept) (hl : D.light 12 = true) : Meets Tryz.prog 17 [agg X.cells] [] (fun W => KeptIs W X D) (OwnedKept D) := by
 intro W hW
 obtain ⟨vs, hvs⟩ := hW.fVotes
 have hok := hW.ok
 obtain ⟨l1, l2, l3, l4⟩ := kept_lens hW
 have hsm := lightk_small hl
 have f1 := hsm.nB
 have f2 := hsm.nE
 have f3 := hsm.nV
 have f4 := hsm.nC
 clear hl
 refine Ai Tryz.func17 rfl 17 Tryz.ntmps17 rfl ?_
 refine Sat.seq (Sat.region ?_)
 refine Tr.boxA rfl rfl ?_
 intro n1 hn1 hf1
 refine Tr.alloc (cs := Kept.zero.cells) rfl Kept.zr rfl ?_
 intro n2 hn2 hf2
 refine Tr.nil (Aa (Sat.seq ?_))
 refine Sat.withK (sp_v (sp_k sp_n)) rfl ?_
 refine Sat.draw [(0, 0), (0, 1), (0, 3), (0, 4), (0, 7), (0, 8), (0, 10), (0, 11), (3, 2), (3, 5), (2, 6), (4, 9), (4, 12), (0, 13), (4, 14)] Bz zK ?_
 refine Tr.fld rfl rfl rfl U45 rfl Sz40 dE _ rfl ?_
 refine Tr.kload1 rfl rfl rfl U40 rfl mM (by first | exact Kept.get_fBlocks (by first | exact oK  | exact hW.ok | exact ⟨trivial⟩) | exact vL) ?_
 refine Tr.fld rfl rfl rfl U45 rfl Sz41 dE _ rfl ?_
 refine Tr.kload1 rfl rfl rfl U41 rfl mM (by first | exact Kept.get_fCerts (by first | exact oK  | exact hW.ok | exact ⟨trivial⟩) | exact vL) ?_
 refine Tr.fld rfl rfl rfl U45 rfl Sz42 dE _ rfl ?_
 refine Tr.kload1 rfl rfl rfl U42 rfl mM (by first | exact Kept.get_fVotes (by first | exact oK  | exact hW.ok | exact ⟨trivial⟩) | exact vL) ?_
 refine Tr.fld rfl rfl rfl U45 rfl Sz43 dE _ rfl ?_
 refine Tr.kload1 rfl rfl rfl U43 rfl mM (by first | exact Kept.get_fCuts (by first | exact oK  | exact hW.ok | exact ⟨trivial⟩) | exact vL) ?_
 refine Tr.call rfl rfl rfl rfl Body66 (kit_own_blocks X.fBlocks D.dBlocks oM hsm.blocks) (ownseq_loose Block.zero rfl l1) (fun w h => Bk h rfl hW.fBlocks) ?_
 rintro v5 out5 ⟨sB, bB, bB2, rB, rfl, rfl, hoB⟩
 simp only [List.append_assoc, List.cons_append, List.nil_append]
 refine Tr.call rfl rfl rfl rfl Body67 (kit_own_certs X.fCerts D.dCerts oM hsm.certs) (ownseq_loose Cert.zero rfl l2) (fun w h => Bt h rfl hW.fCerts) ?_
 rintro v8 out8 ⟨sE, bE, bE2, rE, rfl, rfl, hoE⟩
 simp only [List.append_assoc, List.cons_append, List.nil_append]
 refine Tr.mkRow2 (z := agg Vote.zero.cells) [] [] rfl rfl U42 Bw Vote.zr rfl rfl (by intro v hv; cases hv) dE rfl ?_
 intro q9
 refine Tr.appendSl (z := agg Vote.zero.cells) (by' := 160) ((vs.map Vote.cells).flatten) rfl rfl rfl rfl rfl U42 U42 Bw Zr29 (by unfold By; kernel_rfl) rfl (fun w h => Ax h rfl hvs.see) (fun e => by have := hvs.nil e; have := hvs.cap; omega) (votes_cell (seq_votes hvs)) rM rfl rfl oM oM oM hvs.flat ?_
 intro q12 c12 hq12
 rw [Nat.zero_add X.fVotes.n]
 refine Tr.call4 rfl rfl rfl rfl rfl Body68 (kit_own_cuts X.fCuts D.dCuts oM hsm.cuts) (fun w h => Cuts_ext h rfl hW.fCuts) ?_
 rintro v15 out15 ⟨sC, bC, bC2, rC, rfl, rfl, hoC⟩
 simp only [List.append_assoc, List.cons_append, List.nil_append]
 refine Tr.build (cs := (⟨sB, sE, ⟨some ⟨q12, 0, none⟩, X.fVotes.n, c12⟩, sC⟩ : Kept).cells) rfl rfl rfl (fun w => by kernel_rfl) ?_
 refine Tr.sA rfl rfl rfl rfl (Kept.isCell (by first | exact oK  | exact hW.ok | exact ⟨trivial⟩)) Sz45 (Kept.length (by first | exact oK  | exact hW.ok | exact ⟨trivial⟩)) mM (Kept.length (by first | exact oK  | exact hW.ok | exact ⟨trivial⟩)) uU ?_
 refine Tr.nil (Aa (Sat.ret (Ak ?_)))
 simp only [List.cons_append, List.nil_append, List.append_nil, List.append_assoc]
 refine Aj (out := (bB ++ (bB2 ++ (bE ++ (bE2 ++ (⟨q12, (vs.map Vote.cells).flatten, 29, c12 * 132⟩ :: (bC ++ (bC2 ++ [])))))))) (res_cell rfl rfl U45 rfl Sz45 mM (by first | (simp; done) | exact Kept.length (by first | exact oK  | exact hW.ok | exact ⟨trivial⟩))) (Ac sG (Ac sG (Ac sG (Ac sG (Ad rM (Ac sG (Ac sG Af))))))) ?_
 refine ⟨(⟨sB, sE, ⟨some ⟨q12, 0, none⟩, X.fVotes.n, c12⟩, sC⟩ : Kept), ⟨trivial⟩, rfl, fun W2 hl => ⟨⟨trivial⟩, ⟨_, hoB.seq (hl.sub iN) (hl.sub iN) oM⟩, ⟨_, hoE.seq (hl.sub iN) (hl.sub iN) oM⟩, ⟨vs, ?_⟩, ⟨_, hoC.seq (hl.sub iN) (hl.sub iN) oM⟩⟩⟩
 exact acc_seq (Acc.some (E := 29) (show X.fVotes.n ≤ c12 by omega) hvs.flat) (hl.sub (by intro b hb; rw [List.mem_singleton.1 hb]; repeat (first | exact List.mem_cons_self | refine List.mem_cons_of_mem _ ?_ | refine mem_seg ?_))) hvs.nr hvs.nd hvs.len oM fun i r d hr hd => (by
  have := hvs.is i r d hr hd
  exact ⟨this.ok, this.eq, this.wf⟩)

end Go.Proofs.YtkfhpmidcbmofaaGreat
end

section
namespace Go.Proofs.YtkfhpmidcbmofaaGreat
open Go Hw

def AccR (xs : List Value) (E : TypeId) (n size : Nat) (v : Value) (out : List Blk) : Prop := ∃ s : Sl, v = s.v ∧ Hw.Acc s out xs E n size
theorem AccR.loose {xs : List Value} {E : TypeId} {n size : Nat} (h : xs.length = n * size) : Loose (AccR xs E n size) := fun l hl => by
  obtain ⟨q, _, hq⟩ := fresh_is 0 l
  refine ⟨_, [⟨q, xs, E, n * size⟩], ⟨⟨some ⟨q, 0, none⟩, n, n⟩, rfl, Acc.some (Nat.le_refl _) h⟩, ?_⟩
  rw [List.map_append, List.nodup_append]
  refine ⟨by simp, hl, fun i hi j hj => ?_⟩
  obtain ⟨b, hb, rfl⟩ := List.mem_map.1 hj
  simp at hi
  subst hi
  exact fun e => hq b hb e.symm

theorem clone_by_some (a : Addr) (n c : Nat) (xs : List Value) (hc : ∀ u ∈ xs, isCell u = true) (hl : xs.length = n * 1) (hn : n ≤ 90000) : Meets Tryz.prog 95 [.slice (some a) n c] [] (fun W => SeesP W (some a) xs) (AccR xs 5 n 1) := by
 intro W hW
 refine Ai Tryz.func95 rfl 8 Tryz.ntmps95 rfl ?_
 refine Sat.seq (Sat.region ?_)
 refine Tr.a rfl rfl rfl ?_
 refine Tr.nil (Aa (Sat.seq (Sat.seq (Sat.region ?_))))
 refine Tr.m rfl rfl rfl ?_
 refine Tr.eqNilS (r := false) rfl rfl rfl rfl U30 rfl ?_
 refine Tr.nil (Aa ?_)
 refine Sat.cond_f rfl (rfl) ?_
 refine Sat.skip (Aa (Sat.seq (Sat.region ?_)))
 refine Tr.mkRow (z := u8 0) [] [] rfl rfl rfl U30 Sz5 Zr5 rfl rfl (by intro v hv; cases hv) dE rfl ?_
 intro q0
 refine Tr.m rfl rfl rfl ?_
 refine Tr.appendSl (z := u8 0) (by' := 1) (xs) rfl rfl rfl rfl rfl U30 U30 Sz5 Zr5 (by unfold By; kernel_rfl) rfl (fun w h => Ax h rfl hW) (fun e => by cases e) hc Aw rfl rfl oM oM oM hl ?_
 intro q1 c1 hq1
 rw [Nat.zero_add n, List.nil_append]
 refine Tr.a rfl rfl rfl ?_
 refine Tr.nil (Aa (Sat.ret (Ak ?_)))
 refine ⟨_, [⟨q1, xs, 5, c1 * 1⟩], Ae rfl rfl, (by intro b hb; rw [List.mem_singleton.1 hb]; exact mem0), nodup1, ⟨⟨some ⟨q1, 0, none⟩, n, c1⟩, rfl, Acc.some oM hl⟩⟩

theorem clone_by_nil (n c : Nat) : Meets Tryz.prog 95 [.slice none n c] [] (fun _ => True) (fun v out => v = .slice none 0 0 ∧ out = []) := by
 intro W hW
 refine Ai Tryz.func95 rfl 8 Tryz.ntmps95 rfl ?_
 refine Sat.seq (Sat.region ?_)
 refine Tr.a rfl rfl rfl ?_
 refine Tr.nil (Aa (Sat.seq (Sat.seq (Sat.region ?_))))
 refine Tr.m rfl rfl rfl ?_
 refine Tr.eqNilS (r := true) rfl rfl rfl rfl U30 rfl ?_
 refine Tr.nil (Aa ?_)
 refine Sat.cond_t rfl (rfl) ?_
 refine Sat.seq (Sat.region ?_)
 refine Tr.a rfl rfl rfl ?_
 refine Tr.nil (Aa (Sat.ret (Ao (Ak ?_))))
 refine ⟨_, [], Ae rfl rfl, sP, sP, ?_, rfl⟩
 rfl

theorem clone_by (s : Sl) (xs : List Value) (hc : ∀ u ∈ xs, isCell u = true) (hl : xs.length = s.n * 1) (hp : s.p = none → s.n = 0) (hn : s.n ≤ 90000) : Meets Tryz.prog 95 [s.v] [] (fun W => SeesP W s.p xs) (AccR xs 5 s.n 1) := by
  obtain ⟨p, n, c⟩ := s
  cases p with
  | none =>
    have h0 : n = 0 := hp rfl
    subst h0
    have hx : xs = [] := List.eq_nil_of_length_eq_zero (by simpa using hl)
    subst hx
    exact (clone_by_nil 0 c).imp (fun w h => trivial) (fun v out h => by obtain ⟨rfl, rfl⟩ := h; exact ⟨Sl.nil, rfl, Acc.none⟩)
  | some a => exact clone_by_some a n c xs hc hl hn

theorem clone_dg_some (a : Addr) (n c : Nat) (xs : List Value) (hc : ∀ u ∈ xs, isCell u = true) (hl : xs.length = n * 32) (hn : n ≤ 90000) : Meets Tryz.prog 94 [.slice (some a) n c] [] (fun W => SeesP W (some a) xs) (AccR xs 24 n 32) := by
 intro W hW
 refine Ai Tryz.func94 rfl 8 Tryz.ntmps94 rfl ?_
 refine Sat.seq (Sat.region ?_)
 refine Tr.a rfl rfl rfl ?_
 refine Tr.nil (Aa (Sat.seq (Sat.seq (Sat.region ?_))))
 refine Tr.m rfl rfl rfl ?_
 refine Tr.eqNilS (r := false) rfl rfl rfl rfl U37 rfl ?_
 refine Tr.nil (Aa ?_)
 refine Sat.cond_f rfl (rfl) ?_
 refine Sat.skip (Aa (Sat.seq (Sat.region ?_)))
 refine Tr.mkRow (z := agg (Ab (List.replicate 32 0))) [] [] rfl rfl rfl U37 Bc Zr24 rfl rfl (by intro v hv; cases hv) dE rfl ?_
 intro q0
 refine Tr.m rfl rfl rfl ?_
 refine Tr.appendSl (z := agg (Ab (List.replicate 32 0))) (by' := 32) (xs) rfl rfl rfl rfl rfl U37 U37 Bc Zr24 (by unfold By; kernel_rfl) rfl (fun w h => Ax h rfl hW) (fun e => by cases e) hc Aw rfl rfl oM oM oM hl ?_
 intro q1 c1 hq1
 rw [Nat.zero_add n, List.nil_append]
 refine Tr.a rfl rfl rfl ?_
 refine Tr.nil (Aa (Sat.ret (Ak ?_)))
 refine ⟨_, [⟨q1, xs, 24, c1 * 32⟩], Ae rfl rfl, (by intro b hb; rw [List.mem_singleton.1 hb]; exact mem0), nodup1, ⟨⟨some ⟨q1, 0, none⟩, n, c1⟩, rfl, Acc.some oM hl⟩⟩

theorem clone_dg_nil (n c : Nat) : Meets Tryz.prog 94 [.slice none n c] [] (fun _ => True) (fun v out => v = .slice none 0 0 ∧ out = []) := by
 intro W hW
 refine Ai Tryz.func94 rfl 8 Tryz.ntmps94 rfl ?_
 refine Sat.seq (Sat.region ?_)
 refine Tr.a rfl rfl rfl ?_
 refine Tr.nil (Aa (Sat.seq (Sat.seq (Sat.region ?_))))
 refine Tr.m rfl rfl rfl ?_
 refine Tr.eqNilS (r := true) rfl rfl rfl rfl U37 rfl ?_
 refine Tr.nil (Aa ?_)
 refine Sat.cond_t rfl (rfl) ?_
 refine Sat.seq (Sat.region ?_)
 refine Tr.a rfl rfl rfl ?_
 refine Tr.nil (Aa (Sat.ret (Ao (Ak ?_))))
 refine ⟨_, [], Ae rfl rfl, sP, sP, ?_, rfl⟩
 rfl

theorem clone_dg (s : Sl) (xs : List Value) (hc : ∀ u ∈ xs, isCell u = true) (hl : xs.length = s.n * 32) (hp : s.p = none → s.n = 0) (hn : s.n ≤ 90000) : Meets Tryz.prog 94 [s.v] [] (fun W => SeesP W s.p xs) (AccR xs 24 s.n 32) := by
  obtain ⟨p, n, c⟩ := s
  cases p with
  | none =>
    have h0 : n = 0 := hp rfl
    subst h0
    have hx : xs = [] := List.eq_nil_of_length_eq_zero (by simpa using hl)
    subst hx
    exact (clone_dg_nil 0 c).imp (fun w h => trivial) (fun v out h => by obtain ⟨rfl, rfl⟩ := h; exact ⟨Sl.nil, rfl, Acc.none⟩)
  | some a => exact clone_dg_some a n c xs hc hl hn

theorem clone_vt_some (a : Addr) (n c : Nat) (xs : List Value) (hc : ∀ u ∈ xs, isCell u = true) (hl : xs.length = n * 132) (hn : n ≤ 90000) : Meets Tryz.prog 42 [.slice (some a) n c] [] (fun W => SeesP W (some a) xs) (AccR xs 29 n 132) := by
 intro W hW
 refine Ai Tryz.func42 rfl 8 Tryz.ntmps42 rfl ?_
 refine Sat.seq (Sat.region ?_)
 refine Tr.a rfl rfl rfl ?_
 refine Tr.nil (Aa (Sat.seq (Sat.seq (Sat.region ?_))))
 refine Tr.m rfl rfl rfl ?_
 refine Tr.eqNilS (r := false) rfl rfl rfl rfl U42 rfl ?_
 refine Tr.nil (Aa ?_)
 refine Sat.cond_f rfl (rfl) ?_
 refine Sat.skip (Aa (Sat.seq (Sat.region ?_)))
 refine Tr.mkRow (z := agg Vote.zero.cells) [] [] rfl rfl rfl U42 Bw Vote.zr rfl rfl (by intro v hv; cases hv) dE rfl ?_
 intro q0
 refine Tr.m rfl rfl rfl ?_
 refine Tr.appendSl (z := agg Vote.zero.cells) (by' := 160) (xs) rfl rfl rfl rfl rfl U42 U42 Bw Zr29 (by unfold By; kernel_rfl) rfl (fun w h => Ax h rfl hW) (fun e => by cases e) hc Aw rfl rfl oM oM oM hl ?_
 intro q1 c1 hq1
 rw [Nat.zero_add n, List.nil_append]
 refine Tr.a rfl rfl rfl ?_
 refine Tr.nil (Aa (Sat.ret (Ak ?_)))
 refine ⟨_, [⟨q1, xs, 29, c1 * 132⟩], Ae rfl rfl, (by intro b hb; rw [List.mem_singleton.1 hb]; exact mem0), nodup1, ⟨⟨some ⟨q1, 0, none⟩, n, c1⟩, rfl, Acc.some oM hl⟩⟩

theorem clone_vt_nil (n c : Nat) : Meets Tryz.prog 42 [.slice none n c] [] (fun _ => True) (fun v out => v = .slice none 0 0 ∧ out = []) := by
 intro W hW
 refine Ai Tryz.func42 rfl 8 Tryz.ntmps42 rfl ?_
 refine Sat.seq (Sat.region ?_)
 refine Tr.a rfl rfl rfl ?_
 refine Tr.nil (Aa (Sat.seq (Sat.seq (Sat.region ?_))))
 refine Tr.m rfl rfl rfl ?_
 refine Tr.eqNilS (r := true) rfl rfl rfl rfl U42 rfl ?_
 refine Tr.nil (Aa ?_)
 refine Sat.cond_t rfl (rfl) ?_
 refine Sat.seq (Sat.region ?_)
 refine Tr.a rfl rfl rfl ?_
 refine Tr.nil (Aa (Sat.ret (Ao (Ak ?_))))
 refine ⟨_, [], Ae rfl rfl, sP, sP, ?_, rfl⟩
 rfl

theorem clone_vt (s : Sl) (xs : List Value) (hc : ∀ u ∈ xs, isCell u = true) (hl : xs.length = s.n * 132) (hp : s.p = none → s.n = 0) (hn : s.n ≤ 90000) : Meets Tryz.prog 42 [s.v] [] (fun W => SeesP W s.p xs) (AccR xs 29 s.n 132) := by
  obtain ⟨p, n, c⟩ := s
  cases p with
  | none =>
    have h0 : n = 0 := hp rfl
    subst h0
    have hx : xs = [] := List.eq_nil_of_length_eq_zero (by simpa using hl)
    subst hx
    exact (clone_vt_nil 0 c).imp (fun w h => trivial) (fun v out h => by obtain ⟨rfl, rfl⟩ := h; exact ⟨Sl.nil, rfl, Acc.none⟩)
  | some a => exact clone_vt_some a n c xs hc hl hn

def CutOwn (D : DCut) (v : Value) (out : List Blk) : Prop := ∃ C : Cut, C.ok ∧ v = agg C.cells ∧ ∀ W2, Lies out W2 → CutIs W2 C D
def BlockOwn (D : DB) (v : Value) (out : List Blk) : Prop := ∃ B : Block, B.ok ∧ v = agg B.cells ∧ ∀ W2, Lies out W2 → BlockIs W2 B D

theorem keep_copycut (C : Cut) (D : DCut) (hn : C.fHeads.n ≤ 90000) : Meets Tryz.prog 41 [agg C.cells] [] (fun W => CutIs W C D) (CutOwn D) := by
 intro W hW
 refine Ai Tryz.func41 rfl 8 Tryz.ntmps41 rfl ?_
 refine Sat.seq (Sat.region ?_)
 refine Tr.boxA rfl rfl ?_
 intro n1 hn1 hf1
 refine Tr.alloc (cs := Cut.zero.cells) rfl Cut.zr rfl ?_
 intro n2 hn2 hf2
 refine Tr.nil (Aa (Sat.seq (Sat.region ?_)))
 refine Tr.fld rfl rfl rfl U39 rfl Sz37 dE _ rfl ?_
 refine Tr.load1 rfl rfl rfl U37 rfl mM (by first | exact Cut.get_fHeads (by first | (simp [hW.ok.l_fPrev]; done) | exact oK  | exact hW.ok | exact ⟨hW.ok.l_fPrev⟩) | exact (by first | rfl | exact Au (by first | omega | (simp [hW.ok.l_fPrev]; done) | (simp [hW.ok.l_fPrev]; omega)) | exact A2 (by first | omega | (simp [hW.ok.l_fPrev]; done) | (simp [hW.ok.l_fPrev]; omega)) | exact Bi (by first | omega | (simp [hW.ok.l_fPrev]; done) | (simp [hW.ok.l_fPrev]; omega)))) ?_
 refine Tr.call4 rfl rfl rfl rfl rfl Body94 (clone_dg C.fHeads (Cc D.dHeads) (flatB_cell _) (by rw [B7 hW.fHeads.row, hW.fHeads.len]) (fun e => by have := hW.fHeads.nil e; have := hW.fHeads.cap; omega) hn) (fun w h => Ax h rfl hW.fHeads.see) ?_
 rintro v5 out5 ⟨⟨p5, n5, c5⟩, rfl, hac5⟩
 refine Tr.fld rfl rfl rfl U39 rfl Sz37 dE _ rfl ?_
 refine Tr.s1 rfl rfl rfl rfl rfl Sz37 mM (by rw [Cut.length (by first | (simp [hW.ok.l_fPrev]; done) | exact oK  | exact hW.ok | exact ⟨hW.ok.l_fPrev⟩)]; decide) (by first | exact Cut.set_fHeads (by first | (simp [hW.ok.l_fPrev]; done) | exact oK  | exact hW.ok | exact ⟨hW.ok.l_fPrev⟩) _ | exact Cut.setS_fHeads (by first | (simp [hW.ok.l_fPrev]; done) | exact oK  | exact hW.ok | exact ⟨hW.ok.l_fPrev⟩) _ _ _) uU ?_
 refine Tr.nil (Aa (Sat.seq (Sat.region ?_)))
 refine Tr.lA rfl rfl rfl U39 rfl B0 mM (Cut.length (by first | (simp [hW.ok.l_fPrev]; done) | exact oK  | exact hW.ok | exact ⟨hW.ok.l_fPrev⟩)) ?_
 refine Tr.sA rfl rfl rfl rfl (Cut.isCell (by first | (simp [hW.ok.l_fPrev]; done) | exact oK  | exact hW.ok | exact ⟨hW.ok.l_fPrev⟩)) B0 (Cut.length (by first | (simp [hW.ok.l_fPrev]; done) | exact oK  | exact hW.ok | exact ⟨hW.ok.l_fPrev⟩)) mM (Cut.length (by first | (simp [hW.ok.l_fPrev]; done) | exact oK  | exact hW.ok | exact ⟨hW.ok.l_fPrev⟩)) uU ?_
 refine Tr.nil (Aa (Sat.ret (Ak ?_)))
 refine Aj (out := (out5 ++ [])) (res_cell rfl rfl U39 rfl B0 mM (by first | (simp [hW.ok.l_fPrev]; done) | exact Cut.length (by first | (simp [hW.ok.l_fPrev]; done) | exact oK  | exact hW.ok | exact ⟨hW.ok.l_fPrev⟩))) (Ac sG Af) ?_
 exact ⟨{ C with fHeads := ⟨p5, n5, c5⟩ }, ⟨hW.ok.l_fPrev⟩, rfl, fun W2 hl => ⟨⟨hW.ok.l_fPrev⟩, hW.fHeight, hW.fPrev, acc_rows hac5 (hl.sub iN) hW.fHeads.row hW.fHeads.len oM⟩⟩

theorem keep_copyblock (B : Block) (D : DB) (hn : B.fLinks.n ≤ 90000) (hd : B.fData.n ≤ 90000) : Meets Tryz.prog 40 [agg B.cells] [] (fun W => BlockIs W B D) (BlockOwn D) := by
 intro W hW
 refine Ai Tryz.func40 rfl 12 Tryz.ntmps40 rfl ?_
 refine Sat.seq (Sat.region ?_)
 refine Tr.boxA rfl rfl ?_
 intro n1 hn1 hf1
 refine Tr.alloc (cs := Block.zero.cells) rfl Block.zr rfl ?_
 intro n2 hn2 hf2
 refine Tr.nil (Aa (Sat.seq ?_))
 refine Sat.draw [(0, 0), (1, 1), (0, 3), (1, 4), (3, 2), (0, 6), (3, 5), (4, 7), (0, 8), (4, 9)] Bz zK ?_
 refine Tr.fld rfl rfl rfl U52 rfl Sz37 dE _ rfl ?_
 refine Tr.load1 rfl rfl rfl U37 rfl mM (by first | exact Block.get_fLinks (by first | (simp [hW.ok.l_fWriter, hW.ok.l_fPrev, hW.ok.l_fSig]; done) | exact oK  | exact hW.ok | exact ⟨hW.ok.l_fWriter, hW.ok.l_fPrev, hW.ok.l_fSig⟩) | exact (by first | rfl | exact Au (by first | omega | (simp [hW.ok.l_fWriter, hW.ok.l_fPrev, hW.ok.l_fSig]; done) | (simp [hW.ok.l_fWriter, hW.ok.l_fPrev, hW.ok.l_fSig]; omega)) | exact A2 (by first | omega | (simp [hW.ok.l_fWriter, hW.ok.l_fPrev, hW.ok.l_fSig]; done) | (simp [hW.ok.l_fWriter, hW.ok.l_fPrev, hW.ok.l_fSig]; omega)) | exact Bi (by first | omega | (simp [hW.ok.l_fWriter, hW.ok.l_fPrev, hW.ok.l_fSig]; done) | (simp [hW.ok.l_fWriter, hW.ok.l_fPrev, hW.ok.l_fSig]; omega)))) ?_
 refine Tr.fld rfl rfl rfl U52 rfl Sz30 dE _ rfl ?_
 refine Tr.load1 rfl rfl rfl U30 rfl mM (by first | exact Block.get_fData (by first | (simp [hW.ok.l_fWriter, hW.ok.l_fPrev, hW.ok.l_fSig]; done) | exact oK  | exact hW.ok | exact ⟨hW.ok.l_fWriter, hW.ok.l_fPrev, hW.ok.l_fSig⟩) | exact (by first | rfl | exact Au (by first | omega | (simp [hW.ok.l_fWriter, hW.ok.l_fPrev, hW.ok.l_fSig]; done) | (simp [hW.ok.l_fWriter, hW.ok.l_fPrev, hW.ok.l_fSig]; omega)) | exact A2 (by first | omega | (simp [hW.ok.l_fWriter, hW.ok.l_fPrev, hW.ok.l_fSig]; done) | (simp [hW.ok.l_fWriter, hW.ok.l_fPrev, hW.ok.l_fSig]; omega)) | exact Bi (by first | omega | (simp [hW.ok.l_fWriter, hW.ok.l_fPrev, hW.ok.l_fSig]; done) | (simp [hW.ok.l_fWriter, hW.ok.l_fPrev, hW.ok.l_fSig]; omega)))) ?_
 refine Tr.call rfl rfl rfl rfl Body94 (clone_dg B.fLinks (Cc D.ls) (flatB_cell _) (by rw [B7 hW.ls.row, hW.ls.len]) (fun e => by have := hW.ls.nil e; have := hW.ls.cap; omega) hn) (AccR.loose (by rw [B7 hW.ls.row, hW.ls.len])) (fun w h => Ax h rfl hW.ls.see) ?_
 rintro v5 out5 ⟨⟨p5, n5, c5⟩, rfl, hac5⟩
 refine Tr.fld rfl rfl rfl U52 rfl Sz37 dE _ rfl ?_
 refine Tr.call rfl rfl rfl rfl Body95 (clone_by B.fData (Ab D.ds) (by simp [Ab, isCell, u8]) (by rw [Ab, List.length_map, hW.ds.len, Nat.mul_one]) (fun e => by have := hW.ds.nil e; have := hW.ds.cap; omega) hd) (AccR.loose (by rw [Ab, List.length_map, hW.ds.len, Nat.mul_one])) (fun w h => Ax h rfl hW.ds.see) ?_
 rintro v8 out8 ⟨⟨p8, n8, c8⟩, rfl, hac8⟩
 refine Tr.s1 rfl rfl rfl rfl rfl Sz37 mM (by rw [Block.length (by first | (simp [hW.ok.l_fWriter, hW.ok.l_fPrev, hW.ok.l_fSig]; done) | exact oK  | exact hW.ok | exact ⟨hW.ok.l_fWriter, hW.ok.l_fPrev, hW.ok.l_fSig⟩)]; decide) (by first | exact Block.set_fLinks (by first | (simp [hW.ok.l_fWriter, hW.ok.l_fPrev, hW.ok.l_fSig]; done) | exact oK  | exact hW.ok | exact ⟨hW.ok.l_fWriter, hW.ok.l_fPrev, hW.ok.l_fSig⟩) _ | exact Block.setS_fLinks (by first | (simp [hW.ok.l_fWriter, hW.ok.l_fPrev, hW.ok.l_fSig]; done) | exact oK  | exact hW.ok | exact ⟨hW.ok.l_fWriter, hW.ok.l_fPrev, hW.ok.l_fSig⟩) _ _ _) uU ?_
 refine Tr.fld rfl rfl rfl U52 rfl Sz30 dE _ rfl ?_
 refine Tr.s1 rfl rfl rfl rfl rfl Sz30 mM (by rw [Block.length (by first | (simp [hW.ok.l_fWriter, hW.ok.l_fPrev, hW.ok.l_fSig]; done) | exact oK  | exact hW.ok | exact ⟨hW.ok.l_fWriter, hW.ok.l_fPrev, hW.ok.l_fSig⟩)]; decide) (by first | exact Block.set_fData (by first | (simp [hW.ok.l_fWriter, hW.ok.l_fPrev, hW.ok.l_fSig]; done) | exact oK  | exact hW.ok | exact ⟨hW.ok.l_fWriter, hW.ok.l_fPrev, hW.ok.l_fSig⟩) _ | exact Block.setS_fData (by first | (simp [hW.ok.l_fWriter, hW.ok.l_fPrev, hW.ok.l_fSig]; done) | exact oK  | exact hW.ok | exact ⟨hW.ok.l_fWriter, hW.ok.l_fPrev, hW.ok.l_fSig⟩) _ _ _) uU ?_
 refine Tr.nil (Aa (Sat.seq (Sat.region ?_)))
 refine Tr.lA rfl rfl rfl U52 rfl Sz52 mM (Block.length (by first | (simp [hW.ok.l_fWriter, hW.ok.l_fPrev, hW.ok.l_fSig]; done) | exact oK  | exact hW.ok | exact ⟨hW.ok.l_fWriter, hW.ok.l_fPrev, hW.ok.l_fSig⟩)) ?_
 refine Tr.sA rfl rfl rfl rfl (Block.isCell (by first | (simp [hW.ok.l_fWriter, hW.ok.l_fPrev, hW.ok.l_fSig]; done) | exact oK  | exact hW.ok | exact ⟨hW.ok.l_fWriter, hW.ok.l_fPrev, hW.ok.l_fSig⟩)) Sz52 (Block.length (by first | (simp [hW.ok.l_fWriter, hW.ok.l_fPrev, hW.ok.l_fSig]; done) | exact oK  | exact hW.ok | exact ⟨hW.ok.l_fWriter, hW.ok.l_fPrev, hW.ok.l_fSig⟩)) mM (Block.length (by first | (simp [hW.ok.l_fWriter, hW.ok.l_fPrev, hW.ok.l_fSig]; done) | exact oK  | exact hW.ok | exact ⟨hW.ok.l_fWriter, hW.ok.l_fPrev, hW.ok.l_fSig⟩)) uU ?_
 refine Tr.nil (Aa (Sat.ret (Ak ?_)))
 refine Aj (out := (out8 ++ (out5 ++ []))) (res_cell rfl rfl U52 rfl Sz52 mM (by first | (simp [hW.ok.l_fWriter, hW.ok.l_fPrev, hW.ok.l_fSig]; done) | exact Block.length (by first | (simp [hW.ok.l_fWriter, hW.ok.l_fPrev, hW.ok.l_fSig]; done) | exact oK  | exact hW.ok | exact ⟨hW.ok.l_fWriter, hW.ok.l_fPrev, hW.ok.l_fSig⟩))) (Ac sG (Ac sG Af)) ?_
 exact ⟨{ B with fLinks := ⟨p5, n5, c5⟩, fData := ⟨p8, n8, c8⟩ }, ⟨hW.ok.l_fWriter, hW.ok.l_fPrev, hW.ok.l_fSig⟩, rfl, fun W2 hl => ⟨⟨hW.ok.l_fWriter, hW.ok.l_fPrev, hW.ok.l_fSig⟩, hW.w, hW.seq, hW.prev, acc_rows hac5 (hl.sub iN) hW.ls.row hW.ls.len oM, acc_bytes hac8 (hl.sub iN) hW.ds.len oM, hW.sg⟩⟩

end Go.Proofs.YtkfhpmidcbmofaaGreat
end

section
namespace Go.Proofs.YtkfhpmidcbmofaaGreat
open Go Hw

theorem cons_of {α : Type} {l : List α} {n : Nat} (h : l.length = n + 1) : ∃ a t, l = a :: t ∧ t.length = n := by
  cases l with
  | nil => cases h
  | cons a t => exact ⟨a, t, rfl, by simpa using h⟩
theorem build_cert {C : Cut} (hC : C.ok) (s : Sl) (w : World) : (Instr.build 80 #[(0, agg C.cells), (1, s.v)]).run Tryz.prog w = .ok (agg (⟨C, s⟩ : Cert).cells) w := by
  obtain ⟨ht, l, hd⟩ := C
  have h : l.length = 32 := hC.l_fPrev
  clear hC
  iterate 32 (obtain ⟨a, l, e, h2⟩ := cons_of h; clear h; subst e; have h := h2; clear h2)
  obtain rfl := List.eq_nil_of_length_eq_zero h
  first
    | (refine Eq.trans ?_ rfl; kernel_rfl)
    | rfl
def gtV (h : Nat) (V : Vote) : Bool := decide ((h : Int) < (V.fHeight.toNat : Int))
def gtC (h : Nat) (C : DCut) : Bool := decide ((h : Int) < (C.dHeight.toNat : Int))
noncomputable def A1 (D : DKept) : DKept × Int := if D.check = 0 then (⟨D.dBlocks, D.dCerts, D.dVotes.filter (gtV D.dCerts.length), D.dCuts.filter (gtC D.dCerts.length)⟩, 0) else (dkz, D.check)
def NeedR (D : DKept) (v : Value) (out : List Blk) : Prop := ∃ Y : Kept, Y.ok ∧ v = .tuple #[agg Y.cells, i64 (A1 D).2] ∧ ∀ W2, Lies out W2 → KeptIs W2 Y (A1 D).1
structure MidK (D : DKept) : Prop where
  blocks : ∀ d ∈ D.dBlocks, d.ls.length ≤ 90000 ∧ d.ds.length ≤ 90000
  certs : ∀ d ∈ D.dCerts, d.dCut.dHeads.length ≤ 90000 ∧ d.dVotes.length ≤ 90000
  cuts : ∀ d ∈ D.dCuts, d.dHeads.length ≤ 90000
theorem BlockOwn.loose (D : DB) : Loose (BlockOwn D) := fun l hl => by
  obtain ⟨n, _, hn⟩ := fresh_is 0 l
  exact ⟨agg Block.zero.cells, [⟨n, [undef], 0, 0⟩], ⟨Block.zero, Block.zero_ok, rfl, fun W2 h => (no_lie0 h).elim⟩, by
    rw [List.map_append, List.nodup_append]
    refine ⟨by simp, hl, fun i hi j hj => ?_⟩
    obtain ⟨b, hb, rfl⟩ := List.mem_map.1 hj
    simp at hi
    subst hi
    exact fun e => hn b hb e.symm⟩
theorem CutOwn.loose (D : DCut) : Loose (CutOwn D) := fun l hl => by
  obtain ⟨n, _, hn⟩ := fresh_is 0 l
  exact ⟨agg Cut.zero.cells, [⟨n, [undef], 0, 0⟩], ⟨Cut.zero, Cut.zero_ok, rfl, fun W2 h => (no_lie0 h).elim⟩, by
    rw [List.map_append, List.nodup_append]
    refine ⟨by simp, hl, fun i hi j hj => ?_⟩
    obtain ⟨b, hb, rfl⟩ := List.mem_map.1 hj
    simp at hi
    subst hi
    exact fun e => hn b hb e.symm⟩
theorem filt_yes {D : Type} {F : D → Bool} {ds : List D} {k : Nat} {d : D} (h : ds[k]? = some d) (hf : F d = true) : (ds.take (k + 1)).filter F = (ds.take k).filter F ++ [d] := by
  rw [take_snoc h, List.filter_append]; simp [hf]
theorem filt_no {D : Type} {F : D → Bool} {ds : List D} {k : Nat} {d : D} (h : ds[k]? = some d) (hf : F d = false) : (ds.take (k + 1)).filter F = (ds.take k).filter F := by
  rw [take_snoc h, List.filter_append]; simp [hf]

theorem keep_needed (X : Kept) (D : DKept) (hX : X.ok) (hm : MidK D) (h1 : X.fBlocks.n ≤ 1000) (h2 : X.fCerts.n ≤ 1000) (h3 : X.fVotes.n ≤ 1000) (h4 : X.fCuts.n ≤ 1000) : Meets Tryz.prog 9 [agg X.cells] [] (fun W => KeptIs W X D) (NeedR D) := by
 intro W hW
 obtain ⟨rsB_, hB⟩ := hW.fBlocks
 obtain ⟨rsE_, hE⟩ := hW.fCerts
 obtain ⟨rsV_, hV⟩ := hW.fVotes
 obtain ⟨rsC_, hC⟩ := hW.fCuts
 have nB := hB.nd
 have nE := hE.nd
 have nV := hV.nd
 have nC := hC.nd
 obtain ⟨w0, hw0⟩ : ∃ w, A8 (X.fCerts.n : Int) = w := ⟨_, rfl⟩
 have hw1 : w0.toNat = X.fCerts.n := by rw [← hw0, word_nat oM, Br oM]
 refine Ai Tryz.func9 rfl 98 Tryz.ntmps9 rfl ?_
 refine Sat.seq (Sat.region ?_)
 refine Tr.boxA rfl rfl ?_
 intro n1 hn1 hf1
 refine Tr.alloc (cs := Kept.zero.cells) rfl Kept.zr rfl ?_
 intro n2 hn2 hf2
 refine Tr.a rfl rfl rfl ?_
 refine Tr.nil (Aa (Sat.seq (Sat.seq (Sat.region ?_))))
 refine Tr.lA rfl rfl rfl U45 rfl Sz45 mM (Kept.length (by first | exact oK  | exact hX | exact okr | exact ⟨trivial⟩ | exact Kept.zero_ok | exact okB35 | exact okC92 | exact ⟨okC51⟩ | exact okr.o_fCut)) ?_
 refine Tr.cV rfl rfl rfl rfl Body14 (keep_check X D) (fun w h => hW.ext h rfl) ?_
 refine Tr.a rfl rfl rfl ?_
 refine Tr.nil (Aa (Sat.seq (Sat.region ?_)))
 refine Tr.m rfl rfl rfl ?_
 refine Tr.nei rfl rfl rfl rfl rfl ?_
 refine Tr.nil (Aa ?_)
 first
  | refine Sat.condP rfl (fun hc0 => ?_) (fun hc0 => ?_)
  | refine Sat.condNP rfl (fun hc0 => ?_) (fun hc0 => ?_)
  | refine Sat.cond rfl (fun hc0 => ?_) (fun hc0 => ?_)
 ·
  have hcz : ¬ D.check = 0 := by omega
  refine Sat.seq (Sat.region ?_)
  refine Tr.build (cs := Kept.zero.cells) rfl rfl rfl (fun w => by kernel_rfl) ?_
  refine Tr.m rfl rfl rfl ?_
  refine Tr.sA rfl rfl rfl rfl (Kept.isCell (by first | exact oK  | exact hX | exact okr | exact ⟨trivial⟩ | exact Kept.zero_ok | exact okB35 | exact okC92 | exact ⟨okC51⟩ | exact okr.o_fCut)) Sz45 (Kept.length (by first | exact oK  | exact hX | exact okr | exact ⟨trivial⟩ | exact Kept.zero_ok | exact okB35 | exact okC92 | exact ⟨okC51⟩ | exact okr.o_fCut)) mM (Kept.length (by first | exact oK  | exact hX | exact okr | exact ⟨trivial⟩ | exact Kept.zero_ok | exact okB35 | exact okC92 | exact ⟨okC51⟩ | exact okr.o_fCut)) uU ?_
  refine Tr.a rfl rfl rfl ?_
  refine Tr.nil (Aa (Sat.ret (Ao (Ak ?_))))
  refine Aj (out := []) (Ar rfl rfl rfl U45 rfl Sz45 mM (by first | (simp; done) | exact Kept.length (by first | exact oK  | exact hX | exact okr | exact ⟨trivial⟩ | exact Kept.zero_ok | exact okB35 | exact okC92 | exact ⟨okC51⟩ | exact okr.o_fCut))) Af ?_
  exact ⟨Kept.zero, Kept.zero_ok, by rw [A1, if_neg hcz], fun W2 _ => by rw [A1, if_neg hcz]; exact keptz_is W2⟩
 ·
  have hcz : D.check = 0 := by omega
  refine Sat.skip (Aa (Sat.seq (Sat.region ?_)))
  refine Tr.fld rfl rfl rfl U45 rfl Sz41 dE _ rfl ?_
  refine Tr.load1 rfl rfl rfl U41 rfl mM (by first | exact Kept.get_fCerts (by first | exact oK  | exact hX | exact okr | exact ⟨trivial⟩ | exact Kept.zero_ok | exact okB35 | exact okC92 | exact ⟨okC51⟩ | exact okr.o_fCut) | exact vL) ?_
  refine Tr.lenSl rfl rfl rfl U41 ?_
  refine Tr.conv rfl rfl rfl U3 U22 (Bo _) ?_
  rw [hw0]
  refine Tr.a rfl rfl rfl ?_
  refine Tr.nil (Aa (Sat.seq (Sat.region ?_)))
  refine Tr.alloc (cs := Kept.zero.cells) rfl Kept.zr rfl ?_
  intro n6 hn6 hf6
  refine Tr.nil (Aa (Sat.seq (Sat.seq (Sat.region ?_))))
  refine Tr.fld rfl rfl rfl U45 rfl Sz40 dE _ rfl ?_
  refine Tr.load1 rfl rfl rfl U40 rfl mM (by first | exact Kept.get_fBlocks (by first | exact oK  | exact hX | exact okr | exact ⟨trivial⟩ | exact Kept.zero_ok | exact okB35 | exact okC92 | exact ⟨okC51⟩ | exact okr.o_fCut) | exact vL) ?_
  refine Tr.lenSl rfl rfl rfl U40 ?_
  refine Tr.m rfl rfl rfl ?_
  refine Tr.nil (Aa (Sat.block ?_))
  refine Sat.loop (ι := Nat × Sl × List Blk × List Blk × List Block) (fun a => ⟨[(1, ptr n1 0), (2, ptr n2 0), (5, u64 w0), (6, ptr n6 0), (26, X.fBlocks.v), (27, i64 (X.fBlocks.n : Int)), (28, i64 (a.1 : Int))], (⟨n6, ({ Kept.zero with fBlocks := a.2.1 } : Kept).cells, 45, 4⟩ :: (⟨n2, Kept.zero.cells, 45, 4⟩ :: (⟨n1, X.cells, 45, X.cells.length⟩ :: (a.2.2.1 ++ (a.2.2.2.1 ++ [])))))⟩) (fun a => a.1 ≤ X.fBlocks.n ∧ OwnSeq Block.cells 131 BlockIs 52 a.2.1 a.2.2.1 a.2.2.2.1 a.2.2.2.2 (D.dBlocks.take a.1) a.1) (fun a => X.fBlocks.n - a.1) ((0, Sl.nil, [], [], [])) ?_ ?_ ?_
  · exact ⟨Nat.zero_le _, OwnSeq.none⟩
  · exact Ah (wk1 rfl (wk1 rfl (wk1 rfl (wk1 rfl (wk1 rfl (wk1 rfl (wk1 rfl wk0))))))) (Ad rM (Ad rM (Ad rM (pm_none (pm_none Af)))))
  ·
   rintro a ⟨ha1, hoa⟩
   refine Sat.seq (Sat.region ?_)
   refine Tr.lss rfl rfl rfl rfl rfl ?_
   refine Tr.nil (Aa (Sat.seq ?_))
   first
    | refine Sat.condP rfl (fun hc1 => ?_) (fun hc1 => ?_)
    | refine Sat.condNP rfl (fun hc1 => ?_) (fun hc1 => ?_)
    | refine Sat.cond rfl (fun hc1 => ?_) (fun hc1 => ?_)
   ·
    have hk2 : a.1 < X.fBlocks.n := by omega
    obtain ⟨b, o, r, d, hsp, hr, hd, his, hlen, hsee⟩ := hB.at dE hk2
    have okr := his.ok
    refine Sat.skip (Aa (Sat.seq (Sat.block (Sat.seq (Sat.region ?_)))))
    refine Tr.idxSlP 131 rfl rfl rfl hsp rfl U40 Sz52 a.1 rfl oM ?_
    refine Tr.loadEN r.cells rfl rfl rfl U52 rfl Sz52 sP hlen hsee ?_
    refine Tr.alloc (cs := Block.zero.cells) rfl Block.zr rfl ?_
    intro n8 hn8 hf8
    refine Tr.sA rfl rfl rfl rfl (Block.isCell (by first | exact oK  | exact hX | exact okr | exact ⟨trivial⟩ | exact Kept.zero_ok | exact okB35 | exact okC92 | exact ⟨okC51⟩ | exact okr.o_fCut)) Sz52 (Block.length (by first | exact oK  | exact hX | exact okr | exact ⟨trivial⟩ | exact Kept.zero_ok | exact okB35 | exact okC92 | exact ⟨okC51⟩ | exact okr.o_fCut)) mM (Block.length (by first | exact oK  | exact hX | exact okr | exact ⟨trivial⟩ | exact Kept.zero_ok | exact okB35 | exact okC92 | exact ⟨okC51⟩ | exact okr.o_fCut)) uU ?_
    refine Tr.nil (Aa ?_)
    refine Sat.draw [(0, 0), (1, 1), (1, 2), (3, 3), (2, 4), (4, 5), (0, 6), (4, 7)] Bz zK ?_
    refine Tr.fld rfl rfl rfl U45 rfl Sz40 dE _ rfl ?_
    refine Tr.load1 rfl rfl rfl U40 rfl mM (by first | exact Kept.get_fBlocks (by first | exact oK  | exact hX | exact okr | exact ⟨trivial⟩ | exact Kept.zero_ok | exact okB35 | exact okC92 | exact ⟨okC51⟩ | exact okr.o_fCut) | exact vL) ?_
    refine Tr.lA rfl rfl rfl U52 rfl Sz52 mM (Block.length (by first | exact oK  | exact hX | exact okr | exact ⟨trivial⟩ | exact Kept.zero_ok | exact okB35 | exact okC92 | exact ⟨okC51⟩ | exact okr.o_fCut)) ?_
    refine Tr.call rfl rfl rfl rfl Body40 (keep_copyblock r d (by rw [← his.ls.len]; exact (hm.blocks d (List.mem_of_getElem? hd)).1) (by rw [← his.ds.len]; exact (hm.blocks d (List.mem_of_getElem? hd)).2)) (BlockOwn.loose _) (fun w h => his.ext h rfl) ?_
    rintro v35 out35 ⟨B35, okB35, rfl, hB35⟩
    refine Tr.mkRow2 (z := agg Block.zero.cells) [agg B35.cells] B35.cells rfl rfl U40 Sz52 Block.zr rfl rfl (by intro v hv; rw [List.mem_singleton.1 hv]; exact Block.length okB35) dE (by simp [Value.cells]) ?_
    intro q36
    refine Tr.appendAcc (z := agg Block.zero.cells) (by' := 184) (B35.cells) rfl rfl rfl rfl rfl U40 U40 Sz52 Block.zr (by unfold By; kernel_rfl) rfl hoa.acc sG (fun w h => SeesP.of (As h mM)) (fun e => by cases e) (Block.isCell okB35) oM oM (by rw [Block.length okB35]) ?_
    intro s37 bl37 hac37
    refine Tr.fld rfl rfl rfl U45 rfl Sz40 dE _ rfl ?_
    refine Tr.s1 rfl rfl rfl rfl rfl Sz40 mM (by rw [Kept.length (by first | exact oK  | exact hX | exact okr | exact ⟨trivial⟩ | exact Kept.zero_ok | exact okB35 | exact okC92 | exact ⟨okC51⟩ | exact okr.o_fCut)]; decide) (by first | exact Kept.set_fBlocks (by first | exact oK  | exact hX | exact okr | exact ⟨trivial⟩ | exact Kept.zero_ok | exact okB35 | exact okC92 | exact ⟨okC51⟩ | exact okr.o_fCut) _ | exact Kept.setS_fBlocks (by first | exact oK  | exact hX | exact okr | exact ⟨trivial⟩ | exact Kept.zero_ok | exact okB35 | exact okC92 | exact ⟨okC51⟩ | exact okr.o_fCut) _ _ _) uU ?_
    refine Tr.nil (Bs (Aa (Sat.region ?_)))
    refine Tr.aI rfl rfl rfl rfl oM ?_
    refine Tr.m rfl rfl rfl ?_
    refine Tr.nil (Aa ?_)
    exact ⟨(a.1 + 1, s37, bl37, out35 ++ a.2.2.2.1, a.2.2.2.2 ++ [B35]), ⟨by simp only []; omega, by simp only [take_snoc hd]; exact hoa.snoc hac37 (Block.length okB35) hB35⟩, by simp only []; omega, Ah (wk1 rfl (wk1 rfl (wk1 rfl (wk1 rfl (wk1 rfl (wk1 rfl (wk1 (by rw [Int.natCast_add]; rfl) wk0))))))) (Ad rM (Ad rM (Ad rM (Ac sG (B5 (Ac sG (Ac sG Af)))))))⟩
   ·
    have hae : a.1 = X.fBlocks.n := by omega
    refine Sat.exit (A7 (A7 (bl_h (Aa (Sat.seq (Sat.seq (Sat.region ?_)))))))
    refine Tr.fld rfl rfl rfl U45 rfl Sz41 dE _ rfl ?_
    refine Tr.load1 rfl rfl rfl U41 rfl mM (by first | exact Kept.get_fCerts (by first | exact oK  | exact hX | exact okr | exact ⟨trivial⟩ | exact Kept.zero_ok | exact okB35 | exact okC92 | exact ⟨okC51⟩ | exact okr.o_fCut) | exact vL) ?_
    refine Tr.lenSl rfl rfl rfl U41 ?_
    refine Tr.m rfl rfl rfl ?_
    refine Tr.nil (Aa (Sat.block ?_))
    refine Sat.loop (ι := Nat × Sl × List Blk × List Blk × List Cert) (fun e => ⟨[(1, ptr n1 0), (2, ptr n2 0), (5, u64 w0), (6, ptr n6 0), (41, X.fCerts.v), (42, i64 (X.fCerts.n : Int)), (43, i64 (e.1 : Int))], (⟨n6, ({ Kept.zero with fBlocks := a.2.1, fCerts := e.2.1 } : Kept).cells, 45, 4⟩ :: (⟨n2, Kept.zero.cells, 45, 4⟩ :: (⟨n1, X.cells, 45, X.cells.length⟩ :: (a.2.2.1 ++ (a.2.2.2.1 ++ (e.2.2.1 ++ (e.2.2.2.1 ++ [])))))))⟩) (fun e => e.1 ≤ X.fCerts.n ∧ OwnSeq Cert.cells 35 CertIs 80 e.2.1 e.2.2.1 e.2.2.2.1 e.2.2.2.2 (D.dCerts.take e.1) e.1) (fun e => X.fCerts.n - e.1) ((0, Sl.nil, [], [], [])) ?_ ?_ ?_
    · exact ⟨Nat.zero_le _, OwnSeq.none⟩
    · exact Ah (wk1 rfl (wk1 rfl (wk1 rfl (wk1 rfl (wk1 rfl (wk1 rfl (wk1 rfl wk0))))))) (Ad rM (Ad rM (Ad rM (Ac sG (Ac sG (pm_none (pm_none Af)))))))
    ·
     rintro e ⟨he1, hoe⟩
     refine Sat.seq (Sat.region ?_)
     refine Tr.lss rfl rfl rfl rfl rfl ?_
     refine Tr.nil (Aa (Sat.seq ?_))
     first
      | refine Sat.condP rfl (fun hc2 => ?_) (fun hc2 => ?_)
      | refine Sat.condNP rfl (fun hc2 => ?_) (fun hc2 => ?_)
      | refine Sat.cond rfl (fun hc2 => ?_) (fun hc2 => ?_)
     ·
      have hk2 : e.1 < X.fCerts.n := by omega
      obtain ⟨b, o, r, d, hsp, hr, hd, his, hlen, hsee⟩ := hE.at dE hk2
      have okr := his.ok
      obtain ⟨vs, hvs⟩ := his.fVotes
      have hs2 := (hm.certs d (List.mem_of_getElem? hd)).2
      rw [hvs.nd] at hs2
      refine Sat.skip (Aa (Sat.seq (Sat.block (Sat.seq (Sat.region ?_)))))
      refine Tr.idxSlP 35 rfl rfl rfl hsp rfl U41 Sz80 e.1 rfl oM ?_
      refine Tr.loadEN r.cells rfl rfl rfl U80 rfl Sz80 sP hlen hsee ?_
      refine Tr.alloc (cs := Cert.zero.cells) rfl Cert.zr rfl ?_
      intro n10 hn10 hf10
      refine Tr.sA rfl rfl rfl rfl (Cert.isCell (by first | exact oK  | exact hX | exact okr | exact ⟨trivial⟩ | exact Kept.zero_ok | exact okB35 | exact okC92 | exact ⟨okC51⟩ | exact okr.o_fCut)) Sz80 (Cert.length (by first | exact oK  | exact hX | exact okr | exact ⟨trivial⟩ | exact Kept.zero_ok | exact okB35 | exact okC92 | exact ⟨okC51⟩ | exact okr.o_fCut)) mM (Cert.length (by first | exact oK  | exact hX | exact okr | exact ⟨trivial⟩ | exact Kept.zero_ok | exact okB35 | exact okC92 | exact ⟨okC51⟩ | exact okr.o_fCut)) uU ?_
      refine Tr.nil (Aa ?_)
      refine Sat.draw [(0, 0), (1, 1), (0, 2), (1, 3), (0, 5), (1, 6), (3, 4), (3, 7), (0, 8), (2, 9), (4, 10), (0, 11), (4, 12)] Bz zK ?_
      refine Tr.fld rfl rfl rfl U45 rfl Sz41 dE _ rfl ?_
      refine Tr.load1 rfl rfl rfl U41 rfl mM (by first | exact Kept.get_fCerts (by first | exact oK  | exact hX | exact okr | exact ⟨trivial⟩ | exact Kept.zero_ok | exact okB35 | exact okC92 | exact ⟨okC51⟩ | exact okr.o_fCut) | exact vL) ?_
      refine Tr.fld rfl rfl rfl U80 rfl B0 dE _ rfl ?_
      refine Tr.lN (Cut.cells _) rfl rfl rfl U39 rfl B0 mM (Cert.row_fCut (by first | exact oK  | exact hX | exact okr | exact ⟨trivial⟩ | exact Kept.zero_ok | exact okB35 | exact okC92 | exact ⟨okC51⟩ | exact okr.o_fCut)) (Cert.rl_fCut (by first | exact oK  | exact hX | exact okr | exact ⟨trivial⟩ | exact Kept.zero_ok | exact okB35 | exact okC92 | exact ⟨okC51⟩ | exact okr.o_fCut)) ?_
      refine Tr.fld rfl rfl rfl U80 rfl Sz42 dE _ rfl ?_
      refine Tr.load1 rfl rfl rfl U42 rfl mM (by first | exact Cert.get_fVotes (by first | exact oK  | exact hX | exact okr | exact ⟨trivial⟩ | exact Kept.zero_ok | exact okB35 | exact okC92 | exact ⟨okC51⟩ | exact okr.o_fCut) | exact vL) ?_
      refine Tr.call rfl rfl rfl rfl Body41 (keep_copycut r.fCut d.dCut (by rw [← his.fCut.fHeads.len]; exact (hm.certs d (List.mem_of_getElem? hd)).1)) (CutOwn.loose _) (fun w h => his.fCut.ext h rfl) ?_
      rintro v51 out51 ⟨C51, okC51, rfl, hC51⟩
      refine Tr.call rfl rfl rfl rfl Body42 (clone_vt r.fVotes (vs.map Vote.cells).flatten (votes_cell (seq_votes hvs)) hvs.flat (fun e => by have := hvs.nil e; have := hvs.cap; omega) (by rw [← hvs.nd]; exact (hm.certs d (List.mem_of_getElem? hd)).2)) (AccR.loose hvs.flat) (fun w h => Ax h rfl hvs.see) ?_
      rintro v54 out54 ⟨⟨p54, n54, c54⟩, rfl, hac54⟩
      refine Tr.build (cs := (⟨C51, ⟨p54, n54, c54⟩⟩ : Cert).cells) rfl rfl rfl (fun w => by exact build_cert okC51 ⟨p54, n54, c54⟩ w) ?_
      refine Tr.mkRow2 (z := agg Cert.zero.cells) [agg (⟨C51, ⟨p54, n54, c54⟩⟩ : Cert).cells] (⟨C51, ⟨p54, n54, c54⟩⟩ : Cert).cells rfl rfl U41 Sz80 Cert.zr rfl rfl (by intro v hv; rw [List.mem_singleton.1 hv]; exact Cert.length ⟨okC51⟩) dE (by simp [Value.cells]) ?_
      intro q56
      refine Tr.appendAcc (z := agg Cert.zero.cells) (by' := 88) ((⟨C51, ⟨p54, n54, c54⟩⟩ : Cert).cells) rfl rfl rfl rfl rfl U41 U41 Sz80 Cert.zr (by unfold By; kernel_rfl) rfl hoe.acc sG (fun w h => SeesP.of (As h mM)) (fun e => by cases e) (Cert.isCell ⟨okC51⟩) oM oM (by rw [Cert.length ⟨okC51⟩]) ?_
      intro s57 bl57 hac57
      refine Tr.fld rfl rfl rfl U45 rfl Sz41 dE _ rfl ?_
      refine Tr.s1 rfl rfl rfl rfl rfl Sz41 mM (by rw [Kept.length (by first | exact oK  | exact hX | exact okr | exact ⟨trivial⟩ | exact Kept.zero_ok | exact okB35 | exact okC92 | exact ⟨okC51⟩ | exact okr.o_fCut)]; decide) (by first | exact Kept.set_fCerts (by first | exact oK  | exact hX | exact okr | exact ⟨trivial⟩ | exact Kept.zero_ok | exact okB35 | exact okC92 | exact ⟨okC51⟩ | exact okr.o_fCut) _ | exact Kept.setS_fCerts (by first | exact oK  | exact hX | exact okr | exact ⟨trivial⟩ | exact Kept.zero_ok | exact okB35 | exact okC92 | exact ⟨okC51⟩ | exact okr.o_fCut) _ _ _) uU ?_
      refine Tr.nil (Bs (Aa (Sat.region ?_)))
      refine Tr.aI rfl rfl rfl rfl oM ?_
      refine Tr.m rfl rfl rfl ?_
      refine Tr.nil (Aa ?_)
      exact ⟨(e.1 + 1, s57, bl57, (out54 ++ out51) ++ e.2.2.2.1, e.2.2.2.2 ++ [⟨C51, ⟨p54, n54, c54⟩⟩]), ⟨by simp only []; omega, by simp only [take_snoc hd]; exact hoe.snoc hac57 (Cert.length ⟨okC51⟩) (fun W2 hl => ⟨⟨okC51⟩, hC51 W2 (hl.sub iN), ⟨vs, acc_seq hac54 (hl.sub iN) hvs.nr hvs.nd hvs.len oM fun i r d hr hd => (by
       have := hvs.is i r d hr hd
       exact ⟨this.ok, this.eq, this.wf⟩)⟩⟩)⟩, by simp only []; omega, Ah (wk1 rfl (wk1 rfl (wk1 rfl (wk1 rfl (wk1 rfl (wk1 rfl (wk1 (by rw [Int.natCast_add]; rfl) wk0))))))) (Ad rM (Ad rM (Ad rM (Ac sG (Ac sG (Ac sG (B5 (B5 (Ac sG (Ac sG (Ac sG Af)))))))))))⟩
     ·
      have hee : e.1 = X.fCerts.n := by omega
      refine Sat.exit (A7 (A7 (bl_h (Aa (Sat.seq (Sat.seq (Sat.region ?_)))))))
      refine Tr.fld rfl rfl rfl U45 rfl Sz42 dE _ rfl ?_
      refine Tr.load1 rfl rfl rfl U42 rfl mM (by first | exact Kept.get_fVotes (by first | exact oK  | exact hX | exact okr | exact ⟨trivial⟩ | exact Kept.zero_ok | exact okB35 | exact okC92 | exact ⟨okC51⟩ | exact okr.o_fCut) | exact vL) ?_
      refine Tr.lenSl rfl rfl rfl U42 ?_
      refine Tr.m rfl rfl rfl ?_
      refine Tr.nil (Aa (Sat.block ?_))
      refine Sat.loop (ι := Nat × Sl × List Blk × Nat × List Vote) (fun v => ⟨[(1, ptr n1 0), (2, ptr n2 0), (5, u64 w0), (6, ptr n6 0), (61, X.fVotes.v), (62, i64 (X.fVotes.n : Int)), (63, i64 (v.1 : Int))], (⟨n6, ({ Kept.zero with fBlocks := a.2.1, fCerts := e.2.1, fVotes := v.2.1 } : Kept).cells, 45, 4⟩ :: (⟨n2, Kept.zero.cells, 45, 4⟩ :: (⟨n1, X.cells, 45, X.cells.length⟩ :: (a.2.2.1 ++ (a.2.2.2.1 ++ (e.2.2.1 ++ (e.2.2.2.1 ++ (v.2.2.1 ++ []))))))))⟩) (fun v => v.1 ≤ X.fVotes.n ∧ v.2.2.2.1 ≤ v.1 ∧ OwnSeq Vote.cells 132 VoteIs 29 v.2.1 v.2.2.1 [] v.2.2.2.2 ((D.dVotes.take v.1).filter (gtV X.fCerts.n)) v.2.2.2.1) (fun v => X.fVotes.n - v.1) ((0, Sl.nil, [], 0, [])) ?_ ?_ ?_
      · exact ⟨Nat.zero_le _, Nat.le_refl _, OwnSeq.none⟩
      · exact Ah (wk1 rfl (wk1 rfl (wk1 rfl (wk1 rfl (wk1 rfl (wk1 rfl (wk1 rfl wk0))))))) (Ad rM (Ad rM (Ad rM (Ac sG (Ac sG (Ac sG (Ac sG (pm_none Af))))))))
      ·
       rintro v ⟨hv1, hv2, hov⟩
       refine Sat.seq (Sat.region ?_)
       refine Tr.lss rfl rfl rfl rfl rfl ?_
       refine Tr.nil (Aa (Sat.seq ?_))
       first
        | refine Sat.condP rfl (fun hc3 => ?_) (fun hc3 => ?_)
        | refine Sat.condNP rfl (fun hc3 => ?_) (fun hc3 => ?_)
        | refine Sat.cond rfl (fun hc3 => ?_) (fun hc3 => ?_)
       ·
        have hk2 : v.1 < X.fVotes.n := by omega
        obtain ⟨b, o, r, d, hsp, hr, hd, his, hlen, hsee⟩ := hV.at dE hk2
        have okr := his.ok
        obtain rfl := his.eq
        refine Sat.skip (Aa ?_)
        refine Sat.join (ι := Nat × Sl × List Blk × Nat × List Vote) (fun j => ⟨[(1, ptr n1 0), (2, ptr n2 0), (5, u64 w0), (6, ptr n6 0), (61, X.fVotes.v), (62, i64 (X.fVotes.n : Int)), (63, i64 (v.1 : Int))], (⟨n6, ({ Kept.zero with fBlocks := a.2.1, fCerts := e.2.1, fVotes := j.2.1 } : Kept).cells, 45, 4⟩ :: (⟨n2, Kept.zero.cells, 45, 4⟩ :: (⟨n1, X.cells, 45, X.cells.length⟩ :: (a.2.2.1 ++ (a.2.2.2.1 ++ (e.2.2.1 ++ (e.2.2.2.1 ++ (j.2.2.1 ++ []))))))))⟩) (fun j => j.2.2.2.1 ≤ v.1 + 1 ∧ OwnSeq Vote.cells 132 VoteIs 29 j.2.1 j.2.2.1 [] j.2.2.2.2 ((D.dVotes.take (v.1 + 1)).filter (gtV X.fCerts.n)) j.2.2.2.1) ?_ ?_
        ·
         refine Sat.block (Sat.seq ?_)
         refine Sat.region ?_
         refine Tr.idxSlP 132 rfl rfl rfl hsp rfl U42 Bw v.1 rfl oM ?_
         refine Tr.loadEN r.cells rfl rfl rfl U29 rfl Bw sP hlen hsee ?_
         refine Tr.alloc (cs := Vote.zero.cells) rfl Vote.zr rfl ?_
         intro n12 hn12 hf12
         refine Tr.sA rfl rfl rfl rfl (Vote.isCell (by first | exact oK  | exact hX | exact okr | exact ⟨trivial⟩ | exact Kept.zero_ok | exact okB35 | exact okC92 | exact ⟨okC51⟩ | exact okr.o_fCut)) Bw (Vote.length (by first | exact oK  | exact hX | exact okr | exact ⟨trivial⟩ | exact Kept.zero_ok | exact okB35 | exact okC92 | exact ⟨okC51⟩ | exact okr.o_fCut)) mM (Vote.length (by first | exact oK  | exact hX | exact okr | exact ⟨trivial⟩ | exact Kept.zero_ok | exact okB35 | exact okC92 | exact ⟨okC51⟩ | exact okr.o_fCut)) uU ?_
         refine Tr.nil (Aa (Sat.seq (Sat.region ?_)))
         refine Tr.fld rfl rfl rfl U29 rfl B4 dE _ rfl ?_
         refine Tr.load1 rfl rfl rfl U22 rfl mM (by first | exact Vote.get_fHeight (by first | exact oK  | exact hX | exact okr | exact ⟨trivial⟩ | exact Kept.zero_ok | exact okB35 | exact okC92 | exact ⟨okC51⟩ | exact okr.o_fCut) | exact vL) ?_
         refine Tr.m rfl rfl rfl ?_
         refine Tr.gtr rfl rfl rfl rfl rfl ?_
         refine Tr.nil (Aa ?_)
         first
          | refine Sat.condP rfl (fun hc4 => ?_) (fun hc4 => ?_)
          | refine Sat.condNP rfl (fun hc4 => ?_) (fun hc4 => ?_)
          | refine Sat.cond rfl (fun hc4 => ?_) (fun hc4 => ?_)
         ·
          refine Sat.region ?_
          refine Tr.fld rfl rfl rfl U45 rfl Sz42 dE _ rfl ?_
          refine Tr.load1 rfl rfl rfl U42 rfl mM (by first | exact Kept.get_fVotes (by first | exact oK  | exact hX | exact okr | exact ⟨trivial⟩ | exact Kept.zero_ok | exact okB35 | exact okC92 | exact ⟨okC51⟩ | exact okr.o_fCut) | exact vL) ?_
          refine Tr.lA rfl rfl rfl U29 rfl Bw mM (Vote.length (by first | exact oK  | exact hX | exact okr | exact ⟨trivial⟩ | exact Kept.zero_ok | exact okB35 | exact okC92 | exact ⟨okC51⟩ | exact okr.o_fCut)) ?_
          refine Tr.mkRow2 (z := agg Vote.zero.cells) [agg r.cells] r.cells rfl rfl U42 Bw Vote.zr rfl rfl (by intro v hv; rw [List.mem_singleton.1 hv]; exact Vote.length okr) dE (by simp [Value.cells]) ?_
          intro q74
          refine Tr.appendAcc (z := agg Vote.zero.cells) (by' := 160) (r.cells) rfl rfl rfl rfl rfl U42 U42 Bw Vote.zr (by unfold By; kernel_rfl) rfl hov.acc sG (fun w h => SeesP.of (As h mM)) (fun e => by cases e) (Vote.isCell okr) oM oM (by rw [Vote.length okr]) ?_
          intro s75 bl75 hac75
          refine Tr.fld rfl rfl rfl U45 rfl Sz42 dE _ rfl ?_
          refine Tr.s1 rfl rfl rfl rfl rfl Sz42 mM (by rw [Kept.length (by first | exact oK  | exact hX | exact okr | exact ⟨trivial⟩ | exact Kept.zero_ok | exact okB35 | exact okC92 | exact ⟨okC51⟩ | exact okr.o_fCut)]; decide) (by first | exact Kept.set_fVotes (by first | exact oK  | exact hX | exact okr | exact ⟨trivial⟩ | exact Kept.zero_ok | exact okB35 | exact okC92 | exact ⟨okC51⟩ | exact okr.o_fCut) _ | exact Kept.setS_fVotes (by first | exact oK  | exact hX | exact okr | exact ⟨trivial⟩ | exact Kept.zero_ok | exact okB35 | exact okC92 | exact ⟨okC51⟩ | exact okr.o_fCut) _ _ _) uU ?_
          refine Tr.nil (Bs (Aa ?_))
          first
           | exact ⟨(v.1, s75, bl75, v.2.2.2.1 + 1, v.2.2.2.2 ++ [r]), ⟨by simp only []; omega, by simp only [filt_yes hd (show gtV X.fCerts.n r = true from decide_eq_true oM)]; exact hov.snoc (bl3 := []) hac75 (Vote.length okr) (fun W2 _ => ⟨his.ok, rfl, his.wf⟩)⟩, Ah (wk1 rfl (wk1 rfl (wk1 rfl (wk1 rfl (wk1 rfl (wk1 rfl (wk1 rfl wk0))))))) (Ad rM (Ad rM (Ad rM (Ac sG (Ac sG (Ac sG (Ac sG (Ac sG Af))))))))⟩
           | exact ⟨(v.1, v.2.1, v.2.2.1, v.2.2.2.1, v.2.2.2.2), ⟨by simp only []; omega, by simp only [filt_no hd (show gtV X.fCerts.n r = false from decide_eq_false oM)]; exact hov⟩, Ah (wk1 rfl (wk1 rfl (wk1 rfl (wk1 rfl (wk1 rfl (wk1 rfl (wk1 rfl wk0))))))) (Ad rM (Ad rM (Ad rM (Ac sG (Ac sG (Ac sG (Ac sG (Ac sG Af))))))))⟩
         ·
          refine Sat.skip (Bs (Aa ?_))
          first
           | exact ⟨(v.1, s75, bl75, v.2.2.2.1 + 1, v.2.2.2.2 ++ [r]), ⟨by simp only []; omega, by simp only [filt_yes hd (show gtV X.fCerts.n r = true from decide_eq_true oM)]; exact hov.snoc (bl3 := []) hac75 (Vote.length okr) (fun W2 _ => ⟨his.ok, rfl, his.wf⟩)⟩, Ah (wk1 rfl (wk1 rfl (wk1 rfl (wk1 rfl (wk1 rfl (wk1 rfl (wk1 rfl wk0))))))) (Ad rM (Ad rM (Ad rM (Ac sG (Ac sG (Ac sG (Ac sG (Ac sG Af))))))))⟩
           | exact ⟨(v.1, v.2.1, v.2.2.1, v.2.2.2.1, v.2.2.2.2), ⟨by simp only []; omega, by simp only [filt_no hd (show gtV X.fCerts.n r = false from decide_eq_false oM)]; exact hov⟩, Ah (wk1 rfl (wk1 rfl (wk1 rfl (wk1 rfl (wk1 rfl (wk1 rfl (wk1 rfl wk0))))))) (Ad rM (Ad rM (Ad rM (Ac sG (Ac sG (Ac sG (Ac sG (Ac sG Af))))))))⟩
        ·
         intro j hj
         skip
         refine Sat.region ?_
         refine Tr.aI rfl rfl rfl rfl oM ?_
         refine Tr.m rfl rfl rfl ?_
         refine Tr.nil (Aa ?_)
         exact ⟨(v.1 + 1, j.2.1, j.2.2.1, j.2.2.2.1, j.2.2.2.2), ⟨by simp only []; omega, by have := hj.1; simp only []; omega, hj.2⟩, by simp only []; omega, Ah (wk1 rfl (wk1 rfl (wk1 rfl (wk1 rfl (wk1 rfl (wk1 rfl (wk1 (by rw [Int.natCast_add]; rfl) wk0))))))) (Ad rM (Ad rM (Ad rM (Ac sG (Ac sG (Ac sG (Ac sG (Ac sG Af))))))))⟩
       ·
        have hve : v.1 = X.fVotes.n := by omega
        refine Sat.exit (A7 (A7 (bl_h (Aa (Sat.seq (Sat.seq (Sat.region ?_)))))))
        refine Tr.fld rfl rfl rfl U45 rfl Sz43 dE _ rfl ?_
        refine Tr.load1 rfl rfl rfl U43 rfl mM (by first | exact Kept.get_fCuts (by first | exact oK  | exact hX | exact okr | exact ⟨trivial⟩ | exact Kept.zero_ok | exact okB35 | exact okC92 | exact ⟨okC51⟩ | exact okr.o_fCut) | exact vL) ?_
        refine Tr.lenSl rfl rfl rfl U43 ?_
        refine Tr.m rfl rfl rfl ?_
        refine Tr.nil (Aa (Sat.block ?_))
        refine Sat.loop (ι := Nat × Sl × List Blk × List Blk × Nat × List Cut) (fun u => ⟨[(1, ptr n1 0), (2, ptr n2 0), (5, u64 w0), (6, ptr n6 0), (79, X.fCuts.v), (80, i64 (X.fCuts.n : Int)), (81, i64 (u.1 : Int))], (⟨n6, ({ Kept.zero with fBlocks := a.2.1, fCerts := e.2.1, fVotes := v.2.1, fCuts := u.2.1 } : Kept).cells, 45, 4⟩ :: (⟨n2, Kept.zero.cells, 45, 4⟩ :: (⟨n1, X.cells, 45, X.cells.length⟩ :: (a.2.2.1 ++ (a.2.2.2.1 ++ (e.2.2.1 ++ (e.2.2.2.1 ++ (v.2.2.1 ++ (u.2.2.1 ++ (u.2.2.2.1 ++ []))))))))))⟩) (fun u => u.1 ≤ X.fCuts.n ∧ u.2.2.2.2.1 ≤ u.1 ∧ OwnSeq Cut.cells 34 CutIs 39 u.2.1 u.2.2.1 u.2.2.2.1 u.2.2.2.2.2 ((D.dCuts.take u.1).filter (gtC X.fCerts.n)) u.2.2.2.2.1) (fun u => X.fCuts.n - u.1) ((0, Sl.nil, [], [], 0, [])) ?_ ?_ ?_
        · exact ⟨Nat.zero_le _, Nat.le_refl _, OwnSeq.none⟩
        · exact Ah (wk1 rfl (wk1 rfl (wk1 rfl (wk1 rfl (wk1 rfl (wk1 rfl (wk1 rfl wk0))))))) (Ad rM (Ad rM (Ad rM (Ac sG (Ac sG (Ac sG (Ac sG (Ac sG (pm_none (pm_none Af))))))))))
        ·
         rintro u ⟨hu1, hu2, hou⟩
         refine Sat.seq (Sat.region ?_)
         refine Tr.lss rfl rfl rfl rfl rfl ?_
         refine Tr.nil (Aa (Sat.seq ?_))
         first
          | refine Sat.condP rfl (fun hc5 => ?_) (fun hc5 => ?_)
          | refine Sat.condNP rfl (fun hc5 => ?_) (fun hc5 => ?_)
          | refine Sat.cond rfl (fun hc5 => ?_) (fun hc5 => ?_)
         ·
          have hk2 : u.1 < X.fCuts.n := by omega
          obtain ⟨b, o, r, d, hsp, hr, hd, his, hlen, hsee⟩ := hC.at dE hk2
          have okr := his.ok
          refine Sat.skip (Aa ?_)
          refine Sat.join (ι := Nat × Sl × List Blk × List Blk × Nat × List Cut) (fun j => ⟨[(1, ptr n1 0), (2, ptr n2 0), (5, u64 w0), (6, ptr n6 0), (79, X.fCuts.v), (80, i64 (X.fCuts.n : Int)), (81, i64 (u.1 : Int))], (⟨n6, ({ Kept.zero with fBlocks := a.2.1, fCerts := e.2.1, fVotes := v.2.1, fCuts := j.2.1 } : Kept).cells, 45, 4⟩ :: (⟨n2, Kept.zero.cells, 45, 4⟩ :: (⟨n1, X.cells, 45, X.cells.length⟩ :: (a.2.2.1 ++ (a.2.2.2.1 ++ (e.2.2.1 ++ (e.2.2.2.1 ++ (v.2.2.1 ++ (j.2.2.1 ++ (j.2.2.2.1 ++ []))))))))))⟩) (fun j => j.2.2.2.2.1 ≤ u.1 + 1 ∧ OwnSeq Cut.cells 34 CutIs 39 j.2.1 j.2.2.1 j.2.2.2.1 j.2.2.2.2.2 ((D.dCuts.take (u.1 + 1)).filter (gtC X.fCerts.n)) j.2.2.2.2.1) ?_ ?_
          ·
           refine Sat.block (Sat.seq ?_)
           refine Sat.region ?_
           refine Tr.idxSlP 34 rfl rfl rfl hsp rfl U43 B0 u.1 rfl oM ?_
           refine Tr.loadEN r.cells rfl rfl rfl U39 rfl B0 sP hlen hsee ?_
           refine Tr.alloc (cs := Cut.zero.cells) rfl Cut.zr rfl ?_
           intro n14 hn14 hf14
           refine Tr.sA rfl rfl rfl rfl (Cut.isCell (by first | exact oK  | exact hX | exact okr | exact ⟨trivial⟩ | exact Kept.zero_ok | exact okB35 | exact okC92 | exact ⟨okC51⟩ | exact okr.o_fCut)) B0 (Cut.length (by first | exact oK  | exact hX | exact okr | exact ⟨trivial⟩ | exact Kept.zero_ok | exact okB35 | exact okC92 | exact ⟨okC51⟩ | exact okr.o_fCut)) mM (Cut.length (by first | exact oK  | exact hX | exact okr | exact ⟨trivial⟩ | exact Kept.zero_ok | exact okB35 | exact okC92 | exact ⟨okC51⟩ | exact okr.o_fCut)) uU ?_
           refine Tr.nil (Aa (Sat.seq (Sat.region ?_)))
           refine Tr.fld rfl rfl rfl U39 rfl B4 dE _ rfl ?_
           refine Tr.load1 rfl rfl rfl U22 rfl mM (by first | exact Cut.get_fHeight (by first | exact oK  | exact hX | exact okr | exact ⟨trivial⟩ | exact Kept.zero_ok | exact okB35 | exact okC92 | exact ⟨okC51⟩ | exact okr.o_fCut) | exact vL) ?_
           refine Tr.m rfl rfl rfl ?_
           refine Tr.gtr rfl rfl rfl rfl rfl ?_
           refine Tr.nil (Aa ?_)
           first
            | refine Sat.condP rfl (fun hc6 => ?_) (fun hc6 => ?_)
            | refine Sat.condNP rfl (fun hc6 => ?_) (fun hc6 => ?_)
            | refine Sat.cond rfl (fun hc6 => ?_) (fun hc6 => ?_)
           ·
            refine Sat.draw [(0, 0), (1, 1), (1, 2), (3, 3), (2, 4), (4, 5), (0, 6), (4, 7)] Bz zK ?_
            refine Tr.fld rfl rfl rfl U45 rfl Sz43 dE _ rfl ?_
            refine Tr.load1 rfl rfl rfl U43 rfl mM (by first | exact Kept.get_fCuts (by first | exact oK  | exact hX | exact okr | exact ⟨trivial⟩ | exact Kept.zero_ok | exact okB35 | exact okC92 | exact ⟨okC51⟩ | exact okr.o_fCut) | exact vL) ?_
            refine Tr.lA rfl rfl rfl U39 rfl B0 mM (Cut.length (by first | exact oK  | exact hX | exact okr | exact ⟨trivial⟩ | exact Kept.zero_ok | exact okB35 | exact okC92 | exact ⟨okC51⟩ | exact okr.o_fCut)) ?_
            refine Tr.call rfl rfl rfl rfl Body41 (keep_copycut r d (by rw [← his.fHeads.len]; exact hm.cuts d (List.mem_of_getElem? hd))) (CutOwn.loose _) (fun w h => his.ext h rfl) ?_
            rintro v92 out92 ⟨C92, okC92, rfl, hC92⟩
            refine Tr.mkRow2 (z := agg Cut.zero.cells) [agg C92.cells] C92.cells rfl rfl U43 B0 Cut.zr rfl rfl (by intro v hv; rw [List.mem_singleton.1 hv]; exact Cut.length okC92) dE (by simp [Value.cells]) ?_
            intro q93
            refine Tr.appendAcc (z := agg Cut.zero.cells) (by' := 64) (C92.cells) rfl rfl rfl rfl rfl U43 U43 B0 Cut.zr (by unfold By; kernel_rfl) rfl hou.acc sG (fun w h => SeesP.of (As h mM)) (fun e => by cases e) (Cut.isCell okC92) oM oM (by rw [Cut.length okC92]) ?_
            intro s94 bl94 hac94
            refine Tr.fld rfl rfl rfl U45 rfl Sz43 dE _ rfl ?_
            refine Tr.s1 rfl rfl rfl rfl rfl Sz43 mM (by rw [Kept.length (by first | exact oK  | exact hX | exact okr | exact ⟨trivial⟩ | exact Kept.zero_ok | exact okB35 | exact okC92 | exact ⟨okC51⟩ | exact okr.o_fCut)]; decide) (by first | exact Kept.set_fCuts (by first | exact oK  | exact hX | exact okr | exact ⟨trivial⟩ | exact Kept.zero_ok | exact okB35 | exact okC92 | exact ⟨okC51⟩ | exact okr.o_fCut) _ | exact Kept.setS_fCuts (by first | exact oK  | exact hX | exact okr | exact ⟨trivial⟩ | exact Kept.zero_ok | exact okB35 | exact okC92 | exact ⟨okC51⟩ | exact okr.o_fCut) _ _ _) uU ?_
            refine Tr.nil (Bs (Aa ?_))
            first
             | exact ⟨(u.1, s94, bl94, out92 ++ u.2.2.2.1, u.2.2.2.2.1 + 1, u.2.2.2.2.2 ++ [C92]), ⟨by simp only []; omega, by simp only [filt_yes hd (show gtC X.fCerts.n d = true from decide_eq_true (by rw [← his.fHeight]; omega))]; exact hou.snoc hac94 (Cut.length okC92) hC92⟩, Ah (wk1 rfl (wk1 rfl (wk1 rfl (wk1 rfl (wk1 rfl (wk1 rfl (wk1 rfl wk0))))))) (Ad rM (Ad rM (Ad rM (Ac sG (Ac sG (Ac sG (Ac sG (Ac sG (Ac sG (B5 (Ac sG (Ac sG Af))))))))))))⟩
             | exact ⟨(u.1, u.2.1, u.2.2.1, u.2.2.2.1, u.2.2.2.2.1, u.2.2.2.2.2), ⟨by simp only []; omega, by simp only [filt_no hd (show gtC X.fCerts.n d = false from decide_eq_false (by rw [← his.fHeight]; omega))]; exact hou⟩, Ah (wk1 rfl (wk1 rfl (wk1 rfl (wk1 rfl (wk1 rfl (wk1 rfl (wk1 rfl wk0))))))) (Ad rM (Ad rM (Ad rM (Ac sG (Ac sG (Ac sG (Ac sG (Ac sG (Ac sG (Ac sG Af))))))))))⟩
           ·
            refine Sat.skip (Bs (Aa ?_))
            first
             | exact ⟨(u.1, s94, bl94, out92 ++ u.2.2.2.1, u.2.2.2.2.1 + 1, u.2.2.2.2.2 ++ [C92]), ⟨by simp only []; omega, by simp only [filt_yes hd (show gtC X.fCerts.n d = true from decide_eq_true (by rw [← his.fHeight]; omega))]; exact hou.snoc hac94 (Cut.length okC92) hC92⟩, Ah (wk1 rfl (wk1 rfl (wk1 rfl (wk1 rfl (wk1 rfl (wk1 rfl (wk1 rfl wk0))))))) (Ad rM (Ad rM (Ad rM (Ac sG (Ac sG (Ac sG (Ac sG (Ac sG (Ac sG (B5 (Ac sG (Ac sG Af))))))))))))⟩
             | exact ⟨(u.1, u.2.1, u.2.2.1, u.2.2.2.1, u.2.2.2.2.1, u.2.2.2.2.2), ⟨by simp only []; omega, by simp only [filt_no hd (show gtC X.fCerts.n d = false from decide_eq_false (by rw [← his.fHeight]; omega))]; exact hou⟩, Ah (wk1 rfl (wk1 rfl (wk1 rfl (wk1 rfl (wk1 rfl (wk1 rfl (wk1 rfl wk0))))))) (Ad rM (Ad rM (Ad rM (Ac sG (Ac sG (Ac sG (Ac sG (Ac sG (Ac sG (Ac sG Af))))))))))⟩
          ·
           intro j hj
           skip
           refine Sat.region ?_
           refine Tr.aI rfl rfl rfl rfl oM ?_
           refine Tr.m rfl rfl rfl ?_
           refine Tr.nil (Aa ?_)
           exact ⟨(u.1 + 1, j.2.1, j.2.2.1, j.2.2.2.1, j.2.2.2.2.1, j.2.2.2.2.2), ⟨by simp only []; omega, by have := hj.1; simp only []; omega, hj.2⟩, by simp only []; omega, Ah (wk1 rfl (wk1 rfl (wk1 rfl (wk1 rfl (wk1 rfl (wk1 rfl (wk1 (by rw [Int.natCast_add]; rfl) wk0))))))) (Ad rM (Ad rM (Ad rM (Ac sG (Ac sG (Ac sG (Ac sG (Ac sG (Ac sG (Ac sG Af))))))))))⟩
         ·
          have hue : u.1 = X.fCuts.n := by omega
          refine Sat.exit (A7 (A7 (bl_h (Aa (Sat.seq (Sat.region ?_))))))
          refine Tr.lA rfl rfl rfl U45 rfl Sz45 mM (Kept.length (by first | exact oK  | exact hX | exact okr | exact ⟨trivial⟩ | exact Kept.zero_ok | exact okB35 | exact okC92 | exact ⟨okC51⟩ | exact okr.o_fCut)) ?_
          refine Tr.sA rfl rfl rfl rfl (Kept.isCell (by first | exact oK  | exact hX | exact okr | exact ⟨trivial⟩ | exact Kept.zero_ok | exact okB35 | exact okC92 | exact ⟨okC51⟩ | exact okr.o_fCut)) Sz45 (Kept.length (by first | exact oK  | exact hX | exact okr | exact ⟨trivial⟩ | exact Kept.zero_ok | exact okB35 | exact okC92 | exact ⟨okC51⟩ | exact okr.o_fCut)) mM (Kept.length (by first | exact oK  | exact hX | exact okr | exact ⟨trivial⟩ | exact Kept.zero_ok | exact okB35 | exact okC92 | exact ⟨okC51⟩ | exact okr.o_fCut)) uU ?_
          refine Tr.a rfl rfl rfl ?_
          refine Tr.nil (Aa (Sat.ret (Ak ?_)))
          refine Aj (out := (a.2.2.1 ++ (a.2.2.2.1 ++ (e.2.2.1 ++ (e.2.2.2.1 ++ (v.2.2.1 ++ (u.2.2.1 ++ (u.2.2.2.1 ++ [])))))))) (Ar rfl rfl rfl U45 rfl Sz45 mM (by first | (simp; done) | exact Kept.length (by first | exact oK  | exact hX | exact okr | exact ⟨trivial⟩ | exact Kept.zero_ok | exact okB35 | exact okC92 | exact ⟨okC51⟩ | exact okr.o_fCut))) (Ac sG (Ac sG (Ac sG (Ac sG (Ac sG (Ac sG (Ac sG Af))))))) ?_
          refine ⟨({ Kept.zero with fBlocks := a.2.1, fCerts := e.2.1, fVotes := v.2.1, fCuts := u.2.1 } : Kept), ⟨trivial⟩, by rw [A1, if_pos hcz], fun W2 hl => ?_⟩
          rw [hae, List.take_of_length_le oM] at hoa
          rw [hee, List.take_of_length_le oM] at hoe
          rw [List.take_of_length_le oM] at hov hou
          rw [A1, if_pos hcz, nE]
          exact ⟨⟨trivial⟩, ⟨_, hoa.seq (hl.sub iN) (hl.sub iN) oM⟩, ⟨_, hoe.seq (hl.sub iN) (hl.sub iN) oM⟩, ⟨_, hov.seq (hl.sub iN) (fun b hb => (by cases hb)) oM⟩, ⟨_, hou.seq (hl.sub iN) (hl.sub iN) oM⟩⟩

end Go.Proofs.YtkfhpmidcbmofaaGreat
end

section
namespace Go.Proofs.YtkfhpmidcbmofaaGreat
open Go Hw

def eqV (h : UInt64) (V : Vote) : Bool := decide ((V.fHeight.toNat : Int) = (h.toNat : Int))
def SaidR (ds : List Vote) (v : Value) (out : List Blk) : Prop := ∃ (s : Sl) (rs : List Vote), v = s.v ∧ OwnSeq Vote.cells 132 VoteIs 29 s out [] rs ds ds.length
theorem SaidR.loose {ds : List Vote} (h : ∀ d ∈ ds, d.ok ∧ (Lit.int .i64 d.fPhase).wf = true) : Loose (SaidR ds) := fun l hl => by
  obtain ⟨q, _, hq⟩ := fresh_is 0 l
  refine ⟨_, [⟨q, (ds.map Vote.cells).flatten, 29, ds.length * 132⟩], ⟨⟨some ⟨q, 0, none⟩, ds.length, ds.length⟩, ds, rfl, Acc.some (Nat.le_refl _) (flat_len0 ds fun r hr => Vote.length (h r hr).1), rfl, rfl, fun r hr => Vote.length (h r hr).1, fun W2 _ i r d h1 h2 => ?_⟩, ?_⟩
  · rw [h1] at h2; cases h2
    have := h r (List.mem_of_getElem? h1)
    exact ⟨this.1, rfl, this.2⟩
  · rw [List.map_append, List.nodup_append]
    refine ⟨by simp, hl, fun i hi j hj => ?_⟩
    obtain ⟨b, hb, rfl⟩ := List.mem_map.1 hj
    simp at hi
    subst hi
    exact fun e => hq b hb e.symm
def recSz (d : DRecord) : Nat := if d.check = 0 then 9 + szN d.dData.length + d.dData.length else 0
def recsSz (ds : List DRecord) : Nat := (ds.map recSz).sum
theorem recSz_le {d : DRecord} (h : d.dData.length ≤ 100000) : recSz d ≤ 100020 := by
  unfold recSz
  have := Bb d.dData.length
  split <;> omega
theorem recsSz_step {ds : List DRecord} {k : Nat} {d : DRecord} (h : ds[k]? = some d) : recsSz (ds.take (k + 1)) = recsSz (ds.take k) + recSz d := by
  rw [recsSz, take_snoc h, List.map_append, List.sum_append]; simp [recsSz]
theorem recsSz_le : ∀ (ds : List DRecord), (∀ d ∈ ds, d.dData.length ≤ 100000) → recsSz ds ≤ ds.length * 100020
  | [], _ => by simp [recsSz]
  | d :: l, h => by
    have h1 := recsSz_le l (fun x hx => h x (List.mem_cons_of_mem _ hx))
    have h2 := recSz_le (h d List.mem_cons_self)
    have e : recsSz (d :: l) = recSz d + recsSz l := by simp [recsSz]
    rw [e, List.length_cons, Nat.add_mul]; omega

theorem keep_said_all (X : Kept) (hX : X.ok) (ds : List Vote) (h : UInt64) (hsn : X.fVotes.n ≤ 1000) : Meets Tryz.prog 12 [agg X.cells, u64 h] [] (fun W => VotesAt W X.fVotes ds) (SaidR (ds.filter (eqV h))) := by
 intro W hW
 obtain ⟨rs, hs⟩ := hW
 have hnd := hs.nd
 refine Ai Tryz.func12 rfl 25 Tryz.ntmps12 rfl ?_
 refine Sat.seq (Sat.region ?_)
 refine Tr.boxA rfl rfl ?_
 intro n2 hn2 hf2
 refine Tr.a rfl rfl rfl ?_
 refine Tr.nil (Aa (Sat.seq (Sat.region ?_)))
 refine Tr.a rfl rfl rfl ?_
 refine Tr.nil (Aa (Sat.seq (Sat.seq (Sat.region ?_))))
 refine Tr.fld rfl rfl rfl U45 rfl Sz42 dE _ rfl ?_
 refine Tr.load1 rfl rfl rfl U42 rfl mM (by first | exact Kept.get_fVotes (by first | exact oK  | exact hX | exact okr) | exact vL) ?_
 refine Tr.lenSl rfl rfl rfl U42 ?_
 refine Tr.m rfl rfl rfl ?_
 refine Tr.nil (Aa (Sat.block ?_))
 refine Sat.loop (ι := Nat × Sl × List Blk × Nat × List Vote) (fun v => ⟨[(1, u64 h), (5, v.2.1.v), (9, X.fVotes.v), (10, i64 (X.fVotes.n : Int)), (11, i64 (v.1 : Int))], (v.2.2.1 ++ [])⟩) (fun v => v.1 ≤ X.fVotes.n ∧ v.2.2.2.1 ≤ v.1 ∧ OwnSeq Vote.cells 132 VoteIs 29 v.2.1 v.2.2.1 [] v.2.2.2.2 ((ds.take v.1).filter (eqV h)) v.2.2.2.1) (fun v => X.fVotes.n - v.1) ((0, Sl.nil, [], 0, [])) ?_ ?_ ?_
 · exact ⟨Nat.zero_le _, Nat.le_refl _, OwnSeq.none⟩
 · exact Ah (wk1 rfl (wk1 rfl (wk1 rfl (wk1 rfl (wk1 rfl wk0))))) (pm_none Af)
 ·
  rintro v ⟨hv1, hv2, hov⟩
  refine Sat.seq (Sat.region ?_)
  refine Tr.lss rfl rfl rfl rfl rfl ?_
  refine Tr.nil (Aa (Sat.seq ?_))
  first
   | refine Sat.condP rfl (fun hc0 => ?_) (fun hc0 => ?_)
   | refine Sat.condNP rfl (fun hc0 => ?_) (fun hc0 => ?_)
   | refine Sat.cond rfl (fun hc0 => ?_) (fun hc0 => ?_)
  ·
   have hk2 : v.1 < X.fVotes.n := by omega
   obtain ⟨b, o, r, d, hsp, hr, hd, his, hlen, hsee⟩ := hs.at dE hk2
   have okr := his.ok
   obtain rfl := his.eq
   refine Sat.skip (Aa ?_)
   refine Sat.join (ι := Nat × Sl × List Blk × Nat × List Vote) (fun j => ⟨[(1, u64 h), (5, j.2.1.v), (9, X.fVotes.v), (10, i64 (X.fVotes.n : Int)), (11, i64 (v.1 : Int))], (j.2.2.1 ++ [])⟩) (fun j => j.2.2.2.1 ≤ v.1 + 1 ∧ OwnSeq Vote.cells 132 VoteIs 29 j.2.1 j.2.2.1 [] j.2.2.2.2 ((ds.take (v.1 + 1)).filter (eqV h)) j.2.2.2.1) ?_ ?_
   ·
    refine Sat.block (Sat.seq ?_)
    refine Sat.region ?_
    refine Tr.idxSlP 132 rfl rfl rfl hsp rfl U42 Bw v.1 rfl oM ?_
    refine Tr.loadEN r.cells rfl rfl rfl U29 rfl Bw sP hlen hsee ?_
    refine Tr.alloc (cs := Vote.zero.cells) rfl Vote.zr rfl ?_
    intro n7 hn7 hf7
    refine Tr.sA rfl rfl rfl rfl (Vote.isCell (by first | exact oK  | exact hX | exact okr)) Bw (Vote.length (by first | exact oK  | exact hX | exact okr)) mM (Vote.length (by first | exact oK  | exact hX | exact okr)) uU ?_
    refine Tr.nil (Aa (Sat.seq (Sat.region ?_)))
    refine Tr.fld rfl rfl rfl U29 rfl B4 dE _ rfl ?_
    refine Tr.load1 rfl rfl rfl U22 rfl mM (by first | exact Vote.get_fHeight (by first | exact oK  | exact hX | exact okr) | exact vL) ?_
    refine Tr.m rfl rfl rfl ?_
    refine Tr.eqi rfl rfl rfl rfl rfl ?_
    refine Tr.nil (Aa ?_)
    first
     | refine Sat.condP rfl (fun hc1 => ?_) (fun hc1 => ?_)
     | refine Sat.condNP rfl (fun hc1 => ?_) (fun hc1 => ?_)
     | refine Sat.cond rfl (fun hc1 => ?_) (fun hc1 => ?_)
    ·
     refine Sat.region ?_
     refine Tr.m rfl rfl rfl ?_
     refine Tr.lA rfl rfl rfl U29 rfl Bw mM (Vote.length (by first | exact oK  | exact hX | exact okr)) ?_
     refine Tr.mkRow2 (z := agg Vote.zero.cells) [agg r.cells] r.cells rfl rfl U42 Bw Vote.zr rfl rfl (by intro v hv; rw [List.mem_singleton.1 hv]; exact Vote.length okr) dE (by simp [Value.cells]) ?_
     intro q21
     refine Tr.appendAcc (z := agg Vote.zero.cells) (by' := 160) (r.cells) rfl rfl rfl rfl rfl U42 U42 Bw Vote.zr (by unfold By; kernel_rfl) rfl hov.acc sG (fun w h => SeesP.of (As h mM)) (fun e => by cases e) (Vote.isCell okr) oM oM (by rw [Vote.length okr]) ?_
     intro s22 bl22 hac22
     refine Tr.a rfl rfl rfl ?_
     refine Tr.nil (Bs (Aa ?_))
     first
      | exact ⟨(v.1, s22, bl22, v.2.2.2.1 + 1, v.2.2.2.2 ++ [r]), ⟨by simp only []; omega, by simp only [filt_yes hd (show eqV h r = true from decide_eq_true hc1)]; exact hov.snoc (bl3 := []) hac22 (Vote.length okr) (fun W2 _ => ⟨his.ok, rfl, his.wf⟩)⟩, Ah (wk1 rfl (wk1 rfl (wk1 rfl (wk1 rfl (wk1 rfl wk0))))) (Ac sG Af)⟩
      | exact ⟨(v.1, v.2.1, v.2.2.1, v.2.2.2.1, v.2.2.2.2), ⟨by simp only []; omega, by simp only [filt_no hd (show eqV h r = false from decide_eq_false hc1)]; exact hov⟩, Ah (wk1 rfl (wk1 rfl (wk1 rfl (wk1 rfl (wk1 rfl wk0))))) (Ac sG Af)⟩
    ·
     refine Sat.skip (Bs (Aa ?_))
     first
      | exact ⟨(v.1, s22, bl22, v.2.2.2.1 + 1, v.2.2.2.2 ++ [r]), ⟨by simp only []; omega, by simp only [filt_yes hd (show eqV h r = true from decide_eq_true hc1)]; exact hov.snoc (bl3 := []) hac22 (Vote.length okr) (fun W2 _ => ⟨his.ok, rfl, his.wf⟩)⟩, Ah (wk1 rfl (wk1 rfl (wk1 rfl (wk1 rfl (wk1 rfl wk0))))) (Ac sG Af)⟩
      | exact ⟨(v.1, v.2.1, v.2.2.1, v.2.2.2.1, v.2.2.2.2), ⟨by simp only []; omega, by simp only [filt_no hd (show eqV h r = false from decide_eq_false hc1)]; exact hov⟩, Ah (wk1 rfl (wk1 rfl (wk1 rfl (wk1 rfl (wk1 rfl wk0))))) (Ac sG Af)⟩
   ·
    intro j hj
    skip
    refine Sat.region ?_
    refine Tr.aI rfl rfl rfl rfl oM ?_
    refine Tr.m rfl rfl rfl ?_
    refine Tr.nil (Aa ?_)
    exact ⟨(v.1 + 1, j.2.1, j.2.2.1, j.2.2.2.1, j.2.2.2.2), ⟨by simp only []; omega, by have := hj.1; simp only []; omega, hj.2⟩, by simp only []; omega, Ah (wk1 rfl (wk1 rfl (wk1 rfl (wk1 rfl (wk1 (by rw [Int.natCast_add]; rfl) wk0))))) (Ac sG Af)⟩
  ·
   have hve : v.1 = X.fVotes.n := by omega
   refine Sat.exit (A7 (A7 (bl_h (Aa (Sat.seq (Sat.region ?_))))))
   refine Tr.m rfl rfl rfl ?_
   refine Tr.a rfl rfl rfl ?_
   refine Tr.nil (Aa (Sat.ret (Ak ?_)))
   refine Aj (out := (v.2.2.1 ++ [])) (Ae rfl rfl) (Ac sG Af) ?_
   rw [List.take_of_length_le oM] at hov
   have hnn := hov.nd
   rw [← hnn] at hov
   exact ⟨v.2.1, v.2.2.2.2, rfl, by simpa using hov⟩

theorem record_size (X : Record) (d : DRecord) (hsm : d.dData.length ≤ 100000) : Meets Tryz.prog 46 [agg X.cells] [] (fun W => RecordIs W X d) (fun v out => v = i64 (recSz d : Int) ∧ out = []) := by
 intro W hW
 have hlen := hW.fData.len
 have hz10 := Bb (UInt64.ofNat X.fData.n).toNat
 have ho10 := Br (n := X.fData.n) oM
 refine Ai Tryz.func46 rfl 18 Tryz.ntmps46 rfl ?_
 refine Sat.seq (Sat.region ?_)
 refine Tr.boxA rfl rfl ?_
 intro n1 hn1 hf1
 refine Tr.a rfl rfl rfl ?_
 refine Tr.nil (Aa (Sat.seq (Sat.seq (Sat.region ?_))))
 refine Tr.lA rfl rfl rfl U32 rfl B1 mM (Record.length (by first | exact oK  | exact hW.ok)) ?_
 refine Tr.cV rfl rfl rfl rfl Body77 (record_check X d) (fun w h => hW.ext h rfl) ?_
 refine Tr.nei rfl rfl rfl rfl rfl ?_
 refine Tr.nil (Aa ?_)
 first
  | refine Sat.condP rfl (fun hc0 => ?_) (fun hc0 => ?_)
  | refine Sat.condNP rfl (fun hc0 => ?_) (fun hc0 => ?_)
  | refine Sat.cond rfl (fun hc0 => ?_) (fun hc0 => ?_)
 ·
  have hcz : ¬ d.check = 0 := by omega
  refine Sat.seq (Sat.region ?_)
  refine Tr.a rfl rfl rfl ?_
  refine Tr.nil (Aa (Sat.ret (Ao (Ak ?_))))
  refine ⟨_, [], Ae rfl rfl, sP, sP, ?_, rfl⟩
  first
   | (rw [recSz, if_neg hcz]; rfl)
   | (rw [recSz, if_pos hcz]; simp only [Br (n := X.fData.n) oM, hlen]; congr 1; omega)
 ·
  have hcz : d.check = 0 := by omega
  refine Sat.skip (Aa (Sat.seq ?_))
  refine Sat.draw [(0, 0), (1, 1), (0, 2), (0, 3), (0, 7), (1, 8), (0, 9), (3, 4), (0, 5), (0, 6), (0, 10), (0, 11), (0, 12)] Bz zK ?_
  refine Tr.fld rfl rfl rfl U32 rfl Sz30 dE _ rfl ?_
  refine Tr.load1 rfl rfl rfl U30 rfl mM (by first | exact Record.get_fData (by first | exact oK  | exact hW.ok) | exact vL) ?_
  refine Tr.lenSl rfl rfl rfl U30 ?_
  refine Tr.conv rfl rfl rfl U3 U22 (Bo _) ?_
  refine Tr.fld rfl rfl rfl U32 rfl Sz30 dE _ rfl ?_
  refine Tr.load1 rfl rfl rfl U30 rfl mM (by first | exact Record.get_fData (by first | exact oK  | exact hW.ok) | exact vL) ?_
  refine Tr.lenSl rfl rfl rfl U30 ?_
  rw [word_nat (n := X.fData.n) oM]
  refine Tr.call rfl rfl rfl rfl Body80 (oct_Number none 0 0 [] (UInt64.ofNat X.fData.n) rfl (fun _ => rfl) oM) (FreshRow.loose _ _ _ _) (fun w h => SeesP.nil) ?_
  rintro v10 out10 ⟨q10, c10, rfl, hc10, rfl⟩
  refine Tr.lenSl rfl rfl rfl U30 ?_
  refine Tr.aI rfl rfl rfl rfl oM ?_
  refine Tr.aI rfl rfl rfl rfl oM ?_
  refine Tr.aI rfl rfl rfl rfl oM ?_
  refine Tr.a rfl rfl rfl ?_
  refine Tr.nil (Aa (Sat.ret (Ak ?_)))
  refine ⟨_, [], Ae rfl rfl, sP, sP, ?_, rfl⟩
  first
   | (rw [recSz, if_neg hcz]; rfl)
   | (rw [recSz, if_pos hcz]; simp only [Br (n := X.fData.n) oM, hlen]; congr 1; omega)

theorem keep_size (s : Sl) (ds : List DRecord) (hsn : s.n ≤ 1000) (hsm : ∀ d ∈ ds, d.dData.length ≤ 100000) : Meets Tryz.prog 13 [s.v] [] (fun W => RecordsAt W s ds) (fun v out => v = i64 (recsSz ds : Int) ∧ out = []) := by
 intro W hW
 obtain ⟨rs, hs⟩ := hW
 have hnd := hs.nd
 have hle := fun k => recsSz_le (ds.take k) (fun d hd => hsm d (List.mem_of_mem_take hd))
 have hlt : ∀ k, (ds.take k).length ≤ 1000 := fun k => by rw [List.length_take]; omega
 refine Ai Tryz.func13 rfl 18 Tryz.ntmps13 rfl ?_
 refine Sat.seq (Sat.region ?_)
 refine Tr.a rfl rfl rfl ?_
 refine Tr.nil (Aa (Sat.seq (Sat.region ?_)))
 refine Tr.a rfl rfl rfl ?_
 refine Tr.nil (Aa (Sat.seq (Sat.seq (Sat.region ?_))))
 refine Tr.m rfl rfl rfl ?_
 refine Tr.lenSl rfl rfl rfl U48 ?_
 refine Tr.m rfl rfl rfl ?_
 refine Tr.nil (Aa (Sat.block ?_))
 refine Sat.loop (ι := Nat) (fun k => ⟨[(3, i64 (recsSz (ds.take k) : Int)), (6, s.v), (7, i64 (s.n : Int)), (8, i64 (k : Int))], []⟩) (fun k => k ≤ s.n) (fun k => s.n - k) (0) ?_ ?_ ?_
 · exact Nat.zero_le _
 · exact Ap (wk1 rfl (wk1 rfl (wk1 rfl (wk1 rfl wk0)))) wh0 nD
 ·
  rintro k hi
  refine Sat.seq (Sat.region ?_)
  refine Tr.lss rfl rfl rfl rfl rfl ?_
  refine Tr.nil (Aa (Sat.seq ?_))
  first
   | refine Sat.condP rfl (fun hc0 => ?_) (fun hc0 => ?_)
   | refine Sat.condNP rfl (fun hc0 => ?_) (fun hc0 => ?_)
   | refine Sat.cond rfl (fun hc0 => ?_) (fun hc0 => ?_)
  ·
   have hk2 : k < s.n := by omega
   obtain ⟨b, o, r, d, hsp, hr, hd, his, hlen, hsee⟩ := hs.at dE hk2
   refine Sat.skip (Aa (Sat.seq (Sat.block (Sat.seq (Sat.region ?_)))))
   refine Tr.idxSlP 2 rfl rfl rfl hsp rfl U48 B1 k rfl oM ?_
   refine Tr.loadEN r.cells rfl rfl rfl U32 rfl B1 sP hlen hsee ?_
   refine Tr.alloc (cs := Record.zero.cells) rfl Record.zr rfl ?_
   intro n5 hn5 hf5
   refine Tr.sA rfl rfl rfl rfl (Record.isCell (by first | exact oK  | exact his.ok)) B1 (Record.length (by first | exact oK  | exact his.ok)) mM (Record.length (by first | exact oK  | exact his.ok)) uU ?_
   refine Tr.nil (Aa (Sat.region ?_))
   refine Tr.m rfl rfl rfl ?_
   refine Tr.lA rfl rfl rfl U32 rfl B1 mM (Record.length (by first | exact oK  | exact his.ok)) ?_
   refine Tr.cV rfl rfl rfl rfl Body46 (record_size r d (hsm d (List.mem_of_getElem? hd))) (fun w h => his.ext h rfl) ?_
   have hb1 := hle k
   have hb2 := hlt k
   have hb3 := recSz_le (hsm d (List.mem_of_getElem? hd))
   refine Tr.aI rfl rfl rfl rfl oM ?_
   refine Tr.a rfl rfl rfl ?_
   refine Tr.nil (Bs (Aa (Sat.region ?_)))
   refine Tr.aI rfl rfl rfl rfl oM ?_
   refine Tr.m rfl rfl rfl ?_
   refine Tr.nil (Aa ?_)
   exact ⟨k + 1, by omega, by omega, Ap (wk1 (by rw [recsSz_step hd, Int.natCast_add]; rfl) (wk1 rfl (wk1 rfl (wk1 (by rw [Int.natCast_add]; rfl) wk0)))) wh0 nD⟩
  ·
   have hke : k = s.n := by omega
   refine Sat.exit (A7 (A7 (bl_h (Aa (Sat.seq (Sat.region ?_))))))
   refine Tr.m rfl rfl rfl ?_
   refine Tr.a rfl rfl rfl ?_
   refine Tr.nil (Aa (Sat.ret (Ak ?_)))
   refine ⟨_, [], Ae rfl rfl, sP, sP, ?_, rfl⟩
   rw [hke, List.take_of_length_le oM]

end Go.Proofs.YtkfhpmidcbmofaaGreat
end

section
namespace Go.Proofs.YtkfhpmidcbmofaaGreat
open Go Hw

theorem good_of {D : DKept} (h : D.check = 0) : D.good = true := by
  by_cases hg : D.good = true
  · exact hg
  · rw [DKept.check, if_neg hg] at h; cases h
theorem Av {D : DKept} (h : D.check = 0) : A1 D = (⟨D.dBlocks, D.dCerts, D.dVotes.filter (gtV D.dCerts.length), D.dCuts.filter (gtC D.dCerts.length)⟩, 0) := by rw [A1, if_pos h]
theorem need_check {D : DKept} (h : D.check = 0) : (A1 D).1.check = 0 := by
  have hg := good_of h
  rw [Av h, DKept.check, if_pos]
  simp only [DKept.good, Bool.and_eq_true, List.all_eq_true] at hg ⊢
  exact ⟨hg.1, hg.2.1, fun d hd => hg.2.2.1 d (List.mem_filter.1 hd).1, fun d hd => hg.2.2.2.1 d (List.mem_filter.1 hd).1, hg.2.2.2.2⟩
theorem need_twice {D : DKept} (h : D.check = 0) : A1 (A1 D).1 = ((A1 D).1, 0) := by
  rw [Av (need_check h), Av h]
  simp [List.filter_filter]
theorem stg_ok {D : Type} {f : D → DRecord × Int} {ds : List D} {q : List DRecord × Int} (h : (stg f ds q).2 = 0) : q.2 = 0 ∧ (stg f ds q).1 = q.1 ++ putD f ds := by
  unfold stg at h ⊢
  by_cases h1 : q.2 = 0
  · rw [if_pos h1] at h ⊢
    by_cases h2 : putE f ds = 0
    · rw [if_pos h2]; exact ⟨h1, rfl⟩
    · rw [if_neg h2] at h; exact absurd h h2
  · rw [if_neg h1] at h; exact absurd h h1
theorem recs_list {D : DKept} (h : (recsRd D).2 = 0) : (recsRd D).1 = ((([] ++ putD (fun X : DCert => Bu 2 (certBy X) (DCert.check X)) D.dCerts) ++ putD (fun X : DB => Bu 1 (blockBy X) (DB.check X)) D.dBlocks) ++ putD (fun X : DCut => Bu 4 (cutR X) (DCut.check X)) D.dCuts) ++ putD (fun X : Vote => Bu 3 (Be X) (Bp X)) D.dVotes := by
  obtain ⟨h1, e1⟩ := stg_ok h
  obtain ⟨h2, e2⟩ := stg_ok h1
  obtain ⟨h3, e3⟩ := stg_ok h2
  obtain ⟨h4, e4⟩ := stg_ok h3
  rw [show (recsRd D).1 = _ from e1, show (rsC D).1 = _ from e2, show (rsB D).1 = _ from e3, show (rsE D).1 = _ from e4]
theorem recsSz_app (a b : List DRecord) : recsSz (a ++ b) = recsSz a + recsSz b := by simp [recsSz]
theorem recsSz_filter {D : Type} (f : D → DRecord × Int) (F : D → Bool) : ∀ ds : List D, recsSz (putD f (ds.filter F)) ≤ recsSz (putD f ds)
  | [] => Nat.le_refl _
  | d :: l => by
    have ih := recsSz_filter f F l
    have e : recsSz (putD f (d :: l)) = recSz (f d).1 + recsSz (putD f l) := by simp [recsSz, putD]
    rw [e, List.filter_cons]
    split
    · have e2 : recsSz (putD f (d :: l.filter F)) = recSz (f d).1 + recsSz (putD f (l.filter F)) := by simp [recsSz, putD]
      rw [e2]; omega
    · omega
theorem need_size {D : DKept} (h : D.check = 0) (h1 : (recsRd (A1 D).1).2 = 0) (h2 : (recsRd D).2 = 0) : recsSz (recsRd (A1 D).1).1 ≤ recsSz (recsRd D).1 := by
  rw [recs_list h1, recs_list h2, Av h]
  simp only [recsSz_app]
  have a := recsSz_filter (fun X : DCut => Bu 4 (cutR X) (DCut.check X)) (gtC D.dCerts.length) D.dCuts
  have b := recsSz_filter (fun X : Vote => Bu 3 (Be X) (Bp X)) (gtV D.dCerts.length) D.dVotes
  omega
theorem said_more {n : Nat} {h : UInt64} (hn : n < h.toNat) (ds : List Vote) : (ds.filter (gtV n)).filter (eqV h) = ds.filter (eqV h) := by
  rw [List.filter_filter]
  refine List.filter_congr fun V _ => ?_
  by_cases e : eqV h V = true
  · have := of_decide_eq_true e
    rw [e, show gtV n V = true from decide_eq_true oM]; rfl
  · have e' : eqV h V = false := by simpa using e
    rw [e']; rfl
theorem said_none {n : Nat} {h : UInt64} (hn : h.toNat ≤ n) (ds : List Vote) : (ds.filter (gtV n)).filter (eqV h) = [] := by
  rw [List.filter_eq_nil_iff]
  intro V hV e
  have h1 := of_decide_eq_true (List.mem_filter.1 hV).2
  have h2 := of_decide_eq_true e
  omega
def Lens (X : Kept) (D : DKept) : Prop := D.dBlocks.length = X.fBlocks.n ∧ D.dCerts.length = X.fCerts.n ∧ D.dVotes.length = X.fVotes.n ∧ D.dCuts.length = X.fCuts.n
theorem meets_know {P : Program} {f : FuncId} {args : List Value} {Pre : World → Prop} {R R' : Value → List Blk → Prop} (h : Meets P f args [] Pre R) (hr : ∀ v out w, R v out → Lies out w → R' v out) : Meets P f args [] Pre R' :=
  fun W hW => (h W hW).mono fun e W' ⟨v, out, h1, h2, h3⟩ => ⟨v, out, h1, hr v out W' h2 h3.cells, h3⟩
theorem own_know {D : DKept} (v : Value) (out : List Blk) (w : World) (h : OwnedKept D v out) (hl : Lies out w) : ∃ X : Kept, X.ok ∧ v = agg X.cells ∧ Lens X D ∧ ∀ W2, Lies out W2 → KeptIs W2 X D := by
  obtain ⟨X, ok, e, hx⟩ := h
  exact ⟨X, ok, e, kept_lens (hx w hl), hx⟩
theorem need_know {D : DKept} (v : Value) (out : List Blk) (w : World) (h : NeedR D v out) (hl : Lies out w) : ∃ Y : Kept, Y.ok ∧ v = .tuple #[agg Y.cells, i64 (A1 D).2] ∧ Lens Y (A1 D).1 ∧ ∀ W2, Lies out W2 → KeptIs W2 Y (A1 D).1 := by
  obtain ⟨X, ok, e, hx⟩ := h
  exact ⟨X, ok, e, kept_lens (hx w hl), hx⟩
theorem need_mid {D : DKept} (h : D.check = 0) (m : MidK D) : MidK (A1 D).1 := by
  rw [Av h]
  exact ⟨m.blocks, m.certs, fun d hd => m.cuts d (List.mem_filter.1 hd).1⟩
theorem Ay {D : DKept} (h : D.light 12 = true) : MidK D := by
  simp only [DKept.light, lightOf, lightBf, lightCf, lightEf, Bool.and_eq_true, decide_eq_true_eq, Bool.not_eq_true', decide_eq_false_iff_not, List.all_eq_true] at h
  obtain ⟨⟨h3, h4⟩, ⟨h8, h9⟩, h5, ⟨h6, h7⟩⟩ := h
  exact ⟨fun d hd => by have := h4 d hd; omega, fun d hd => by have := h9 d hd; omega, fun d hd => by have := h7 d hd; omega⟩

end Go.Proofs.YtkfhpmidcbmofaaGreat
end

section
namespace Go.Proofs.YtkfhpmidcbmofaaGreat
open Go Hw

theorem recOf_small (K : UInt8) (bs : List UInt8) (chk : Int) : (Bu K bs chk).1.dData.length ≤ 100000 := by
  unfold Bu
  split
  · split
    · rename_i h
      unfold DRecord.check at h
      split at h
      · cases h
      · rename_i h3; simp only [not_or] at h3; dsimp only at h3 ⊢; omega
    · exact Nat.zero_le _
  · exact Nat.zero_le _
theorem putD_small {D : Type} {f : D → DRecord × Int} (hf : ∀ d, (f d).1.dData.length ≤ 100000) {ds : List D} : ∀ r ∈ putD f ds, r.dData.length ≤ 100000 := fun r hr => by
  obtain ⟨d, _, rfl⟩ := List.mem_map.1 hr
  exact hf d
theorem recs_small {D : DKept} (h : (recsRd D).2 = 0) : ∀ r ∈ (recsRd D).1, r.dData.length ≤ 100000 := fun r hr => by
  rw [recs_list h] at hr
  simp only [List.nil_append, List.mem_append] at hr
  rcases hr with ((hr | hr) | hr) | hr <;> exact putD_small (fun d => recOf_small _ _ _) r hr
theorem recs_len {D : DKept} (h : (recsRd D).2 = 0) : (recsRd D).1.length = D.dCerts.length + D.dBlocks.length + D.dCuts.length + D.dVotes.length := by
  rw [recs_list h]; simp [putD]; omega
theorem votes_ok2 {W : World} {s : Sl} {rs ds : List Vote} (h : SeqIs Vote.cells 132 VoteIs W s rs ds) : ∀ d ∈ ds, d.ok ∧ (Lit.int .i64 d.fPhase).wf = true := fun d hd => by
  obtain ⟨i, hi⟩ := List.getElem?_of_mem hd
  obtain ⟨b, o, r, d', hp, hr, hd', hI, _⟩ := h.at dE (show i < s.n by rw [← h.nd]; exact (List.getElem?_eq_some_iff.1 hi).1)
  rw [hi] at hd'; cases hd'
  have e := hI.eq
  exact ⟨by rw [← e]; exact hI.ok, hI.wf⟩
theorem cuts_here {C : Cx} {hp : List Blk} {w : World} {s : Sl} {rs : List Cut} {ds : List DCut} (h : HRep C hp w) (hl : C.lent = []) (hs : SeqIs Cut.cells 34 (fun _ r d => CutIs C.W0 r d) w s rs ds) : SeqIs Cut.cells 34 CutIs w s rs ds :=
  ⟨hs.nr, hs.nd, fun i r d h1 h2 => (hs.is i r d h1 h2).ext h hl, hs.len, hs.cap, hs.see, hs.max, hs.nil⟩
theorem need_small {D : DKept} (h : D.check = 0) (m : MidK D) : (A1 D).1.small := by
  rw [Av h]
  exact ⟨fun d hd => by have := m.blocks d hd; dsimp only at hd; omega, fun d hd => by have := m.certs d hd; omega, fun d hd => by have := m.cuts d (List.mem_filter.1 hd).1; omega⟩
theorem B9 (l : List Vote) : sameL sameV l l = true := Aq sameV_self l

theorem law_keepneeds (X : Kept) (D : DKept) (h0 : UInt64) : Meets Tryz.prog 4 [agg X.cells, u64 h0] [] (fun W => KeptIs W X D) (fun v out => v = .bool true ∧ out = []) := by
 intro W hW
 have hX := hW.ok
 obtain ⟨l1, l2, l3, l4⟩ := kept_lens hW
 obtain ⟨rsV_, hV⟩ := hW.fVotes
 obtain ⟨rsC_, hC⟩ := hW.fCuts
 obtain ⟨w0, hw0⟩ : ∃ w, A8 (X.fCerts.n : Int) = w := ⟨_, rfl⟩
 refine Ai Tryz.func4 rfl 177 Tryz.ntmps4 rfl ?_
 refine Sat.seq (Sat.region ?_)
 refine Tr.boxA rfl rfl ?_
 intro n2 hn2 hf2
 refine Tr.a rfl rfl rfl ?_
 refine Tr.nil (Aa (Sat.seq (Sat.seq (Sat.region ?_))))
 refine Tr.cV rfl rfl rfl rfl Body11 (law26_lives) tV ?_
 refine Tr.not rfl rfl rfl ?_
 refine Tr.nil (Aa ?_)
 refine Sat.cond_f rfl (rfl) ?_
 refine Sat.skip (Aa (Sat.seq (Sat.seq (Sat.region ?_))))
 refine Tr.lA rfl rfl rfl U45 rfl Sz45 mM (Kept.length (by first | exact oK  | exact hX | exact ok27 | exact ok43 | exact okr | exact Kept.zero_ok)) ?_
 refine Tr.cV rfl rfl rfl rfl Body16 (light_kept X D 12) (fun w h => hW.ext h rfl) ?_
 refine Tr.not rfl rfl rfl ?_
 refine Tr.nil (Aa ?_)
 refine Sat.cond rfl (fun hc1 => ?_) (fun hc1 => ?_)
 ·
  skip
  refine Sat.seq (Sat.region ?_)
  refine Tr.a rfl rfl rfl ?_
  refine Tr.nil (Aa (Sat.ret (Ao (Ak ?_))))
  refine ⟨_, [], Ae rfl rfl, sP, sP, ?_, rfl⟩
  rfl
 ·
  have hs3_1 : D.light 12 = true := by simpa using hc1
  refine Sat.skip (Aa (Sat.seq (Sat.region ?_)))
  refine Tr.lA rfl rfl rfl U45 rfl Sz45 mM (Kept.length (by first | exact oK  | exact hX | exact ok27 | exact ok43 | exact okr | exact Kept.zero_ok)) ?_
  refine Tr.call4 rfl rfl rfl rfl rfl Body17 (meets_know (kit_own_kept X D hs3_1) own_know) (fun w h => hW.ext h rfl) ?_
  rintro v26 out26 ⟨X26, ok26, rfl, l26, h26⟩
  have hsm := lightk_small hs3_1
  have g1 := hsm.nB
  have g2 := hsm.nE
  have g3 := hsm.nV
  have g4 := hsm.nC
  have hw1 : w0.toNat = X.fCerts.n := by rw [← hw0, word_nat oM, Br oM]
  refine Tr.call4 rfl rfl rfl rfl rfl Body9 (meets_know (keep_needed X26 D ok26 (Ay hs3_1) (by rw [← l26.1]; omega) (by rw [← l26.2.1]; omega) (by rw [← l26.2.2.1]; omega) (by rw [← l26.2.2.2]; omega)) need_know) (fun w h => h26 w (Lies.of h iN)) ?_
  rintro v27 out27 ⟨Y27, ok27, rfl, l27, h27⟩
  refine Tr.m rfl rfl rfl ?_
  refine Tr.eX rfl rfl rfl rfl ?_
  refine Tr.eX rfl rfl rfl rfl ?_
  refine Tr.alloc (cs := Kept.zero.cells) rfl Kept.zr rfl ?_
  intro n5 hn5 hf5
  refine Tr.sA rfl rfl rfl rfl (Kept.isCell (by first | exact oK  | exact hX | exact ok27 | exact ok43 | exact okr | exact Kept.zero_ok)) Sz45 (Kept.length (by first | exact oK  | exact hX | exact ok27 | exact ok43 | exact okr | exact Kept.zero_ok)) mM (Kept.length (by first | exact oK  | exact hX | exact ok27 | exact ok43 | exact okr | exact Kept.zero_ok)) uU ?_
  refine Tr.a rfl rfl rfl ?_
  refine Tr.nil (Aa (Sat.seq (Sat.seq (Sat.region ?_))))
  refine Tr.m rfl rfl rfl ?_
  refine Tr.nei rfl rfl rfl rfl rfl ?_
  refine Tr.nil (Aa ?_)
  first
   | refine Sat.condP rfl (fun hc2 => ?_) (fun hc2 => ?_)
   | refine Sat.condNP rfl (fun hc2 => ?_) (fun hc2 => ?_)
   | refine Sat.cond rfl (fun hc2 => ?_) (fun hc2 => ?_)
  ·
   have hcn : ¬ D.check = 0 := fun e => by rw [Av e] at hc2; exact hc2 rfl
   refine Sat.seq (Sat.region ?_)
   refine Tr.m rfl rfl rfl ?_
   refine Tr.lA rfl rfl rfl U45 rfl Sz45 mM (Kept.length (by first | exact oK  | exact hX | exact ok27 | exact ok43 | exact okr | exact Kept.zero_ok)) ?_
   refine Tr.cV rfl rfl rfl rfl Body14 (keep_check X D) (fun w h => hW.ext h rfl) ?_
   refine Tr.eqi rfl rfl rfl rfl (decide_eq_true (by rw [A1, if_neg hcn])) ?_
   refine Tr.m rfl rfl rfl ?_
   refine Tr.lA rfl rfl rfl U45 rfl Sz45 mM (Kept.length (by first | exact oK  | exact hX | exact ok27 | exact ok43 | exact okr | exact Kept.zero_ok)) ?_
   refine Tr.build (cs := Kept.zero.cells) rfl rfl rfl (fun w => by kernel_rfl) ?_
   refine Tr.cV rfl rfl rfl rfl Body18 (Bl Y27 Kept.zero dkz dkz_small) (fun w h => ⟨by have := h27 w (Lies.of h iN); rwa [A1, if_neg hcn] at this, keptz_is w⟩) ?_
   refine Tr.pick rfl rfl rfl rfl rfl rfl ?_
   refine Tr.a rfl rfl rfl ?_
   refine Tr.nil (Aa (Sat.ret (Ao (Ak ?_))))
   refine ⟨_, [], Ae rfl rfl, sP, sP, ?_, rfl⟩
   rfl
  ·
   have hcz : D.check = 0 := by
    by_cases e : D.check = 0
    · exact e
    · rw [A1, if_neg e] at hc2; dsimp only at hc2; omega
   refine Sat.skip (Aa (Sat.seq (Sat.region ?_)))
   have hN0 : (A1 D).2 = 0 := by rw [Av hcz]
   have hNt := need_twice hcz
   have hNm := need_mid hcz (Ay hs3_1)
   obtain ⟨y1, y2, y3, y4⟩ := l27
   have z1 : (A1 D).1.dBlocks.length ≤ 12 := by rw [Av hcz]; exact g1
   have z2 : (A1 D).1.dCerts.length ≤ 12 := by rw [Av hcz]; exact g2
   have z3 : (A1 D).1.dVotes.length ≤ 12 := by rw [Av hcz]; exact Nat.le_trans (List.length_filter_le _ _) g3
   have z4 : (A1 D).1.dCuts.length ≤ 12 := by rw [Av hcz]; exact Nat.le_trans (List.length_filter_le _ _) g4
   refine Tr.lA rfl rfl rfl U45 rfl Sz45 mM (Kept.length (by first | exact oK  | exact hX | exact ok27 | exact ok43 | exact okr | exact Kept.zero_ok)) ?_
   refine Tr.call4 rfl rfl rfl rfl rfl Body9 (meets_know (keep_needed Y27 (A1 D).1 ok27 hNm oM oM oM oM) need_know) (fun w h => h27 w (Lies.of h iN)) ?_
   rintro v43 out43 ⟨Z43, ok43, rfl, l43, h43⟩
   rw [hNt] at l43 h43 ⊢
   refine Tr.m rfl rfl rfl ?_
   refine Tr.eX rfl rfl rfl rfl ?_
   refine Tr.eX rfl rfl rfl rfl ?_
   refine Tr.alloc (cs := Kept.zero.cells) rfl Kept.zr rfl ?_
   intro n7 hn7 hf7
   refine Tr.sA rfl rfl rfl rfl (Kept.isCell (by first | exact oK  | exact hX | exact ok27 | exact ok43 | exact okr | exact Kept.zero_ok)) Sz45 (Kept.length (by first | exact oK  | exact hX | exact ok27 | exact ok43 | exact okr | exact Kept.zero_ok)) mM (Kept.length (by first | exact oK  | exact hX | exact ok27 | exact ok43 | exact okr | exact Kept.zero_ok)) uU ?_
   refine Tr.a rfl rfl rfl ?_
   refine Tr.nil (Aa (Sat.seq (Sat.region ?_)))
   refine Tr.fld rfl rfl rfl U45 rfl Sz41 dE _ rfl ?_
   refine Tr.load1 rfl rfl rfl U41 rfl mM (by first | exact Kept.get_fCerts (by first | exact oK  | exact hX | exact ok27 | exact ok43 | exact okr | exact Kept.zero_ok) | exact vL) ?_
   refine Tr.lenSl rfl rfl rfl U41 ?_
   refine Tr.conv rfl rfl rfl U3 U22 (Bo _) ?_
   rw [hw0]
   refine Tr.a rfl rfl rfl ?_
   refine Tr.nil (Aa (Sat.seq (Sat.region ?_)))
   refine Tr.a rfl rfl rfl ?_
   refine Tr.nil (Aa (Sat.seq (Sat.seq (Sat.region ?_))))
   refine Tr.a rfl rfl rfl ?_
   refine Tr.nil (Aa (Sat.block ?_))
   refine Sat.loop (ι := Nat × Sl × List Blk × Nat × List Vote) (fun v => ⟨[(1, u64 h0), (2, ptr n2 0), (5, ptr n5 0), (7, ptr n7 0), (8, i64 0), (9, u64 w0), (10, v.2.1.v), (11, i64 (v.1 : Int))], (⟨n7, Z43.cells, 45, 4⟩ :: (⟨n5, Y27.cells, 45, 4⟩ :: (⟨n2, X.cells, 45, X.cells.length⟩ :: (out43 ++ (out27 ++ (v.2.2.1 ++ []))))))⟩) (fun v => v.1 ≤ X.fVotes.n ∧ v.2.2.2.1 ≤ v.1 ∧ OwnSeq Vote.cells 132 VoteIs 29 v.2.1 v.2.2.1 [] v.2.2.2.2 ((D.dVotes.take v.1).filter (gtV X.fCerts.n)) v.2.2.2.1) (fun v => X.fVotes.n - v.1) ((0, Sl.nil, [], 0, [])) ?_ ?_ ?_
   · exact ⟨Nat.zero_le _, Nat.le_refl _, OwnSeq.none⟩
   · exact Ah (wk1 rfl (wk1 rfl (wk1 rfl (wk1 rfl (wk1 rfl (wk1 rfl (wk1 rfl (wk1 rfl wk0)))))))) (Ad rM (Ad rM (Ad rM (Ac sG (Ac sG (pm_none Af))))))
   ·
    rintro v ⟨hv1, hv2, hov⟩
    refine Sat.seq (Sat.seq (Sat.region ?_))
    refine Tr.m rfl rfl rfl ?_
    refine Tr.fld rfl rfl rfl U45 rfl Sz42 dE _ rfl ?_
    refine Tr.load1 rfl rfl rfl U42 rfl mM (by first | exact Kept.get_fVotes (by first | exact oK  | exact hX | exact ok27 | exact ok43 | exact okr | exact Kept.zero_ok) | exact vL) ?_
    refine Tr.lenSl rfl rfl rfl U42 ?_
    refine Tr.lss rfl rfl rfl rfl rfl ?_
    refine Tr.nil (Aa ?_)
    first
     | refine Sat.condP rfl (fun hc3 => ?_) (fun hc3 => ?_)
     | refine Sat.condNP rfl (fun hc3 => ?_) (fun hc3 => ?_)
     | refine Sat.cond rfl (fun hc3 => ?_) (fun hc3 => ?_)
    ·
     have hk2 : v.1 < X.fVotes.n := by omega
     obtain ⟨b, o, r, d, hsp, hr, hd, his, hlen, hsee⟩ := hV.at dE hk2
     have okr := his.ok
     obtain rfl := his.eq
     refine Sat.skip (Aa ?_)
     refine Sat.join (ι := Nat × Sl × List Blk × Nat × List Vote) (fun j => ⟨[(1, u64 h0), (2, ptr n2 0), (5, ptr n5 0), (7, ptr n7 0), (8, i64 0), (9, u64 w0), (10, j.2.1.v), (11, i64 (v.1 : Int))], (⟨n7, Z43.cells, 45, 4⟩ :: (⟨n5, Y27.cells, 45, 4⟩ :: (⟨n2, X.cells, 45, X.cells.length⟩ :: (out43 ++ (out27 ++ (j.2.2.1 ++ []))))))⟩) (fun j => j.2.2.2.1 ≤ v.1 + 1 ∧ OwnSeq Vote.cells 132 VoteIs 29 j.2.1 j.2.2.1 [] j.2.2.2.2 ((D.dVotes.take (v.1 + 1)).filter (gtV X.fCerts.n)) j.2.2.2.1) ?_ ?_
     ·
      refine Sat.block (Sat.seq ?_)
      refine Sat.region ?_
      refine Tr.fld rfl rfl rfl U45 rfl Sz42 dE _ rfl ?_
      refine Tr.load1 rfl rfl rfl U42 rfl mM (by first | exact Kept.get_fVotes (by first | exact oK  | exact hX | exact ok27 | exact ok43 | exact okr | exact Kept.zero_ok) | exact vL) ?_
      refine Tr.m rfl rfl rfl ?_
      refine Tr.idxSlP 132 rfl rfl rfl hsp rfl U42 Bw v.1 rfl oM ?_
      refine Tr.fld rfl rfl rfl U29 rfl B4 dE _ rfl ?_
      refine Tr.loadE rfl rfl rfl U22 rfl (by first | (simp; done) | (simp; exact hW.2.2) | (simp [Cx.with]; done) | (simp [Cx.with]; omega)) (hsee 0 _ (Vote.get_fHeight okr)) ?_
      refine Tr.m rfl rfl rfl ?_
      refine Tr.gtr rfl rfl rfl rfl rfl ?_
      refine Tr.nil (Aa ?_)
      first
       | refine Sat.condP rfl (fun hc4 => ?_) (fun hc4 => ?_)
       | refine Sat.condNP rfl (fun hc4 => ?_) (fun hc4 => ?_)
       | refine Sat.cond rfl (fun hc4 => ?_) (fun hc4 => ?_)
      ·
       refine Sat.region ?_
       refine Tr.m rfl rfl rfl ?_
       refine Tr.fld rfl rfl rfl U45 rfl Sz42 dE _ rfl ?_
       refine Tr.load1 rfl rfl rfl U42 rfl mM (by first | exact Kept.get_fVotes (by first | exact oK  | exact hX | exact ok27 | exact ok43 | exact okr | exact Kept.zero_ok) | exact vL) ?_
       refine Tr.m rfl rfl rfl ?_
       refine Tr.idxSlP 132 rfl rfl rfl hsp rfl U42 Bw v.1 rfl oM ?_
       refine Tr.loadEN r.cells rfl rfl rfl U29 rfl Bw sP hlen hsee ?_
       refine Tr.mkRow2 (z := agg Vote.zero.cells) [agg r.cells] r.cells rfl rfl U42 Bw Vote.zr rfl rfl (by intro v hv; rw [List.mem_singleton.1 hv]; exact Vote.length okr) dE (by simp [Value.cells]) ?_
       intro q71
       refine Tr.appendAcc (z := agg Vote.zero.cells) (by' := 160) (r.cells) rfl rfl rfl rfl rfl U42 U42 Bw Vote.zr (by unfold By; kernel_rfl) rfl hov.acc sG (fun w h => SeesP.of (As h mM)) (fun e => by cases e) (Vote.isCell okr) oM oM (by rw [Vote.length okr]) ?_
       intro s72 bl72 hac72
       refine Tr.a rfl rfl rfl ?_
       refine Tr.nil (Bs (Aa ?_))
       first
        | exact ⟨(v.1, s72, bl72, v.2.2.2.1 + 1, v.2.2.2.2 ++ [r]), ⟨by simp only []; omega, by simp only [filt_yes hd (show gtV X.fCerts.n r = true from decide_eq_true oM)]; exact hov.snoc (bl3 := []) hac72 (Vote.length okr) (fun W2 _ => ⟨his.ok, rfl, his.wf⟩)⟩, Ah (wk1 rfl (wk1 rfl (wk1 rfl (wk1 rfl (wk1 rfl (wk1 rfl (wk1 rfl (wk1 rfl wk0)))))))) (Ad rM (Ad rM (Ad rM (Ac sG (Ac sG (Ac sG Af))))))⟩
        | exact ⟨(v.1, v.2.1, v.2.2.1, v.2.2.2.1, v.2.2.2.2), ⟨by simp only []; omega, by simp only [filt_no hd (show gtV X.fCerts.n r = false from decide_eq_false oM)]; exact hov⟩, Ah (wk1 rfl (wk1 rfl (wk1 rfl (wk1 rfl (wk1 rfl (wk1 rfl (wk1 rfl (wk1 rfl wk0)))))))) (Ad rM (Ad rM (Ad rM (Ac sG (Ac sG (Ac sG Af))))))⟩
      ·
       refine Sat.skip (Bs (Aa ?_))
       first
        | exact ⟨(v.1, s72, bl72, v.2.2.2.1 + 1, v.2.2.2.2 ++ [r]), ⟨by simp only []; omega, by simp only [filt_yes hd (show gtV X.fCerts.n r = true from decide_eq_true oM)]; exact hov.snoc (bl3 := []) hac72 (Vote.length okr) (fun W2 _ => ⟨his.ok, rfl, his.wf⟩)⟩, Ah (wk1 rfl (wk1 rfl (wk1 rfl (wk1 rfl (wk1 rfl (wk1 rfl (wk1 rfl (wk1 rfl wk0)))))))) (Ad rM (Ad rM (Ad rM (Ac sG (Ac sG (Ac sG Af))))))⟩
        | exact ⟨(v.1, v.2.1, v.2.2.1, v.2.2.2.1, v.2.2.2.2), ⟨by simp only []; omega, by simp only [filt_no hd (show gtV X.fCerts.n r = false from decide_eq_false oM)]; exact hov⟩, Ah (wk1 rfl (wk1 rfl (wk1 rfl (wk1 rfl (wk1 rfl (wk1 rfl (wk1 rfl (wk1 rfl wk0)))))))) (Ad rM (Ad rM (Ad rM (Ac sG (Ac sG (Ac sG Af))))))⟩
     ·
      intro j hj
      skip
      refine Sat.region ?_
      refine Tr.m rfl rfl rfl ?_
      refine Tr.aI rfl rfl rfl rfl oM ?_
      refine Tr.a rfl rfl rfl ?_
      refine Tr.nil (Aa ?_)
      exact ⟨(v.1 + 1, j.2.1, j.2.2.1, j.2.2.2.1, j.2.2.2.2), ⟨by simp only []; omega, by have := hj.1; simp only []; omega, hj.2⟩, by simp only []; omega, Ah (wk1 rfl (wk1 rfl (wk1 rfl (wk1 rfl (wk1 rfl (wk1 rfl (wk1 rfl (wk1 (by rw [Int.natCast_add]; rfl) wk0)))))))) (Ad rM (Ad rM (Ad rM (Ac sG (Ac sG (Ac sG Af))))))⟩
    ·
     have hve : v.1 = X.fVotes.n := by omega
     refine Sat.exit (A7 (A7 (bl_h (Aa (Sat.seq (Sat.region ?_))))))
     refine Tr.a rfl rfl rfl ?_
     refine Tr.nil (Aa (Sat.seq (Sat.seq (Sat.region ?_))))
     refine Tr.a rfl rfl rfl ?_
     refine Tr.nil (Aa (Sat.block ?_))
     refine Sat.loop (ι := Nat × Sl × List Blk × Nat × List Cut) (fun u => ⟨[(1, u64 h0), (2, ptr n2 0), (5, ptr n5 0), (7, ptr n7 0), (8, i64 0), (9, u64 w0), (10, v.2.1.v), (12, u.2.1.v), (13, i64 (u.1 : Int))], (⟨n7, Z43.cells, 45, 4⟩ :: (⟨n5, Y27.cells, 45, 4⟩ :: (⟨n2, X.cells, 45, X.cells.length⟩ :: (out43 ++ (out27 ++ (v.2.2.1 ++ (u.2.2.1 ++ [])))))))⟩) (fun u => u.1 ≤ X.fCuts.n ∧ u.2.2.2.1 ≤ u.1 ∧ OwnSeq Cut.cells 34 (fun _ r d => CutIs W r d) 39 u.2.1 u.2.2.1 [] u.2.2.2.2 ((D.dCuts.take u.1).filter (gtC X.fCerts.n)) u.2.2.2.1) (fun u => X.fCuts.n - u.1) ((0, Sl.nil, [], 0, [])) ?_ ?_ ?_
     · exact ⟨Nat.zero_le _, Nat.le_refl _, OwnSeq.none⟩
     · exact Ah (wk1 rfl (wk1 rfl (wk1 rfl (wk1 rfl (wk1 rfl (wk1 rfl (wk1 rfl (wk1 rfl (wk1 rfl wk0))))))))) (Ad rM (Ad rM (Ad rM (Ac sG (Ac sG (Ac sG (pm_none Af)))))))
     ·
      rintro u ⟨hu1, hu2, hou⟩
      refine Sat.seq (Sat.seq (Sat.region ?_))
      refine Tr.m rfl rfl rfl ?_
      refine Tr.fld rfl rfl rfl U45 rfl Sz43 dE _ rfl ?_
      refine Tr.load1 rfl rfl rfl U43 rfl mM (by first | exact Kept.get_fCuts (by first | exact oK  | exact hX | exact ok27 | exact ok43 | exact okr | exact Kept.zero_ok) | exact vL) ?_
      refine Tr.lenSl rfl rfl rfl U43 ?_
      refine Tr.lss rfl rfl rfl rfl rfl ?_
      refine Tr.nil (Aa ?_)
      first
       | refine Sat.condP rfl (fun hc5 => ?_) (fun hc5 => ?_)
       | refine Sat.condNP rfl (fun hc5 => ?_) (fun hc5 => ?_)
       | refine Sat.cond rfl (fun hc5 => ?_) (fun hc5 => ?_)
      ·
       have hk2 : u.1 < X.fCuts.n := by omega
       obtain ⟨b, o, r, d, hsp, hr, hd, his, hlen, hsee⟩ := hC.at dE hk2
       have okr := his.ok
       refine Sat.skip (Aa ?_)
       refine Sat.join (ι := Nat × Sl × List Blk × Nat × List Cut) (fun j => ⟨[(1, u64 h0), (2, ptr n2 0), (5, ptr n5 0), (7, ptr n7 0), (8, i64 0), (9, u64 w0), (10, v.2.1.v), (12, j.2.1.v), (13, i64 (u.1 : Int))], (⟨n7, Z43.cells, 45, 4⟩ :: (⟨n5, Y27.cells, 45, 4⟩ :: (⟨n2, X.cells, 45, X.cells.length⟩ :: (out43 ++ (out27 ++ (v.2.2.1 ++ (j.2.2.1 ++ [])))))))⟩) (fun j => j.2.2.2.1 ≤ u.1 + 1 ∧ OwnSeq Cut.cells 34 (fun _ r d => CutIs W r d) 39 j.2.1 j.2.2.1 [] j.2.2.2.2 ((D.dCuts.take (u.1 + 1)).filter (gtC X.fCerts.n)) j.2.2.2.1) ?_ ?_
       ·
        refine Sat.block (Sat.seq ?_)
        refine Sat.region ?_
        refine Tr.fld rfl rfl rfl U45 rfl Sz43 dE _ rfl ?_
        refine Tr.load1 rfl rfl rfl U43 rfl mM (by first | exact Kept.get_fCuts (by first | exact oK  | exact hX | exact ok27 | exact ok43 | exact okr | exact Kept.zero_ok) | exact vL) ?_
        refine Tr.m rfl rfl rfl ?_
        refine Tr.idxSlP 34 rfl rfl rfl hsp rfl U43 B0 u.1 rfl oM ?_
        refine Tr.fld rfl rfl rfl U39 rfl B4 dE _ rfl ?_
        refine Tr.loadE rfl rfl rfl U22 rfl (by first | (simp; done) | (simp; exact hW.2.2) | (simp [Cx.with]; done) | (simp [Cx.with]; omega)) (hsee 0 _ (Cut.get_fHeight okr)) ?_
        refine Tr.m rfl rfl rfl ?_
        refine Tr.gtr rfl rfl rfl rfl rfl ?_
        refine Tr.nil (Aa ?_)
        first
         | refine Sat.condP rfl (fun hc6 => ?_) (fun hc6 => ?_)
         | refine Sat.condNP rfl (fun hc6 => ?_) (fun hc6 => ?_)
         | refine Sat.cond rfl (fun hc6 => ?_) (fun hc6 => ?_)
        ·
         refine Sat.region ?_
         refine Tr.m rfl rfl rfl ?_
         refine Tr.fld rfl rfl rfl U45 rfl Sz43 dE _ rfl ?_
         refine Tr.load1 rfl rfl rfl U43 rfl mM (by first | exact Kept.get_fCuts (by first | exact oK  | exact hX | exact ok27 | exact ok43 | exact okr | exact Kept.zero_ok) | exact vL) ?_
         refine Tr.m rfl rfl rfl ?_
         refine Tr.idxSlP 34 rfl rfl rfl hsp rfl U43 B0 u.1 rfl oM ?_
         refine Tr.loadEN r.cells rfl rfl rfl U39 rfl B0 sP hlen hsee ?_
         refine Tr.mkRow2 (z := agg Cut.zero.cells) [agg r.cells] r.cells rfl rfl U43 B0 Cut.zr rfl rfl (by intro v hv; rw [List.mem_singleton.1 hv]; exact Cut.length okr) dE (by simp [Value.cells]) ?_
         intro q94
         refine Tr.appendAcc (z := agg Cut.zero.cells) (by' := 64) (r.cells) rfl rfl rfl rfl rfl U43 U43 B0 Cut.zr (by unfold By; kernel_rfl) rfl hou.acc sG (fun w h => SeesP.of (As h mM)) (fun e => by cases e) (Cut.isCell okr) oM oM (by rw [Cut.length okr]) ?_
         intro s95 bl95 hac95
         refine Tr.a rfl rfl rfl ?_
         refine Tr.nil (Bs (Aa ?_))
         first
          | exact ⟨(u.1, s95, bl95, u.2.2.2.1 + 1, u.2.2.2.2 ++ [r]), ⟨by simp only []; omega, by simp only [filt_yes hd (show gtC X.fCerts.n d = true from decide_eq_true (by rw [← his.fHeight]; omega))]; exact hou.snoc (bl3 := []) hac95 (Cut.length okr) (fun W2 _ => his)⟩, Ah (wk1 rfl (wk1 rfl (wk1 rfl (wk1 rfl (wk1 rfl (wk1 rfl (wk1 rfl (wk1 rfl (wk1 rfl wk0))))))))) (Ad rM (Ad rM (Ad rM (Ac sG (Ac sG (Ac sG (Ac sG Af)))))))⟩
          | exact ⟨(u.1, u.2.1, u.2.2.1, u.2.2.2.1, u.2.2.2.2), ⟨by simp only []; omega, by simp only [filt_no hd (show gtC X.fCerts.n d = false from decide_eq_false (by rw [← his.fHeight]; omega))]; exact hou⟩, Ah (wk1 rfl (wk1 rfl (wk1 rfl (wk1 rfl (wk1 rfl (wk1 rfl (wk1 rfl (wk1 rfl (wk1 rfl wk0))))))))) (Ad rM (Ad rM (Ad rM (Ac sG (Ac sG (Ac sG (Ac sG Af)))))))⟩
        ·
         refine Sat.skip (Bs (Aa ?_))
         first
          | exact ⟨(u.1, s95, bl95, u.2.2.2.1 + 1, u.2.2.2.2 ++ [r]), ⟨by simp only []; omega, by simp only [filt_yes hd (show gtC X.fCerts.n d = true from decide_eq_true (by rw [← his.fHeight]; omega))]; exact hou.snoc (bl3 := []) hac95 (Cut.length okr) (fun W2 _ => his)⟩, Ah (wk1 rfl (wk1 rfl (wk1 rfl (wk1 rfl (wk1 rfl (wk1 rfl (wk1 rfl (wk1 rfl (wk1 rfl wk0))))))))) (Ad rM (Ad rM (Ad rM (Ac sG (Ac sG (Ac sG (Ac sG Af)))))))⟩
          | exact ⟨(u.1, u.2.1, u.2.2.1, u.2.2.2.1, u.2.2.2.2), ⟨by simp only []; omega, by simp only [filt_no hd (show gtC X.fCerts.n d = false from decide_eq_false (by rw [← his.fHeight]; omega))]; exact hou⟩, Ah (wk1 rfl (wk1 rfl (wk1 rfl (wk1 rfl (wk1 rfl (wk1 rfl (wk1 rfl (wk1 rfl (wk1 rfl wk0))))))))) (Ad rM (Ad rM (Ad rM (Ac sG (Ac sG (Ac sG (Ac sG Af)))))))⟩
       ·
        intro j hj
        skip
        refine Sat.region ?_
        refine Tr.m rfl rfl rfl ?_
        refine Tr.aI rfl rfl rfl rfl oM ?_
        refine Tr.a rfl rfl rfl ?_
        refine Tr.nil (Aa ?_)
        exact ⟨(u.1 + 1, j.2.1, j.2.2.1, j.2.2.2.1, j.2.2.2.2), ⟨by simp only []; omega, by have := hj.1; simp only []; omega, hj.2⟩, by simp only []; omega, Ah (wk1 rfl (wk1 rfl (wk1 rfl (wk1 rfl (wk1 rfl (wk1 rfl (wk1 rfl (wk1 rfl (wk1 (by rw [Int.natCast_add]; rfl) wk0))))))))) (Ad rM (Ad rM (Ad rM (Ac sG (Ac sG (Ac sG (Ac sG Af)))))))⟩
      ·
       have hue : u.1 = X.fCuts.n := by omega
       refine Sat.exit (A7 (A7 (bl_h (Aa (Sat.seq (Sat.region ?_))))))
       refine Tr.lA rfl rfl rfl U45 rfl Sz45 mM (Kept.length (by first | exact oK  | exact hX | exact ok27 | exact ok43 | exact okr | exact Kept.zero_ok)) ?_
       refine Tr.call4 rfl rfl rfl rfl rfl Body19 (keep_records Y27 (A1 D).1 oM oM oM oM) (fun w h => h27 w (Lies.of h iN)) ?_
       rintro v98 out98 ⟨s98, rs98, rfl, n98, h98⟩
       refine Tr.m rfl rfl rfl ?_
       refine Tr.eX rfl rfl rfl rfl ?_
       refine Tr.eX rfl rfl rfl rfl ?_
       refine Tr.a rfl rfl rfl ?_
       refine Tr.a rfl rfl rfl ?_
       refine Tr.nil (Aa (Sat.seq (Sat.region ?_)))
       refine Tr.lA rfl rfl rfl U45 rfl Sz45 mM (Kept.length (by first | exact oK  | exact hX | exact ok27 | exact ok43 | exact okr | exact Kept.zero_ok)) ?_
       refine Tr.call4 rfl rfl rfl rfl rfl Body17 (meets_know (kit_own_kept X D hs3_1) own_know) (fun w h => hW.ext h rfl) ?_
       rintro v103 out103 ⟨X103, ok103, rfl, l103, h103⟩
       refine Tr.call4 rfl rfl rfl rfl rfl Body19 (keep_records X103 D (by rw [← l103.1]; omega) (by rw [← l103.2.1]; omega) (by rw [← l103.2.2.1]; omega) (by rw [← l103.2.2.2]; omega)) (fun w h => h103 w (Lies.of h iN)) ?_
       rintro v104 out104 ⟨s104, rs104, rfl, n104, h104⟩
       refine Tr.m rfl rfl rfl ?_
       refine Tr.eX rfl rfl rfl rfl ?_
       refine Tr.eX rfl rfl rfl rfl ?_
       refine Tr.a rfl rfl rfl ?_
       refine Tr.a rfl rfl rfl ?_
       refine Tr.nil (Aa (Sat.seq (Sat.seq (Sat.region ?_))))
       refine Tr.m rfl rfl rfl ?_
       refine two (fun r hr k => Tr.eqi rfl rfl rfl rfl hr k) (fun hs24_10 => ?_) (fun hs24_10 => ?_)
       ·
        first | have hs24_1 := of_decide_eq_true hs24_10 | have hs24_1 := of_decide_eq_false hs24_10 | have hs24_1 := Bg hs24_10 | have hs24_1 := Bh hs24_10 | have hs24_1 := hs24_10
        refine Tr.m rfl rfl rfl ?_
        refine Tr.m rfl rfl rfl ?_
        refine two (fun r hr k => Tr.eqi rfl rfl rfl rfl hr k) (fun hs24_40 => ?_) (fun hs24_40 => ?_)
        ·
         first | have hs24_4 := of_decide_eq_true hs24_40 | have hs24_4 := of_decide_eq_false hs24_40 | have hs24_4 := Bg hs24_40 | have hs24_4 := Bh hs24_40 | have hs24_4 := hs24_40
         refine Tr.pick rfl rfl rfl rfl rfl rfl ?_
         refine Tr.m rfl rfl rfl ?_
         refine Tr.m rfl rfl rfl ?_
         refine Tr.cV rfl rfl rfl rfl Body13 (keep_size s98 (recsRd (A1 D).1).1 (by rw [n98, recs_len hs24_1]; omega) (recs_small hs24_1)) (fun w h => ⟨rs98, h98 w (Lies.of h iN)⟩) ?_
         refine Tr.m rfl rfl rfl ?_
         refine Tr.cV rfl rfl rfl rfl Body13 (keep_size s104 (recsRd D).1 (by rw [n104, recs_len hs24_4]; omega) (recs_small hs24_4)) (fun w h => ⟨rs104, h104 w (Lies.of h iN)⟩) ?_
         refine Tr.gtr rfl rfl rfl rfl (decide_eq_false (by have := need_size hcz hs24_1 hs24_4; omega)) ?_
         refine Tr.pick rfl rfl rfl rfl rfl rfl ?_
         refine Tr.m rfl rfl rfl ?_
         refine Tr.m rfl rfl rfl ?_
         refine Tr.nei rfl rfl rfl rfl (show (!decide _) = false from congrArg not (decide_eq_true dE)) ?_
         refine Tr.pick rfl rfl rfl rfl rfl rfl ?_
         refine Tr.nil (Aa ?_)
         refine Sat.cond_f rfl rfl ?_
         refine Sat.skip (Aa (Sat.seq (Sat.region ?_)))
         have hlf : (D.dVotes.filter (eqV h0)).length ≤ 12 := Nat.le_trans (List.length_filter_le _ _) g3
         have hsmN := need_small hcz (Ay hs3_1)
         have hvo : ∀ d ∈ D.dVotes, d.ok ∧ (Lit.int .i64 d.fPhase).wf = true := votes_ok2 hV
         rw [List.take_of_length_le oM, ← l2] at hov
         rw [List.take_of_length_le oM, ← l2] at hou
         refine Tr.lA rfl rfl rfl U45 rfl Sz45 mM (Kept.length (by first | exact oK  | exact hX | exact ok27 | exact ok43 | exact okr | exact Kept.zero_ok)) ?_
         refine Tr.m rfl rfl rfl ?_
         refine Tr.call4 rfl rfl rfl rfl rfl Body12 (keep_said_all Y27 ok27 (A1 D).1.dVotes h0 oM) (fun w h => (h27 w (Lies.of h iN)).fVotes) ?_
         rintro v126 out126 ⟨s126, rs126, rfl, o126⟩
         rw [Av hcz] at o126
         dsimp only at o126
         refine Tr.a rfl rfl rfl ?_
         refine Tr.nil (Aa (Sat.seq (Sat.seq (Sat.region ?_))))
         refine Tr.m rfl rfl rfl ?_
         refine Tr.m rfl rfl rfl ?_
         refine two (fun r hr k => Tr.gtr rfl rfl rfl rfl hr k) (fun hs27_20 => ?_) (fun hs27_20 => ?_)
         ·
          first | have hs27_2 := of_decide_eq_true hs27_20 | have hs27_2 := of_decide_eq_false hs27_20 | have hs27_2 := Bg hs27_20 | have hs27_2 := Bh hs27_20 | have hs27_2 := hs27_20
          refine Tr.m rfl rfl rfl ?_
          refine Tr.m rfl rfl rfl ?_
          refine Tr.lA rfl rfl rfl U45 rfl Sz45 mM (Kept.length (by first | exact oK  | exact hX | exact ok27 | exact ok43 | exact okr | exact Kept.zero_ok)) ?_
          refine Tr.m rfl rfl rfl ?_
          refine Tr.call rfl rfl rfl rfl Body12 (keep_said_all X hX D.dVotes h0 oM) (SaidR.loose (fun d hd => hvo d (List.mem_filter.1 hd).1)) (fun w h => Votes_ext h rfl hW.fVotes) ?_
          rintro v134 out134 ⟨s134, rs134, rfl, o134⟩
          refine Tr.cV rfl rfl rfl rfl Body20 ((Cb s126 s134 (D.dVotes.filter (eqV h0)) (D.dVotes.filter (eqV h0))).imp (fun w h => h) (fun v out h => by rwa [B9] at h)) (fun w h => ⟨by rw [said_more oM] at o126; exact ⟨_, o126.seq (Lies.of h iN) (fun b hb => (by cases hb)) oM⟩, ⟨_, o134.seq (Lies.of h iN) (fun b hb => (by cases hb)) oM⟩⟩) ?_
          refine Tr.not rfl rfl rfl ?_
          refine Tr.pick rfl rfl rfl rfl rfl rfl ?_
          refine Tr.m rfl rfl rfl ?_
          refine Tr.m rfl rfl rfl ?_
          refine Tr.m rfl rfl rfl ?_
          refine two (fun r hr k => Tr.leq rfl rfl rfl rfl hr k) (fun hs27_140 => ?_) (fun hs27_140 => ?_)
          ·
           first | have hs27_14 := of_decide_eq_true hs27_140 | have hs27_14 := of_decide_eq_false hs27_140 | have hs27_14 := Bg hs27_140 | have hs27_14 := Bh hs27_140 | have hs27_14 := hs27_140
           refine Tr.m rfl rfl rfl ?_
           refine Tr.m rfl rfl rfl ?_
           refine Tr.lenSl rfl rfl rfl U42 ?_
           refine Tr.gtr rfl rfl rfl rfl (decide_eq_false (by
            rw [said_none oM] at o126
            have hz0 := o126.acc.num
            simp only [List.length_nil] at hz0
            omega)) ?_
           refine Tr.pick rfl rfl rfl rfl rfl rfl ?_
           refine Tr.pick rfl rfl rfl rfl rfl rfl ?_
           refine Tr.nil (Aa ?_)
           refine Sat.cond_f rfl rfl ?_
           refine Sat.skip (Aa (Sat.seq (Sat.region ?_)))
           refine Tr.lA rfl rfl rfl U45 rfl Sz45 mM (Kept.length (by first | exact oK  | exact hX | exact ok27 | exact ok43 | exact okr | exact Kept.zero_ok)) ?_
           refine Tr.lA rfl rfl rfl U45 rfl Sz45 mM (Kept.length (by first | exact oK  | exact hX | exact ok27 | exact ok43 | exact okr | exact Kept.zero_ok)) ?_
           refine Tr.cV rfl rfl rfl rfl Body18 (Bl Z43 Y27 (A1 D).1 hsmN) (fun w h => ⟨h43 w (Lies.of h iN), h27 w (Lies.of h iN)⟩) ?_
           refine Tr.m rfl rfl rfl ?_
           refine Tr.fld rfl rfl rfl U45 rfl Sz40 dE _ rfl ?_
           refine Tr.load1 rfl rfl rfl U40 rfl mM (by first | exact Kept.get_fBlocks (by first | exact oK  | exact hX | exact ok27 | exact ok43 | exact okr | exact Kept.zero_ok) | exact vL) ?_
           refine Tr.fld rfl rfl rfl U45 rfl Sz40 dE _ rfl ?_
           refine Tr.load1 rfl rfl rfl U40 rfl mM (by first | exact Kept.get_fBlocks (by first | exact oK  | exact hX | exact ok27 | exact ok43 | exact okr | exact Kept.zero_ok) | exact vL) ?_
           refine Tr.cV rfl rfl rfl rfl Body21 ((kit_blocks Y27.fBlocks X.fBlocks D.dBlocks D.dBlocks (fun d hd => by have := (Ay hs3_1).blocks d hd; omega)).imp (fun w h => h) (fun v out h => by rwa [Aq Ca] at h)) (fun w h => ⟨by have := (h27 w (Lies.of h iN)).fBlocks; rwa [Av hcz] at this, Bk h rfl hW.fBlocks⟩) ?_
           refine Tr.pick rfl rfl rfl rfl rfl rfl ?_
           refine Tr.m rfl rfl rfl ?_
           refine Tr.fld rfl rfl rfl U45 rfl Sz41 dE _ rfl ?_
           refine Tr.load1 rfl rfl rfl U41 rfl mM (by first | exact Kept.get_fCerts (by first | exact oK  | exact hX | exact ok27 | exact ok43 | exact okr | exact Kept.zero_ok) | exact vL) ?_
           refine Tr.fld rfl rfl rfl U45 rfl Sz41 dE _ rfl ?_
           refine Tr.load1 rfl rfl rfl U41 rfl mM (by first | exact Kept.get_fCerts (by first | exact oK  | exact hX | exact ok27 | exact ok43 | exact okr | exact Kept.zero_ok) | exact vL) ?_
           refine Tr.cV rfl rfl rfl rfl Body22 ((kit_certs Y27.fCerts X.fCerts D.dCerts D.dCerts (fun d hd => by have := (Ay hs3_1).certs d hd; omega)).imp (fun w h => h) (fun v out h => by rwa [Aq sameE_self] at h)) (fun w h => ⟨by have := (h27 w (Lies.of h iN)).fCerts; rwa [Av hcz] at this, Bt h rfl hW.fCerts⟩) ?_
           refine Tr.pick rfl rfl rfl rfl rfl rfl ?_
           refine Tr.m rfl rfl rfl ?_
           refine Tr.fld rfl rfl rfl U45 rfl Sz42 dE _ rfl ?_
           refine Tr.load1 rfl rfl rfl U42 rfl mM (by first | exact Kept.get_fVotes (by first | exact oK  | exact hX | exact ok27 | exact ok43 | exact okr | exact Kept.zero_ok) | exact vL) ?_
           refine Tr.m rfl rfl rfl ?_
           refine Tr.cV rfl rfl rfl rfl Body20 ((Cb Y27.fVotes v.2.1 (D.dVotes.filter (gtV D.dCerts.length)) (D.dVotes.filter (gtV D.dCerts.length))).imp (fun w h => h) (fun v out h => by rwa [B9] at h)) (fun w h => ⟨by have := (h27 w (Lies.of h iN)).fVotes; rwa [Av hcz] at this, ⟨_, hov.seq (Lies.of h iN) (fun b hb => (by cases hb)) oM⟩⟩) ?_
           refine Tr.pick rfl rfl rfl rfl rfl rfl ?_
           refine Tr.m rfl rfl rfl ?_
           refine Tr.fld rfl rfl rfl U45 rfl Sz43 dE _ rfl ?_
           refine Tr.load1 rfl rfl rfl U43 rfl mM (by first | exact Kept.get_fCuts (by first | exact oK  | exact hX | exact ok27 | exact ok43 | exact okr | exact Kept.zero_ok) | exact vL) ?_
           refine Tr.m rfl rfl rfl ?_
           refine Tr.cV rfl rfl rfl rfl Body23 ((kit_cuts Y27.fCuts u.2.1 (D.dCuts.filter (gtC D.dCerts.length)) (D.dCuts.filter (gtC D.dCerts.length)) (fun d hd => by have := (Ay hs3_1).cuts d (List.mem_filter.1 hd).1; omega)).imp (fun w h => h) (fun v out h => by rwa [Aq sameC_self] at h)) (fun w h => ⟨by have := (h27 w (Lies.of h iN)).fCuts; rwa [Av hcz] at this, ⟨_, cuts_here h rfl (hou.seq (Lies.of h iN) (fun b hb => (by cases hb)) oM)⟩⟩) ?_
           refine Tr.pick rfl rfl rfl rfl rfl rfl ?_
           refine Tr.a rfl rfl rfl ?_
           refine Tr.nil (Aa (Sat.ret (Ak ?_)))
           refine ⟨_, [], Ae rfl rfl, sP, sP, ?_, rfl⟩
           rfl
          ·
           first | have hs27_14 := of_decide_eq_true hs27_140 | have hs27_14 := of_decide_eq_false hs27_140 | have hs27_14 := Bg hs27_140 | have hs27_14 := Bh hs27_140 | have hs27_14 := hs27_140
           refine Tr.m rfl rfl rfl ?_
           refine Tr.skp rfl rfl ?_
           refine Tr.skp rfl rfl ?_
           refine Tr.skp rfl rfl ?_
           refine Tr.pick rfl rfl rfl rfl rfl rfl ?_
           refine Tr.pick rfl rfl rfl rfl rfl rfl ?_
           refine Tr.nil (Aa ?_)
           refine Sat.cond_f rfl rfl ?_
           refine Sat.skip (Aa (Sat.seq (Sat.region ?_)))
           refine Tr.lA rfl rfl rfl U45 rfl Sz45 mM (Kept.length (by first | exact oK  | exact hX | exact ok27 | exact ok43 | exact okr | exact Kept.zero_ok)) ?_
           refine Tr.lA rfl rfl rfl U45 rfl Sz45 mM (Kept.length (by first | exact oK  | exact hX | exact ok27 | exact ok43 | exact okr | exact Kept.zero_ok)) ?_
           refine Tr.cV rfl rfl rfl rfl Body18 (Bl Z43 Y27 (A1 D).1 hsmN) (fun w h => ⟨h43 w (Lies.of h iN), h27 w (Lies.of h iN)⟩) ?_
           refine Tr.m rfl rfl rfl ?_
           refine Tr.fld rfl rfl rfl U45 rfl Sz40 dE _ rfl ?_
           refine Tr.load1 rfl rfl rfl U40 rfl mM (by first | exact Kept.get_fBlocks (by first | exact oK  | exact hX | exact ok27 | exact ok43 | exact okr | exact Kept.zero_ok) | exact vL) ?_
           refine Tr.fld rfl rfl rfl U45 rfl Sz40 dE _ rfl ?_
           refine Tr.load1 rfl rfl rfl U40 rfl mM (by first | exact Kept.get_fBlocks (by first | exact oK  | exact hX | exact ok27 | exact ok43 | exact okr | exact Kept.zero_ok) | exact vL) ?_
           refine Tr.cV rfl rfl rfl rfl Body21 ((kit_blocks Y27.fBlocks X.fBlocks D.dBlocks D.dBlocks (fun d hd => by have := (Ay hs3_1).blocks d hd; omega)).imp (fun w h => h) (fun v out h => by rwa [Aq Ca] at h)) (fun w h => ⟨by have := (h27 w (Lies.of h iN)).fBlocks; rwa [Av hcz] at this, Bk h rfl hW.fBlocks⟩) ?_
           refine Tr.pick rfl rfl rfl rfl rfl rfl ?_
           refine Tr.m rfl rfl rfl ?_
           refine Tr.fld rfl rfl rfl U45 rfl Sz41 dE _ rfl ?_
           refine Tr.load1 rfl rfl rfl U41 rfl mM (by first | exact Kept.get_fCerts (by first | exact oK  | exact hX | exact ok27 | exact ok43 | exact okr | exact Kept.zero_ok) | exact vL) ?_
           refine Tr.fld rfl rfl rfl U45 rfl Sz41 dE _ rfl ?_
           refine Tr.load1 rfl rfl rfl U41 rfl mM (by first | exact Kept.get_fCerts (by first | exact oK  | exact hX | exact ok27 | exact ok43 | exact okr | exact Kept.zero_ok) | exact vL) ?_
           refine Tr.cV rfl rfl rfl rfl Body22 ((kit_certs Y27.fCerts X.fCerts D.dCerts D.dCerts (fun d hd => by have := (Ay hs3_1).certs d hd; omega)).imp (fun w h => h) (fun v out h => by rwa [Aq sameE_self] at h)) (fun w h => ⟨by have := (h27 w (Lies.of h iN)).fCerts; rwa [Av hcz] at this, Bt h rfl hW.fCerts⟩) ?_
           refine Tr.pick rfl rfl rfl rfl rfl rfl ?_
           refine Tr.m rfl rfl rfl ?_
           refine Tr.fld rfl rfl rfl U45 rfl Sz42 dE _ rfl ?_
           refine Tr.load1 rfl rfl rfl U42 rfl mM (by first | exact Kept.get_fVotes (by first | exact oK  | exact hX | exact ok27 | exact ok43 | exact okr | exact Kept.zero_ok) | exact vL) ?_
           refine Tr.m rfl rfl rfl ?_
           refine Tr.cV rfl rfl rfl rfl Body20 ((Cb Y27.fVotes v.2.1 (D.dVotes.filter (gtV D.dCerts.length)) (D.dVotes.filter (gtV D.dCerts.length))).imp (fun w h => h) (fun v out h => by rwa [B9] at h)) (fun w h => ⟨by have := (h27 w (Lies.of h iN)).fVotes; rwa [Av hcz] at this, ⟨_, hov.seq (Lies.of h iN) (fun b hb => (by cases hb)) oM⟩⟩) ?_
           refine Tr.pick rfl rfl rfl rfl rfl rfl ?_
           refine Tr.m rfl rfl rfl ?_
           refine Tr.fld rfl rfl rfl U45 rfl Sz43 dE _ rfl ?_
           refine Tr.load1 rfl rfl rfl U43 rfl mM (by first | exact Kept.get_fCuts (by first | exact oK  | exact hX | exact ok27 | exact ok43 | exact okr | exact Kept.zero_ok) | exact vL) ?_
           refine Tr.m rfl rfl rfl ?_
           refine Tr.cV rfl rfl rfl rfl Body23 ((kit_cuts Y27.fCuts u.2.1 (D.dCuts.filter (gtC D.dCerts.length)) (D.dCuts.filter (gtC D.dCerts.length)) (fun d hd => by have := (Ay hs3_1).cuts d (List.mem_filter.1 hd).1; omega)).imp (fun w h => h) (fun v out h => by rwa [Aq sameC_self] at h)) (fun w h => ⟨by have := (h27 w (Lies.of h iN)).fCuts; rwa [Av hcz] at this, ⟨_, cuts_here h rfl (hou.seq (Lies.of h iN) (fun b hb => (by cases hb)) oM)⟩⟩) ?_
           refine Tr.pick rfl rfl rfl rfl rfl rfl ?_
           refine Tr.a rfl rfl rfl ?_
           refine Tr.nil (Aa (Sat.ret (Ak ?_)))
           refine ⟨_, [], Ae rfl rfl, sP, sP, ?_, rfl⟩
           rfl
         ·
          first | have hs27_2 := of_decide_eq_true hs27_20 | have hs27_2 := of_decide_eq_false hs27_20 | have hs27_2 := Bg hs27_20 | have hs27_2 := Bh hs27_20 | have hs27_2 := hs27_20
          refine Tr.m rfl rfl rfl ?_
          refine Tr.skp rfl rfl ?_
          refine Tr.skp rfl rfl ?_
          refine Tr.skp rfl rfl ?_
          refine Tr.skp rfl rfl ?_
          refine Tr.skp rfl rfl ?_
          refine Tr.skp rfl rfl ?_
          refine Tr.pick rfl rfl rfl rfl rfl rfl ?_
          refine Tr.m rfl rfl rfl ?_
          refine Tr.m rfl rfl rfl ?_
          refine Tr.m rfl rfl rfl ?_
          refine two (fun r hr k => Tr.leq rfl rfl rfl rfl hr k) (fun hs27_140 => ?_) (fun hs27_140 => ?_)
          ·
           first | have hs27_14 := of_decide_eq_true hs27_140 | have hs27_14 := of_decide_eq_false hs27_140 | have hs27_14 := Bg hs27_140 | have hs27_14 := Bh hs27_140 | have hs27_14 := hs27_140
           refine Tr.m rfl rfl rfl ?_
           refine Tr.m rfl rfl rfl ?_
           refine Tr.lenSl rfl rfl rfl U42 ?_
           refine Tr.gtr rfl rfl rfl rfl (decide_eq_false (by
            rw [said_none oM] at o126
            have hz0 := o126.acc.num
            simp only [List.length_nil] at hz0
            omega)) ?_
           refine Tr.pick rfl rfl rfl rfl rfl rfl ?_
           refine Tr.pick rfl rfl rfl rfl rfl rfl ?_
           refine Tr.nil (Aa ?_)
           refine Sat.cond_f rfl rfl ?_
           refine Sat.skip (Aa (Sat.seq (Sat.region ?_)))
           refine Tr.lA rfl rfl rfl U45 rfl Sz45 mM (Kept.length (by first | exact oK  | exact hX | exact ok27 | exact ok43 | exact okr | exact Kept.zero_ok)) ?_
           refine Tr.lA rfl rfl rfl U45 rfl Sz45 mM (Kept.length (by first | exact oK  | exact hX | exact ok27 | exact ok43 | exact okr | exact Kept.zero_ok)) ?_
           refine Tr.cV rfl rfl rfl rfl Body18 (Bl Z43 Y27 (A1 D).1 hsmN) (fun w h => ⟨h43 w (Lies.of h iN), h27 w (Lies.of h iN)⟩) ?_
           refine Tr.m rfl rfl rfl ?_
           refine Tr.fld rfl rfl rfl U45 rfl Sz40 dE _ rfl ?_
           refine Tr.load1 rfl rfl rfl U40 rfl mM (by first | exact Kept.get_fBlocks (by first | exact oK  | exact hX | exact ok27 | exact ok43 | exact okr | exact Kept.zero_ok) | exact vL) ?_
           refine Tr.fld rfl rfl rfl U45 rfl Sz40 dE _ rfl ?_
           refine Tr.load1 rfl rfl rfl U40 rfl mM (by first | exact Kept.get_fBlocks (by first | exact oK  | exact hX | exact ok27 | exact ok43 | exact okr | exact Kept.zero_ok) | exact vL) ?_
           refine Tr.cV rfl rfl rfl rfl Body21 ((kit_blocks Y27.fBlocks X.fBlocks D.dBlocks D.dBlocks (fun d hd => by have := (Ay hs3_1).blocks d hd; omega)).imp (fun w h => h) (fun v out h => by rwa [Aq Ca] at h)) (fun w h => ⟨by have := (h27 w (Lies.of h iN)).fBlocks; rwa [Av hcz] at this, Bk h rfl hW.fBlocks⟩) ?_
           refine Tr.pick rfl rfl rfl rfl rfl rfl ?_
           refine Tr.m rfl rfl rfl ?_
           refine Tr.fld rfl rfl rfl U45 rfl Sz41 dE _ rfl ?_
           refine Tr.load1 rfl rfl rfl U41 rfl mM (by first | exact Kept.get_fCerts (by first | exact oK  | exact hX | exact ok27 | exact ok43 | exact okr | exact Kept.zero_ok) | exact vL) ?_
           refine Tr.fld rfl rfl rfl U45 rfl Sz41 dE _ rfl ?_
           refine Tr.load1 rfl rfl rfl U41 rfl mM (by first | exact Kept.get_fCerts (by first | exact oK  | exact hX | exact ok27 | exact ok43 | exact okr | exact Kept.zero_ok) | exact vL) ?_
           refine Tr.cV rfl rfl rfl rfl Body22 ((kit_certs Y27.fCerts X.fCerts D.dCerts D.dCerts (fun d hd => by have := (Ay hs3_1).certs d hd; omega)).imp (fun w h => h) (fun v out h => by rwa [Aq sameE_self] at h)) (fun w h => ⟨by have := (h27 w (Lies.of h iN)).fCerts; rwa [Av hcz] at this, Bt h rfl hW.fCerts⟩) ?_
           refine Tr.pick rfl rfl rfl rfl rfl rfl ?_
           refine Tr.m rfl rfl rfl ?_
           refine Tr.fld rfl rfl rfl U45 rfl Sz42 dE _ rfl ?_
           refine Tr.load1 rfl rfl rfl U42 rfl mM (by first | exact Kept.get_fVotes (by first | exact oK  | exact hX | exact ok27 | exact ok43 | exact okr | exact Kept.zero_ok) | exact vL) ?_
           refine Tr.m rfl rfl rfl ?_
           refine Tr.cV rfl rfl rfl rfl Body20 ((Cb Y27.fVotes v.2.1 (D.dVotes.filter (gtV D.dCerts.length)) (D.dVotes.filter (gtV D.dCerts.length))).imp (fun w h => h) (fun v out h => by rwa [B9] at h)) (fun w h => ⟨by have := (h27 w (Lies.of h iN)).fVotes; rwa [Av hcz] at this, ⟨_, hov.seq (Lies.of h iN) (fun b hb => (by cases hb)) oM⟩⟩) ?_
           refine Tr.pick rfl rfl rfl rfl rfl rfl ?_
           refine Tr.m rfl rfl rfl ?_
           refine Tr.fld rfl rfl rfl U45 rfl Sz43 dE _ rfl ?_
           refine Tr.load1 rfl rfl rfl U43 rfl mM (by first | exact Kept.get_fCuts (by first | exact oK  | exact hX | exact ok27 | exact ok43 | exact okr | exact Kept.zero_ok) | exact vL) ?_
           refine Tr.m rfl rfl rfl ?_
           refine Tr.cV rfl rfl rfl rfl Body23 ((kit_cuts Y27.fCuts u.2.1 (D.dCuts.filter (gtC D.dCerts.length)) (D.dCuts.filter (gtC D.dCerts.length)) (fun d hd => by have := (Ay hs3_1).cuts d (List.mem_filter.1 hd).1; omega)).imp (fun w h => h) (fun v out h => by rwa [Aq sameC_self] at h)) (fun w h => ⟨by have := (h27 w (Lies.of h iN)).fCuts; rwa [Av hcz] at this, ⟨_, cuts_here h rfl (hou.seq (Lies.of h iN) (fun b hb => (by cases hb)) oM)⟩⟩) ?_
           refine Tr.pick rfl rfl rfl rfl rfl rfl ?_
           refine Tr.a rfl rfl rfl ?_
           refine Tr.nil (Aa (Sat.ret (Ak ?_)))
           refine ⟨_, [], Ae rfl rfl, sP, sP, ?_, rfl⟩
           rfl
          ·
           first | have hs27_14 := of_decide_eq_true hs27_140 | have hs27_14 := of_decide_eq_false hs27_140 | have hs27_14 := Bg hs27_140 | have hs27_14 := Bh hs27_140 | have hs27_14 := hs27_140
           refine Tr.m rfl rfl rfl ?_
           refine Tr.skp rfl rfl ?_
           refine Tr.skp rfl rfl ?_
           refine Tr.skp rfl rfl ?_
           refine Tr.pick rfl rfl rfl rfl rfl rfl ?_
           refine Tr.pick rfl rfl rfl rfl rfl rfl ?_
           refine Tr.nil (Aa ?_)
           refine Sat.cond_f rfl rfl ?_
           refine Sat.skip (Aa (Sat.seq (Sat.region ?_)))
           refine Tr.lA rfl rfl rfl U45 rfl Sz45 mM (Kept.length (by first | exact oK  | exact hX | exact ok27 | exact ok43 | exact okr | exact Kept.zero_ok)) ?_
           refine Tr.lA rfl rfl rfl U45 rfl Sz45 mM (Kept.length (by first | exact oK  | exact hX | exact ok27 | exact ok43 | exact okr | exact Kept.zero_ok)) ?_
           refine Tr.cV rfl rfl rfl rfl Body18 (Bl Z43 Y27 (A1 D).1 hsmN) (fun w h => ⟨h43 w (Lies.of h iN), h27 w (Lies.of h iN)⟩) ?_
           refine Tr.m rfl rfl rfl ?_
           refine Tr.fld rfl rfl rfl U45 rfl Sz40 dE _ rfl ?_
           refine Tr.load1 rfl rfl rfl U40 rfl mM (by first | exact Kept.get_fBlocks (by first | exact oK  | exact hX | exact ok27 | exact ok43 | exact okr | exact Kept.zero_ok) | exact vL) ?_
           refine Tr.fld rfl rfl rfl U45 rfl Sz40 dE _ rfl ?_
           refine Tr.load1 rfl rfl rfl U40 rfl mM (by first | exact Kept.get_fBlocks (by first | exact oK  | exact hX | exact ok27 | exact ok43 | exact okr | exact Kept.zero_ok) | exact vL) ?_
           refine Tr.cV rfl rfl rfl rfl Body21 ((kit_blocks Y27.fBlocks X.fBlocks D.dBlocks D.dBlocks (fun d hd => by have := (Ay hs3_1).blocks d hd; omega)).imp (fun w h => h) (fun v out h => by rwa [Aq Ca] at h)) (fun w h => ⟨by have := (h27 w (Lies.of h iN)).fBlocks; rwa [Av hcz] at this, Bk h rfl hW.fBlocks⟩) ?_
           refine Tr.pick rfl rfl rfl rfl rfl rfl ?_
           refine Tr.m rfl rfl rfl ?_
           refine Tr.fld rfl rfl rfl U45 rfl Sz41 dE _ rfl ?_
           refine Tr.load1 rfl rfl rfl U41 rfl mM (by first | exact Kept.get_fCerts (by first | exact oK  | exact hX | exact ok27 | exact ok43 | exact okr | exact Kept.zero_ok) | exact vL) ?_
           refine Tr.fld rfl rfl rfl U45 rfl Sz41 dE _ rfl ?_
           refine Tr.load1 rfl rfl rfl U41 rfl mM (by first | exact Kept.get_fCerts (by first | exact oK  | exact hX | exact ok27 | exact ok43 | exact okr | exact Kept.zero_ok) | exact vL) ?_
           refine Tr.cV rfl rfl rfl rfl Body22 ((kit_certs Y27.fCerts X.fCerts D.dCerts D.dCerts (fun d hd => by have := (Ay hs3_1).certs d hd; omega)).imp (fun w h => h) (fun v out h => by rwa [Aq sameE_self] at h)) (fun w h => ⟨by have := (h27 w (Lies.of h iN)).fCerts; rwa [Av hcz] at this, Bt h rfl hW.fCerts⟩) ?_
           refine Tr.pick rfl rfl rfl rfl rfl rfl ?_
           refine Tr.m rfl rfl rfl ?_
           refine Tr.fld rfl rfl rfl U45 rfl Sz42 dE _ rfl ?_
           refine Tr.load1 rfl rfl rfl U42 rfl mM (by first | exact Kept.get_fVotes (by first | exact oK  | exact hX | exact ok27 | exact ok43 | exact okr | exact Kept.zero_ok) | exact vL) ?_
           refine Tr.m rfl rfl rfl ?_
           refine Tr.cV rfl rfl rfl rfl Body20 ((Cb Y27.fVotes v.2.1 (D.dVotes.filter (gtV D.dCerts.length)) (D.dVotes.filter (gtV D.dCerts.length))).imp (fun w h => h) (fun v out h => by rwa [B9] at h)) (fun w h => ⟨by have := (h27 w (Lies.of h iN)).fVotes; rwa [Av hcz] at this, ⟨_, hov.seq (Lies.of h iN) (fun b hb => (by cases hb)) oM⟩⟩) ?_
           refine Tr.pick rfl rfl rfl rfl rfl rfl ?_
           refine Tr.m rfl rfl rfl ?_
           refine Tr.fld rfl rfl rfl U45 rfl Sz43 dE _ rfl ?_
           refine Tr.load1 rfl rfl rfl U43 rfl mM (by first | exact Kept.get_fCuts (by first | exact oK  | exact hX | exact ok27 | exact ok43 | exact okr | exact Kept.zero_ok) | exact vL) ?_
           refine Tr.m rfl rfl rfl ?_
           refine Tr.cV rfl rfl rfl rfl Body23 ((kit_cuts Y27.fCuts u.2.1 (D.dCuts.filter (gtC D.dCerts.length)) (D.dCuts.filter (gtC D.dCerts.length)) (fun d hd => by have := (Ay hs3_1).cuts d (List.mem_filter.1 hd).1; omega)).imp (fun w h => h) (fun v out h => by rwa [Aq sameC_self] at h)) (fun w h => ⟨by have := (h27 w (Lies.of h iN)).fCuts; rwa [Av hcz] at this, ⟨_, cuts_here h rfl (hou.seq (Lies.of h iN) (fun b hb => (by cases hb)) oM)⟩⟩) ?_
           refine Tr.pick rfl rfl rfl rfl rfl rfl ?_
           refine Tr.a rfl rfl rfl ?_
           refine Tr.nil (Aa (Sat.ret (Ak ?_)))
           refine ⟨_, [], Ae rfl rfl, sP, sP, ?_, rfl⟩
           rfl
        ·
         first | have hs24_4 := of_decide_eq_true hs24_40 | have hs24_4 := of_decide_eq_false hs24_40 | have hs24_4 := Bg hs24_40 | have hs24_4 := Bh hs24_40 | have hs24_4 := hs24_40
         refine Tr.pick rfl rfl rfl rfl rfl rfl ?_
         refine Tr.m rfl rfl rfl ?_
         refine Tr.skp rfl rfl ?_
         refine Tr.skp rfl rfl ?_
         refine Tr.skp rfl rfl ?_
         refine Tr.skp rfl rfl ?_
         refine Tr.skp rfl rfl ?_
         refine Tr.pick rfl rfl rfl rfl rfl rfl ?_
         refine Tr.m rfl rfl rfl ?_
         refine Tr.m rfl rfl rfl ?_
         refine Tr.nei rfl rfl rfl rfl (show (!decide _) = false from congrArg not (decide_eq_true dE)) ?_
         refine Tr.pick rfl rfl rfl rfl rfl rfl ?_
         refine Tr.nil (Aa ?_)
         refine Sat.cond_f rfl rfl ?_
         refine Sat.skip (Aa (Sat.seq (Sat.region ?_)))
         have hlf : (D.dVotes.filter (eqV h0)).length ≤ 12 := Nat.le_trans (List.length_filter_le _ _) g3
         have hsmN := need_small hcz (Ay hs3_1)
         have hvo : ∀ d ∈ D.dVotes, d.ok ∧ (Lit.int .i64 d.fPhase).wf = true := votes_ok2 hV
         rw [List.take_of_length_le oM, ← l2] at hov
         rw [List.take_of_length_le oM, ← l2] at hou
         refine Tr.lA rfl rfl rfl U45 rfl Sz45 mM (Kept.length (by first | exact oK  | exact hX | exact ok27 | exact ok43 | exact okr | exact Kept.zero_ok)) ?_
         refine Tr.m rfl rfl rfl ?_
         refine Tr.call4 rfl rfl rfl rfl rfl Body12 (keep_said_all Y27 ok27 (A1 D).1.dVotes h0 oM) (fun w h => (h27 w (Lies.of h iN)).fVotes) ?_
         rintro v126 out126 ⟨s126, rs126, rfl, o126⟩
         rw [Av hcz] at o126
         dsimp only at o126
         refine Tr.a rfl rfl rfl ?_
         refine Tr.nil (Aa (Sat.seq (Sat.seq (Sat.region ?_))))
         refine Tr.m rfl rfl rfl ?_
         refine Tr.m rfl rfl rfl ?_
         refine two (fun r hr k => Tr.gtr rfl rfl rfl rfl hr k) (fun hs27_20 => ?_) (fun hs27_20 => ?_)
         ·
          first | have hs27_2 := of_decide_eq_true hs27_20 | have hs27_2 := of_decide_eq_false hs27_20 | have hs27_2 := Bg hs27_20 | have hs27_2 := Bh hs27_20 | have hs27_2 := hs27_20
          refine Tr.m rfl rfl rfl ?_
          refine Tr.m rfl rfl rfl ?_
          refine Tr.lA rfl rfl rfl U45 rfl Sz45 mM (Kept.length (by first | exact oK  | exact hX | exact ok27 | exact ok43 | exact okr | exact Kept.zero_ok)) ?_
          refine Tr.m rfl rfl rfl ?_
          refine Tr.call rfl rfl rfl rfl Body12 (keep_said_all X hX D.dVotes h0 oM) (SaidR.loose (fun d hd => hvo d (List.mem_filter.1 hd).1)) (fun w h => Votes_ext h rfl hW.fVotes) ?_
          rintro v134 out134 ⟨s134, rs134, rfl, o134⟩
          refine Tr.cV rfl rfl rfl rfl Body20 ((Cb s126 s134 (D.dVotes.filter (eqV h0)) (D.dVotes.filter (eqV h0))).imp (fun w h => h) (fun v out h => by rwa [B9] at h)) (fun w h => ⟨by rw [said_more oM] at o126; exact ⟨_, o126.seq (Lies.of h iN) (fun b hb => (by cases hb)) oM⟩, ⟨_, o134.seq (Lies.of h iN) (fun b hb => (by cases hb)) oM⟩⟩) ?_
          refine Tr.not rfl rfl rfl ?_
          refine Tr.pick rfl rfl rfl rfl rfl rfl ?_
          refine Tr.m rfl rfl rfl ?_
          refine Tr.m rfl rfl rfl ?_
          refine Tr.m rfl rfl rfl ?_
          refine two (fun r hr k => Tr.leq rfl rfl rfl rfl hr k) (fun hs27_140 => ?_) (fun hs27_140 => ?_)
          ·
           first | have hs27_14 := of_decide_eq_true hs27_140 | have hs27_14 := of_decide_eq_false hs27_140 | have hs27_14 := Bg hs27_140 | have hs27_14 := Bh hs27_140 | have hs27_14 := hs27_140
           refine Tr.m rfl rfl rfl ?_
           refine Tr.m rfl rfl rfl ?_
           refine Tr.lenSl rfl rfl rfl U42 ?_
           refine Tr.gtr rfl rfl rfl rfl (decide_eq_false (by
            rw [said_none oM] at o126
            have hz0 := o126.acc.num
            simp only [List.length_nil] at hz0
            omega)) ?_
           refine Tr.pick rfl rfl rfl rfl rfl rfl ?_
           refine Tr.pick rfl rfl rfl rfl rfl rfl ?_
           refine Tr.nil (Aa ?_)
           refine Sat.cond_f rfl rfl ?_
           refine Sat.skip (Aa (Sat.seq (Sat.region ?_)))
           refine Tr.lA rfl rfl rfl U45 rfl Sz45 mM (Kept.length (by first | exact oK  | exact hX | exact ok27 | exact ok43 | exact okr | exact Kept.zero_ok)) ?_
           refine Tr.lA rfl rfl rfl U45 rfl Sz45 mM (Kept.length (by first | exact oK  | exact hX | exact ok27 | exact ok43 | exact okr | exact Kept.zero_ok)) ?_
           refine Tr.cV rfl rfl rfl rfl Body18 (Bl Z43 Y27 (A1 D).1 hsmN) (fun w h => ⟨h43 w (Lies.of h iN), h27 w (Lies.of h iN)⟩) ?_
           refine Tr.m rfl rfl rfl ?_
           refine Tr.fld rfl rfl rfl U45 rfl Sz40 dE _ rfl ?_
           refine Tr.load1 rfl rfl rfl U40 rfl mM (by first | exact Kept.get_fBlocks (by first | exact oK  | exact hX | exact ok27 | exact ok43 | exact okr | exact Kept.zero_ok) | exact vL) ?_
           refine Tr.fld rfl rfl rfl U45 rfl Sz40 dE _ rfl ?_
           refine Tr.load1 rfl rfl rfl U40 rfl mM (by first | exact Kept.get_fBlocks (by first | exact oK  | exact hX | exact ok27 | exact ok43 | exact okr | exact Kept.zero_ok) | exact vL) ?_
           refine Tr.cV rfl rfl rfl rfl Body21 ((kit_blocks Y27.fBlocks X.fBlocks D.dBlocks D.dBlocks (fun d hd => by have := (Ay hs3_1).blocks d hd; omega)).imp (fun w h => h) (fun v out h => by rwa [Aq Ca] at h)) (fun w h => ⟨by have := (h27 w (Lies.of h iN)).fBlocks; rwa [Av hcz] at this, Bk h rfl hW.fBlocks⟩) ?_
           refine Tr.pick rfl rfl rfl rfl rfl rfl ?_
           refine Tr.m rfl rfl rfl ?_
           refine Tr.fld rfl rfl rfl U45 rfl Sz41 dE _ rfl ?_
           refine Tr.load1 rfl rfl rfl U41 rfl mM (by first | exact Kept.get_fCerts (by first | exact oK  | exact hX | exact ok27 | exact ok43 | exact okr | exact Kept.zero_ok) | exact vL) ?_
           refine Tr.fld rfl rfl rfl U45 rfl Sz41 dE _ rfl ?_
           refine Tr.load1 rfl rfl rfl U41 rfl mM (by first | exact Kept.get_fCerts (by first | exact oK  | exact hX | exact ok27 | exact ok43 | exact okr | exact Kept.zero_ok) | exact vL) ?_
           refine Tr.cV rfl rfl rfl rfl Body22 ((kit_certs Y27.fCerts X.fCerts D.dCerts D.dCerts (fun d hd => by have := (Ay hs3_1).certs d hd; omega)).imp (fun w h => h) (fun v out h => by rwa [Aq sameE_self] at h)) (fun w h => ⟨by have := (h27 w (Lies.of h iN)).fCerts; rwa [Av hcz] at this, Bt h rfl hW.fCerts⟩) ?_
           refine Tr.pick rfl rfl rfl rfl rfl rfl ?_
           refine Tr.m rfl rfl rfl ?_
           refine Tr.fld rfl rfl rfl U45 rfl Sz42 dE _ rfl ?_
           refine Tr.load1 rfl rfl rfl U42 rfl mM (by first | exact Kept.get_fVotes (by first | exact oK  | exact hX | exact ok27 | exact ok43 | exact okr | exact Kept.zero_ok) | exact vL) ?_
           refine Tr.m rfl rfl rfl ?_
           refine Tr.cV rfl rfl rfl rfl Body20 ((Cb Y27.fVotes v.2.1 (D.dVotes.filter (gtV D.dCerts.length)) (D.dVotes.filter (gtV D.dCerts.length))).imp (fun w h => h) (fun v out h => by rwa [B9] at h)) (fun w h => ⟨by have := (h27 w (Lies.of h iN)).fVotes; rwa [Av hcz] at this, ⟨_, hov.seq (Lies.of h iN) (fun b hb => (by cases hb)) oM⟩⟩) ?_
           refine Tr.pick rfl rfl rfl rfl rfl rfl ?_
           refine Tr.m rfl rfl rfl ?_
           refine Tr.fld rfl rfl rfl U45 rfl Sz43 dE _ rfl ?_
           refine Tr.load1 rfl rfl rfl U43 rfl mM (by first | exact Kept.get_fCuts (by first | exact oK  | exact hX | exact ok27 | exact ok43 | exact okr | exact Kept.zero_ok) | exact vL) ?_
           refine Tr.m rfl rfl rfl ?_
           refine Tr.cV rfl rfl rfl rfl Body23 ((kit_cuts Y27.fCuts u.2.1 (D.dCuts.filter (gtC D.dCerts.length)) (D.dCuts.filter (gtC D.dCerts.length)) (fun d hd => by have := (Ay hs3_1).cuts d (List.mem_filter.1 hd).1; omega)).imp (fun w h => h) (fun v out h => by rwa [Aq sameC_self] at h)) (fun w h => ⟨by have := (h27 w (Lies.of h iN)).fCuts; rwa [Av hcz] at this, ⟨_, cuts_here h rfl (hou.seq (Lies.of h iN) (fun b hb => (by cases hb)) oM)⟩⟩) ?_
           refine Tr.pick rfl rfl rfl rfl rfl rfl ?_
           refine Tr.a rfl rfl rfl ?_
           refine Tr.nil (Aa (Sat.ret (Ak ?_)))
           refine ⟨_, [], Ae rfl rfl, sP, sP, ?_, rfl⟩
           rfl
          ·
           first | have hs27_14 := of_decide_eq_true hs27_140 | have hs27_14 := of_decide_eq_false hs27_140 | have hs27_14 := Bg hs27_140 | have hs27_14 := Bh hs27_140 | have hs27_14 := hs27_140
           refine Tr.m rfl rfl rfl ?_
           refine Tr.skp rfl rfl ?_
           refine Tr.skp rfl rfl ?_
           refine Tr.skp rfl rfl ?_
           refine Tr.pick rfl rfl rfl rfl rfl rfl ?_
           refine Tr.pick rfl rfl rfl rfl rfl rfl ?_
           refine Tr.nil (Aa ?_)
           refine Sat.cond_f rfl rfl ?_
           refine Sat.skip (Aa (Sat.seq (Sat.region ?_)))
           refine Tr.lA rfl rfl rfl U45 rfl Sz45 mM (Kept.length (by first | exact oK  | exact hX | exact ok27 | exact ok43 | exact okr | exact Kept.zero_ok)) ?_
           refine Tr.lA rfl rfl rfl U45 rfl Sz45 mM (Kept.length (by first | exact oK  | exact hX | exact ok27 | exact ok43 | exact okr | exact Kept.zero_ok)) ?_
           refine Tr.cV rfl rfl rfl rfl Body18 (Bl Z43 Y27 (A1 D).1 hsmN) (fun w h => ⟨h43 w (Lies.of h iN), h27 w (Lies.of h iN)⟩) ?_
           refine Tr.m rfl rfl rfl ?_
           refine Tr.fld rfl rfl rfl U45 rfl Sz40 dE _ rfl ?_
           refine Tr.load1 rfl rfl rfl U40 rfl mM (by first | exact Kept.get_fBlocks (by first | exact oK  | exact hX | exact ok27 | exact ok43 | exact okr | exact Kept.zero_ok) | exact vL) ?_
           refine Tr.fld rfl rfl rfl U45 rfl Sz40 dE _ rfl ?_
           refine Tr.load1 rfl rfl rfl U40 rfl mM (by first | exact Kept.get_fBlocks (by first | exact oK  | exact hX | exact ok27 | exact ok43 | exact okr | exact Kept.zero_ok) | exact vL) ?_
           refine Tr.cV rfl rfl rfl rfl Body21 ((kit_blocks Y27.fBlocks X.fBlocks D.dBlocks D.dBlocks (fun d hd => by have := (Ay hs3_1).blocks d hd; omega)).imp (fun w h => h) (fun v out h => by rwa [Aq Ca] at h)) (fun w h => ⟨by have := (h27 w (Lies.of h iN)).fBlocks; rwa [Av hcz] at this, Bk h rfl hW.fBlocks⟩) ?_
           refine Tr.pick rfl rfl rfl rfl rfl rfl ?_
           refine Tr.m rfl rfl rfl ?_
           refine Tr.fld rfl rfl rfl U45 rfl Sz41 dE _ rfl ?_
           refine Tr.load1 rfl rfl rfl U41 rfl mM (by first | exact Kept.get_fCerts (by first | exact oK  | exact hX | exact ok27 | exact ok43 | exact okr | exact Kept.zero_ok) | exact vL) ?_
           refine Tr.fld rfl rfl rfl U45 rfl Sz41 dE _ rfl ?_
           refine Tr.load1 rfl rfl rfl U41 rfl mM (by first | exact Kept.get_fCerts (by first | exact oK  | exact hX | exact ok27 | exact ok43 | exact okr | exact Kept.zero_ok) | exact vL) ?_
           refine Tr.cV rfl rfl rfl rfl Body22 ((kit_certs Y27.fCerts X.fCerts D.dCerts D.dCerts (fun d hd => by have := (Ay hs3_1).certs d hd; omega)).imp (fun w h => h) (fun v out h => by rwa [Aq sameE_self] at h)) (fun w h => ⟨by have := (h27 w (Lies.of h iN)).fCerts; rwa [Av hcz] at this, Bt h rfl hW.fCerts⟩) ?_
           refine Tr.pick rfl rfl rfl rfl rfl rfl ?_
           refine Tr.m rfl rfl rfl ?_
           refine Tr.fld rfl rfl rfl U45 rfl Sz42 dE _ rfl ?_
           refine Tr.load1 rfl rfl rfl U42 rfl mM (by first | exact Kept.get_fVotes (by first | exact oK  | exact hX | exact ok27 | exact ok43 | exact okr | exact Kept.zero_ok) | exact vL) ?_
           refine Tr.m rfl rfl rfl ?_
           refine Tr.cV rfl rfl rfl rfl Body20 ((Cb Y27.fVotes v.2.1 (D.dVotes.filter (gtV D.dCerts.length)) (D.dVotes.filter (gtV D.dCerts.length))).imp (fun w h => h) (fun v out h => by rwa [B9] at h)) (fun w h => ⟨by have := (h27 w (Lies.of h iN)).fVotes; rwa [Av hcz] at this, ⟨_, hov.seq (Lies.of h iN) (fun b hb => (by cases hb)) oM⟩⟩) ?_
           refine Tr.pick rfl rfl rfl rfl rfl rfl ?_
           refine Tr.m rfl rfl rfl ?_
           refine Tr.fld rfl rfl rfl U45 rfl Sz43 dE _ rfl ?_
           refine Tr.load1 rfl rfl rfl U43 rfl mM (by first | exact Kept.get_fCuts (by first | exact oK  | exact hX | exact ok27 | exact ok43 | exact okr | exact Kept.zero_ok) | exact vL) ?_
           refine Tr.m rfl rfl rfl ?_
           refine Tr.cV rfl rfl rfl rfl Body23 ((kit_cuts Y27.fCuts u.2.1 (D.dCuts.filter (gtC D.dCerts.length)) (D.dCuts.filter (gtC D.dCerts.length)) (fun d hd => by have := (Ay hs3_1).cuts d (List.mem_filter.1 hd).1; omega)).imp (fun w h => h) (fun v out h => by rwa [Aq sameC_self] at h)) (fun w h => ⟨by have := (h27 w (Lies.of h iN)).fCuts; rwa [Av hcz] at this, ⟨_, cuts_here h rfl (hou.seq (Lies.of h iN) (fun b hb => (by cases hb)) oM)⟩⟩) ?_
           refine Tr.pick rfl rfl rfl rfl rfl rfl ?_
           refine Tr.a rfl rfl rfl ?_
           refine Tr.nil (Aa (Sat.ret (Ak ?_)))
           refine ⟨_, [], Ae rfl rfl, sP, sP, ?_, rfl⟩
           rfl
         ·
          first | have hs27_2 := of_decide_eq_true hs27_20 | have hs27_2 := of_decide_eq_false hs27_20 | have hs27_2 := Bg hs27_20 | have hs27_2 := Bh hs27_20 | have hs27_2 := hs27_20
          refine Tr.m rfl rfl rfl ?_
          refine Tr.skp rfl rfl ?_
          refine Tr.skp rfl rfl ?_
          refine Tr.skp rfl rfl ?_
          refine Tr.skp rfl rfl ?_
          refine Tr.skp rfl rfl ?_
          refine Tr.skp rfl rfl ?_
          refine Tr.pick rfl rfl rfl rfl rfl rfl ?_
          refine Tr.m rfl rfl rfl ?_
          refine Tr.m rfl rfl rfl ?_
          refine Tr.m rfl rfl rfl ?_
          refine two (fun r hr k => Tr.leq rfl rfl rfl rfl hr k) (fun hs27_140 => ?_) (fun hs27_140 => ?_)
          ·
           first | have hs27_14 := of_decide_eq_true hs27_140 | have hs27_14 := of_decide_eq_false hs27_140 | have hs27_14 := Bg hs27_140 | have hs27_14 := Bh hs27_140 | have hs27_14 := hs27_140
           refine Tr.m rfl rfl rfl ?_
           refine Tr.m rfl rfl rfl ?_
           refine Tr.lenSl rfl rfl rfl U42 ?_
           refine Tr.gtr rfl rfl rfl rfl (decide_eq_false (by
            rw [said_none oM] at o126
            have hz0 := o126.acc.num
            simp only [List.length_nil] at hz0
            omega)) ?_
           refine Tr.pick rfl rfl rfl rfl rfl rfl ?_
           refine Tr.pick rfl rfl rfl rfl rfl rfl ?_
           refine Tr.nil (Aa ?_)
           refine Sat.cond_f rfl rfl ?_
           refine Sat.skip (Aa (Sat.seq (Sat.region ?_)))
           refine Tr.lA rfl rfl rfl U45 rfl Sz45 mM (Kept.length (by first | exact oK  | exact hX | exact ok27 | exact ok43 | exact okr | exact Kept.zero_ok)) ?_
           refine Tr.lA rfl rfl rfl U45 rfl Sz45 mM (Kept.length (by first | exact oK  | exact hX | exact ok27 | exact ok43 | exact okr | exact Kept.zero_ok)) ?_
           refine Tr.cV rfl rfl rfl rfl Body18 (Bl Z43 Y27 (A1 D).1 hsmN) (fun w h => ⟨h43 w (Lies.of h iN), h27 w (Lies.of h iN)⟩) ?_
           refine Tr.m rfl rfl rfl ?_
           refine Tr.fld rfl rfl rfl U45 rfl Sz40 dE _ rfl ?_
           refine Tr.load1 rfl rfl rfl U40 rfl mM (by first | exact Kept.get_fBlocks (by first | exact oK  | exact hX | exact ok27 | exact ok43 | exact okr | exact Kept.zero_ok) | exact vL) ?_
           refine Tr.fld rfl rfl rfl U45 rfl Sz40 dE _ rfl ?_
           refine Tr.load1 rfl rfl rfl U40 rfl mM (by first | exact Kept.get_fBlocks (by first | exact oK  | exact hX | exact ok27 | exact ok43 | exact okr | exact Kept.zero_ok) | exact vL) ?_
           refine Tr.cV rfl rfl rfl rfl Body21 ((kit_blocks Y27.fBlocks X.fBlocks D.dBlocks D.dBlocks (fun d hd => by have := (Ay hs3_1).blocks d hd; omega)).imp (fun w h => h) (fun v out h => by rwa [Aq Ca] at h)) (fun w h => ⟨by have := (h27 w (Lies.of h iN)).fBlocks; rwa [Av hcz] at this, Bk h rfl hW.fBlocks⟩) ?_
           refine Tr.pick rfl rfl rfl rfl rfl rfl ?_
           refine Tr.m rfl rfl rfl ?_
           refine Tr.fld rfl rfl rfl U45 rfl Sz41 dE _ rfl ?_
           refine Tr.load1 rfl rfl rfl U41 rfl mM (by first | exact Kept.get_fCerts (by first | exact oK  | exact hX | exact ok27 | exact ok43 | exact okr | exact Kept.zero_ok) | exact vL) ?_
           refine Tr.fld rfl rfl rfl U45 rfl Sz41 dE _ rfl ?_
           refine Tr.load1 rfl rfl rfl U41 rfl mM (by first | exact Kept.get_fCerts (by first | exact oK  | exact hX | exact ok27 | exact ok43 | exact okr | exact Kept.zero_ok) | exact vL) ?_
           refine Tr.cV rfl rfl rfl rfl Body22 ((kit_certs Y27.fCerts X.fCerts D.dCerts D.dCerts (fun d hd => by have := (Ay hs3_1).certs d hd; omega)).imp (fun w h => h) (fun v out h => by rwa [Aq sameE_self] at h)) (fun w h => ⟨by have := (h27 w (Lies.of h iN)).fCerts; rwa [Av hcz] at this, Bt h rfl hW.fCerts⟩) ?_
           refine Tr.pick rfl rfl rfl rfl rfl rfl ?_
           refine Tr.m rfl rfl rfl ?_
           refine Tr.fld rfl rfl rfl U45 rfl Sz42 dE _ rfl ?_
           refine Tr.load1 rfl rfl rfl U42 rfl mM (by first | exact Kept.get_fVotes (by first | exact oK  | exact hX | exact ok27 | exact ok43 | exact okr | exact Kept.zero_ok) | exact vL) ?_
           refine Tr.m rfl rfl rfl ?_
           refine Tr.cV rfl rfl rfl rfl Body20 ((Cb Y27.fVotes v.2.1 (D.dVotes.filter (gtV D.dCerts.length)) (D.dVotes.filter (gtV D.dCerts.length))).imp (fun w h => h) (fun v out h => by rwa [B9] at h)) (fun w h => ⟨by have := (h27 w (Lies.of h iN)).fVotes; rwa [Av hcz] at this, ⟨_, hov.seq (Lies.of h iN) (fun b hb => (by cases hb)) oM⟩⟩) ?_
           refine Tr.pick rfl rfl rfl rfl rfl rfl ?_
           refine Tr.m rfl rfl rfl ?_
           refine Tr.fld rfl rfl rfl U45 rfl Sz43 dE _ rfl ?_
           refine Tr.load1 rfl rfl rfl U43 rfl mM (by first | exact Kept.get_fCuts (by first | exact oK  | exact hX | exact ok27 | exact ok43 | exact okr | exact Kept.zero_ok) | exact vL) ?_
           refine Tr.m rfl rfl rfl ?_
           refine Tr.cV rfl rfl rfl rfl Body23 ((kit_cuts Y27.fCuts u.2.1 (D.dCuts.filter (gtC D.dCerts.length)) (D.dCuts.filter (gtC D.dCerts.length)) (fun d hd => by have := (Ay hs3_1).cuts d (List.mem_filter.1 hd).1; omega)).imp (fun w h => h) (fun v out h => by rwa [Aq sameC_self] at h)) (fun w h => ⟨by have := (h27 w (Lies.of h iN)).fCuts; rwa [Av hcz] at this, ⟨_, cuts_here h rfl (hou.seq (Lies.of h iN) (fun b hb => (by cases hb)) oM)⟩⟩) ?_
           refine Tr.pick rfl rfl rfl rfl rfl rfl ?_
           refine Tr.a rfl rfl rfl ?_
           refine Tr.nil (Aa (Sat.ret (Ak ?_)))
           refine ⟨_, [], Ae rfl rfl, sP, sP, ?_, rfl⟩
           rfl
          ·
           first | have hs27_14 := of_decide_eq_true hs27_140 | have hs27_14 := of_decide_eq_false hs27_140 | have hs27_14 := Bg hs27_140 | have hs27_14 := Bh hs27_140 | have hs27_14 := hs27_140
           refine Tr.m rfl rfl rfl ?_
           refine Tr.skp rfl rfl ?_
           refine Tr.skp rfl rfl ?_
           refine Tr.skp rfl rfl ?_
           refine Tr.pick rfl rfl rfl rfl rfl rfl ?_
           refine Tr.pick rfl rfl rfl rfl rfl rfl ?_
           refine Tr.nil (Aa ?_)
           refine Sat.cond_f rfl rfl ?_
           refine Sat.skip (Aa (Sat.seq (Sat.region ?_)))
           refine Tr.lA rfl rfl rfl U45 rfl Sz45 mM (Kept.length (by first | exact oK  | exact hX | exact ok27 | exact ok43 | exact okr | exact Kept.zero_ok)) ?_
           refine Tr.lA rfl rfl rfl U45 rfl Sz45 mM (Kept.length (by first | exact oK  | exact hX | exact ok27 | exact ok43 | exact okr | exact Kept.zero_ok)) ?_
           refine Tr.cV rfl rfl rfl rfl Body18 (Bl Z43 Y27 (A1 D).1 hsmN) (fun w h => ⟨h43 w (Lies.of h iN), h27 w (Lies.of h iN)⟩) ?_
           refine Tr.m rfl rfl rfl ?_
           refine Tr.fld rfl rfl rfl U45 rfl Sz40 dE _ rfl ?_
           refine Tr.load1 rfl rfl rfl U40 rfl mM (by first | exact Kept.get_fBlocks (by first | exact oK  | exact hX | exact ok27 | exact ok43 | exact okr | exact Kept.zero_ok) | exact vL) ?_
           refine Tr.fld rfl rfl rfl U45 rfl Sz40 dE _ rfl ?_
           refine Tr.load1 rfl rfl rfl U40 rfl mM (by first | exact Kept.get_fBlocks (by first | exact oK  | exact hX | exact ok27 | exact ok43 | exact okr | exact Kept.zero_ok) | exact vL) ?_
           refine Tr.cV rfl rfl rfl rfl Body21 ((kit_blocks Y27.fBlocks X.fBlocks D.dBlocks D.dBlocks (fun d hd => by have := (Ay hs3_1).blocks d hd; omega)).imp (fun w h => h) (fun v out h => by rwa [Aq Ca] at h)) (fun w h => ⟨by have := (h27 w (Lies.of h iN)).fBlocks; rwa [Av hcz] at this, Bk h rfl hW.fBlocks⟩) ?_
           refine Tr.pick rfl rfl rfl rfl rfl rfl ?_
           refine Tr.m rfl rfl rfl ?_
           refine Tr.fld rfl rfl rfl U45 rfl Sz41 dE _ rfl ?_
           refine Tr.load1 rfl rfl rfl U41 rfl mM (by first | exact Kept.get_fCerts (by first | exact oK  | exact hX | exact ok27 | exact ok43 | exact okr | exact Kept.zero_ok) | exact vL) ?_
           refine Tr.fld rfl rfl rfl U45 rfl Sz41 dE _ rfl ?_
           refine Tr.load1 rfl rfl rfl U41 rfl mM (by first | exact Kept.get_fCerts (by first | exact oK  | exact hX | exact ok27 | exact ok43 | exact okr | exact Kept.zero_ok) | exact vL) ?_
           refine Tr.cV rfl rfl rfl rfl Body22 ((kit_certs Y27.fCerts X.fCerts D.dCerts D.dCerts (fun d hd => by have := (Ay hs3_1).certs d hd; omega)).imp (fun w h => h) (fun v out h => by rwa [Aq sameE_self] at h)) (fun w h => ⟨by have := (h27 w (Lies.of h iN)).fCerts; rwa [Av hcz] at this, Bt h rfl hW.fCerts⟩) ?_
           refine Tr.pick rfl rfl rfl rfl rfl rfl ?_
           refine Tr.m rfl rfl rfl ?_
           refine Tr.fld rfl rfl rfl U45 rfl Sz42 dE _ rfl ?_
           refine Tr.load1 rfl rfl rfl U42 rfl mM (by first | exact Kept.get_fVotes (by first | exact oK  | exact hX | exact ok27 | exact ok43 | exact okr | exact Kept.zero_ok) | exact vL) ?_
           refine Tr.m rfl rfl rfl ?_
           refine Tr.cV rfl rfl rfl rfl Body20 ((Cb Y27.fVotes v.2.1 (D.dVotes.filter (gtV D.dCerts.length)) (D.dVotes.filter (gtV D.dCerts.length))).imp (fun w h => h) (fun v out h => by rwa [B9] at h)) (fun w h => ⟨by have := (h27 w (Lies.of h iN)).fVotes; rwa [Av hcz] at this, ⟨_, hov.seq (Lies.of h iN) (fun b hb => (by cases hb)) oM⟩⟩) ?_
           refine Tr.pick rfl rfl rfl rfl rfl rfl ?_
           refine Tr.m rfl rfl rfl ?_
           refine Tr.fld rfl rfl rfl U45 rfl Sz43 dE _ rfl ?_
           refine Tr.load1 rfl rfl rfl U43 rfl mM (by first | exact Kept.get_fCuts (by first | exact oK  | exact hX | exact ok27 | exact ok43 | exact okr | exact Kept.zero_ok) | exact vL) ?_
           refine Tr.m rfl rfl rfl ?_
           refine Tr.cV rfl rfl rfl rfl Body23 ((kit_cuts Y27.fCuts u.2.1 (D.dCuts.filter (gtC D.dCerts.length)) (D.dCuts.filter (gtC D.dCerts.length)) (fun d hd => by have := (Ay hs3_1).cuts d (List.mem_filter.1 hd).1; omega)).imp (fun w h => h) (fun v out h => by rwa [Aq sameC_self] at h)) (fun w h => ⟨by have := (h27 w (Lies.of h iN)).fCuts; rwa [Av hcz] at this, ⟨_, cuts_here h rfl (hou.seq (Lies.of h iN) (fun b hb => (by cases hb)) oM)⟩⟩) ?_
           refine Tr.pick rfl rfl rfl rfl rfl rfl ?_
           refine Tr.a rfl rfl rfl ?_
           refine Tr.nil (Aa (Sat.ret (Ak ?_)))
           refine ⟨_, [], Ae rfl rfl, sP, sP, ?_, rfl⟩
           rfl
       ·
        first | have hs24_1 := of_decide_eq_true hs24_10 | have hs24_1 := of_decide_eq_false hs24_10 | have hs24_1 := Bg hs24_10 | have hs24_1 := Bh hs24_10 | have hs24_1 := hs24_10
        refine Tr.m rfl rfl rfl ?_
        refine Tr.skp rfl rfl ?_
        refine Tr.skp rfl rfl ?_
        refine Tr.pick rfl rfl rfl rfl rfl rfl ?_
        refine Tr.m rfl rfl rfl ?_
        refine Tr.skp rfl rfl ?_
        refine Tr.skp rfl rfl ?_
        refine Tr.skp rfl rfl ?_
        refine Tr.skp rfl rfl ?_
        refine Tr.skp rfl rfl ?_
        refine Tr.pick rfl rfl rfl rfl rfl rfl ?_
        refine Tr.m rfl rfl rfl ?_
        refine Tr.m rfl rfl rfl ?_
        refine Tr.nei rfl rfl rfl rfl (show (!decide _) = false from congrArg not (decide_eq_true dE)) ?_
        refine Tr.pick rfl rfl rfl rfl rfl rfl ?_
        refine Tr.nil (Aa ?_)
        refine Sat.cond_f rfl rfl ?_
        refine Sat.skip (Aa (Sat.seq (Sat.region ?_)))
        have hlf : (D.dVotes.filter (eqV h0)).length ≤ 12 := Nat.le_trans (List.length_filter_le _ _) g3
        have hsmN := need_small hcz (Ay hs3_1)
        have hvo : ∀ d ∈ D.dVotes, d.ok ∧ (Lit.int .i64 d.fPhase).wf = true := votes_ok2 hV
        rw [List.take_of_length_le oM, ← l2] at hov
        rw [List.take_of_length_le oM, ← l2] at hou
        refine Tr.lA rfl rfl rfl U45 rfl Sz45 mM (Kept.length (by first | exact oK  | exact hX | exact ok27 | exact ok43 | exact okr | exact Kept.zero_ok)) ?_
        refine Tr.m rfl rfl rfl ?_
        refine Tr.call4 rfl rfl rfl rfl rfl Body12 (keep_said_all Y27 ok27 (A1 D).1.dVotes h0 oM) (fun w h => (h27 w (Lies.of h iN)).fVotes) ?_
        rintro v126 out126 ⟨s126, rs126, rfl, o126⟩
        rw [Av hcz] at o126
        dsimp only at o126
        refine Tr.a rfl rfl rfl ?_
        refine Tr.nil (Aa (Sat.seq (Sat.seq (Sat.region ?_))))
        refine Tr.m rfl rfl rfl ?_
        refine Tr.m rfl rfl rfl ?_
        refine two (fun r hr k => Tr.gtr rfl rfl rfl rfl hr k) (fun hs27_20 => ?_) (fun hs27_20 => ?_)
        ·
         first | have hs27_2 := of_decide_eq_true hs27_20 | have hs27_2 := of_decide_eq_false hs27_20 | have hs27_2 := Bg hs27_20 | have hs27_2 := Bh hs27_20 | have hs27_2 := hs27_20
         refine Tr.m rfl rfl rfl ?_
         refine Tr.m rfl rfl rfl ?_
         refine Tr.lA rfl rfl rfl U45 rfl Sz45 mM (Kept.length (by first | exact oK  | exact hX | exact ok27 | exact ok43 | exact okr | exact Kept.zero_ok)) ?_
         refine Tr.m rfl rfl rfl ?_
         refine Tr.call rfl rfl rfl rfl Body12 (keep_said_all X hX D.dVotes h0 oM) (SaidR.loose (fun d hd => hvo d (List.mem_filter.1 hd).1)) (fun w h => Votes_ext h rfl hW.fVotes) ?_
         rintro v134 out134 ⟨s134, rs134, rfl, o134⟩
         refine Tr.cV rfl rfl rfl rfl Body20 ((Cb s126 s134 (D.dVotes.filter (eqV h0)) (D.dVotes.filter (eqV h0))).imp (fun w h => h) (fun v out h => by rwa [B9] at h)) (fun w h => ⟨by rw [said_more oM] at o126; exact ⟨_, o126.seq (Lies.of h iN) (fun b hb => (by cases hb)) oM⟩, ⟨_, o134.seq (Lies.of h iN) (fun b hb => (by cases hb)) oM⟩⟩) ?_
         refine Tr.not rfl rfl rfl ?_
         refine Tr.pick rfl rfl rfl rfl rfl rfl ?_
         refine Tr.m rfl rfl rfl ?_
         refine Tr.m rfl rfl rfl ?_
         refine Tr.m rfl rfl rfl ?_
         refine two (fun r hr k => Tr.leq rfl rfl rfl rfl hr k) (fun hs27_140 => ?_) (fun hs27_140 => ?_)
         ·
          first | have hs27_14 := of_decide_eq_true hs27_140 | have hs27_14 := of_decide_eq_false hs27_140 | have hs27_14 := Bg hs27_140 | have hs27_14 := Bh hs27_140 | have hs27_14 := hs27_140
          refine Tr.m rfl rfl rfl ?_
          refine Tr.m rfl rfl rfl ?_
          refine Tr.lenSl rfl rfl rfl U42 ?_
          refine Tr.gtr rfl rfl rfl rfl (decide_eq_false (by
           rw [said_none oM] at o126
           have hz0 := o126.acc.num
           simp only [List.length_nil] at hz0
           omega)) ?_
          refine Tr.pick rfl rfl rfl rfl rfl rfl ?_
          refine Tr.pick rfl rfl rfl rfl rfl rfl ?_
          refine Tr.nil (Aa ?_)
          refine Sat.cond_f rfl rfl ?_
          refine Sat.skip (Aa (Sat.seq (Sat.region ?_)))
          refine Tr.lA rfl rfl rfl U45 rfl Sz45 mM (Kept.length (by first | exact oK  | exact hX | exact ok27 | exact ok43 | exact okr | exact Kept.zero_ok)) ?_
          refine Tr.lA rfl rfl rfl U45 rfl Sz45 mM (Kept.length (by first | exact oK  | exact hX | exact ok27 | exact ok43 | exact okr | exact Kept.zero_ok)) ?_
          refine Tr.cV rfl rfl rfl rfl Body18 (Bl Z43 Y27 (A1 D).1 hsmN) (fun w h => ⟨h43 w (Lies.of h iN), h27 w (Lies.of h iN)⟩) ?_
          refine Tr.m rfl rfl rfl ?_
          refine Tr.fld rfl rfl rfl U45 rfl Sz40 dE _ rfl ?_
          refine Tr.load1 rfl rfl rfl U40 rfl mM (by first | exact Kept.get_fBlocks (by first | exact oK  | exact hX | exact ok27 | exact ok43 | exact okr | exact Kept.zero_ok) | exact vL) ?_
          refine Tr.fld rfl rfl rfl U45 rfl Sz40 dE _ rfl ?_
          refine Tr.load1 rfl rfl rfl U40 rfl mM (by first | exact Kept.get_fBlocks (by first | exact oK  | exact hX | exact ok27 | exact ok43 | exact okr | exact Kept.zero_ok) | exact vL) ?_
          refine Tr.cV rfl rfl rfl rfl Body21 ((kit_blocks Y27.fBlocks X.fBlocks D.dBlocks D.dBlocks (fun d hd => by have := (Ay hs3_1).blocks d hd; omega)).imp (fun w h => h) (fun v out h => by rwa [Aq Ca] at h)) (fun w h => ⟨by have := (h27 w (Lies.of h iN)).fBlocks; rwa [Av hcz] at this, Bk h rfl hW.fBlocks⟩) ?_
          refine Tr.pick rfl rfl rfl rfl rfl rfl ?_
          refine Tr.m rfl rfl rfl ?_
          refine Tr.fld rfl rfl rfl U45 rfl Sz41 dE _ rfl ?_
          refine Tr.load1 rfl rfl rfl U41 rfl mM (by first | exact Kept.get_fCerts (by first | exact oK  | exact hX | exact ok27 | exact ok43 | exact okr | exact Kept.zero_ok) | exact vL) ?_
          refine Tr.fld rfl rfl rfl U45 rfl Sz41 dE _ rfl ?_
          refine Tr.load1 rfl rfl rfl U41 rfl mM (by first | exact Kept.get_fCerts (by first | exact oK  | exact hX | exact ok27 | exact ok43 | exact okr | exact Kept.zero_ok) | exact vL) ?_
          refine Tr.cV rfl rfl rfl rfl Body22 ((kit_certs Y27.fCerts X.fCerts D.dCerts D.dCerts (fun d hd => by have := (Ay hs3_1).certs d hd; omega)).imp (fun w h => h) (fun v out h => by rwa [Aq sameE_self] at h)) (fun w h => ⟨by have := (h27 w (Lies.of h iN)).fCerts; rwa [Av hcz] at this, Bt h rfl hW.fCerts⟩) ?_
          refine Tr.pick rfl rfl rfl rfl rfl rfl ?_
          refine Tr.m rfl rfl rfl ?_
          refine Tr.fld rfl rfl rfl U45 rfl Sz42 dE _ rfl ?_
          refine Tr.load1 rfl rfl rfl U42 rfl mM (by first | exact Kept.get_fVotes (by first | exact oK  | exact hX | exact ok27 | exact ok43 | exact okr | exact Kept.zero_ok) | exact vL) ?_
          refine Tr.m rfl rfl rfl ?_
          refine Tr.cV rfl rfl rfl rfl Body20 ((Cb Y27.fVotes v.2.1 (D.dVotes.filter (gtV D.dCerts.length)) (D.dVotes.filter (gtV D.dCerts.length))).imp (fun w h => h) (fun v out h => by rwa [B9] at h)) (fun w h => ⟨by have := (h27 w (Lies.of h iN)).fVotes; rwa [Av hcz] at this, ⟨_, hov.seq (Lies.of h iN) (fun b hb => (by cases hb)) oM⟩⟩) ?_
          refine Tr.pick rfl rfl rfl rfl rfl rfl ?_
          refine Tr.m rfl rfl rfl ?_
          refine Tr.fld rfl rfl rfl U45 rfl Sz43 dE _ rfl ?_
          refine Tr.load1 rfl rfl rfl U43 rfl mM (by first | exact Kept.get_fCuts (by first | exact oK  | exact hX | exact ok27 | exact ok43 | exact okr | exact Kept.zero_ok) | exact vL) ?_
          refine Tr.m rfl rfl rfl ?_
          refine Tr.cV rfl rfl rfl rfl Body23 ((kit_cuts Y27.fCuts u.2.1 (D.dCuts.filter (gtC D.dCerts.length)) (D.dCuts.filter (gtC D.dCerts.length)) (fun d hd => by have := (Ay hs3_1).cuts d (List.mem_filter.1 hd).1; omega)).imp (fun w h => h) (fun v out h => by rwa [Aq sameC_self] at h)) (fun w h => ⟨by have := (h27 w (Lies.of h iN)).fCuts; rwa [Av hcz] at this, ⟨_, cuts_here h rfl (hou.seq (Lies.of h iN) (fun b hb => (by cases hb)) oM)⟩⟩) ?_
          refine Tr.pick rfl rfl rfl rfl rfl rfl ?_
          refine Tr.a rfl rfl rfl ?_
          refine Tr.nil (Aa (Sat.ret (Ak ?_)))
          refine ⟨_, [], Ae rfl rfl, sP, sP, ?_, rfl⟩
          rfl
         ·
          first | have hs27_14 := of_decide_eq_true hs27_140 | have hs27_14 := of_decide_eq_false hs27_140 | have hs27_14 := Bg hs27_140 | have hs27_14 := Bh hs27_140 | have hs27_14 := hs27_140
          refine Tr.m rfl rfl rfl ?_
          refine Tr.skp rfl rfl ?_
          refine Tr.skp rfl rfl ?_
          refine Tr.skp rfl rfl ?_
          refine Tr.pick rfl rfl rfl rfl rfl rfl ?_
          refine Tr.pick rfl rfl rfl rfl rfl rfl ?_
          refine Tr.nil (Aa ?_)
          refine Sat.cond_f rfl rfl ?_
          refine Sat.skip (Aa (Sat.seq (Sat.region ?_)))
          refine Tr.lA rfl rfl rfl U45 rfl Sz45 mM (Kept.length (by first | exact oK  | exact hX | exact ok27 | exact ok43 | exact okr | exact Kept.zero_ok)) ?_
          refine Tr.lA rfl rfl rfl U45 rfl Sz45 mM (Kept.length (by first | exact oK  | exact hX | exact ok27 | exact ok43 | exact okr | exact Kept.zero_ok)) ?_
          refine Tr.cV rfl rfl rfl rfl Body18 (Bl Z43 Y27 (A1 D).1 hsmN) (fun w h => ⟨h43 w (Lies.of h iN), h27 w (Lies.of h iN)⟩) ?_
          refine Tr.m rfl rfl rfl ?_
          refine Tr.fld rfl rfl rfl U45 rfl Sz40 dE _ rfl ?_
          refine Tr.load1 rfl rfl rfl U40 rfl mM (by first | exact Kept.get_fBlocks (by first | exact oK  | exact hX | exact ok27 | exact ok43 | exact okr | exact Kept.zero_ok) | exact vL) ?_
          refine Tr.fld rfl rfl rfl U45 rfl Sz40 dE _ rfl ?_
          refine Tr.load1 rfl rfl rfl U40 rfl mM (by first | exact Kept.get_fBlocks (by first | exact oK  | exact hX | exact ok27 | exact ok43 | exact okr | exact Kept.zero_ok) | exact vL) ?_
          refine Tr.cV rfl rfl rfl rfl Body21 ((kit_blocks Y27.fBlocks X.fBlocks D.dBlocks D.dBlocks (fun d hd => by have := (Ay hs3_1).blocks d hd; omega)).imp (fun w h => h) (fun v out h => by rwa [Aq Ca] at h)) (fun w h => ⟨by have := (h27 w (Lies.of h iN)).fBlocks; rwa [Av hcz] at this, Bk h rfl hW.fBlocks⟩) ?_
          refine Tr.pick rfl rfl rfl rfl rfl rfl ?_
          refine Tr.m rfl rfl rfl ?_
          refine Tr.fld rfl rfl rfl U45 rfl Sz41 dE _ rfl ?_
          refine Tr.load1 rfl rfl rfl U41 rfl mM (by first | exact Kept.get_fCerts (by first | exact oK  | exact hX | exact ok27 | exact ok43 | exact okr | exact Kept.zero_ok) | exact vL) ?_
          refine Tr.fld rfl rfl rfl U45 rfl Sz41 dE _ rfl ?_
          refine Tr.load1 rfl rfl rfl U41 rfl mM (by first | exact Kept.get_fCerts (by first | exact oK  | exact hX | exact ok27 | exact ok43 | exact okr | exact Kept.zero_ok) | exact vL) ?_
          refine Tr.cV rfl rfl rfl rfl Body22 ((kit_certs Y27.fCerts X.fCerts D.dCerts D.dCerts (fun d hd => by have := (Ay hs3_1).certs d hd; omega)).imp (fun w h => h) (fun v out h => by rwa [Aq sameE_self] at h)) (fun w h => ⟨by have := (h27 w (Lies.of h iN)).fCerts; rwa [Av hcz] at this, Bt h rfl hW.fCerts⟩) ?_
          refine Tr.pick rfl rfl rfl rfl rfl rfl ?_
          refine Tr.m rfl rfl rfl ?_
          refine Tr.fld rfl rfl rfl U45 rfl Sz42 dE _ rfl ?_
          refine Tr.load1 rfl rfl rfl U42 rfl mM (by first | exact Kept.get_fVotes (by first | exact oK  | exact hX | exact ok27 | exact ok43 | exact okr | exact Kept.zero_ok) | exact vL) ?_
          refine Tr.m rfl rfl rfl ?_
          refine Tr.cV rfl rfl rfl rfl Body20 ((Cb Y27.fVotes v.2.1 (D.dVotes.filter (gtV D.dCerts.length)) (D.dVotes.filter (gtV D.dCerts.length))).imp (fun w h => h) (fun v out h => by rwa [B9] at h)) (fun w h => ⟨by have := (h27 w (Lies.of h iN)).fVotes; rwa [Av hcz] at this, ⟨_, hov.seq (Lies.of h iN) (fun b hb => (by cases hb)) oM⟩⟩) ?_
          refine Tr.pick rfl rfl rfl rfl rfl rfl ?_
          refine Tr.m rfl rfl rfl ?_
          refine Tr.fld rfl rfl rfl U45 rfl Sz43 dE _ rfl ?_
          refine Tr.load1 rfl rfl rfl U43 rfl mM (by first | exact Kept.get_fCuts (by first | exact oK  | exact hX | exact ok27 | exact ok43 | exact okr | exact Kept.zero_ok) | exact vL) ?_
          refine Tr.m rfl rfl rfl ?_
          refine Tr.cV rfl rfl rfl rfl Body23 ((kit_cuts Y27.fCuts u.2.1 (D.dCuts.filter (gtC D.dCerts.length)) (D.dCuts.filter (gtC D.dCerts.length)) (fun d hd => by have := (Ay hs3_1).cuts d (List.mem_filter.1 hd).1; omega)).imp (fun w h => h) (fun v out h => by rwa [Aq sameC_self] at h)) (fun w h => ⟨by have := (h27 w (Lies.of h iN)).fCuts; rwa [Av hcz] at this, ⟨_, cuts_here h rfl (hou.seq (Lies.of h iN) (fun b hb => (by cases hb)) oM)⟩⟩) ?_
          refine Tr.pick rfl rfl rfl rfl rfl rfl ?_
          refine Tr.a rfl rfl rfl ?_
          refine Tr.nil (Aa (Sat.ret (Ak ?_)))
          refine ⟨_, [], Ae rfl rfl, sP, sP, ?_, rfl⟩
          rfl
        ·
         first | have hs27_2 := of_decide_eq_true hs27_20 | have hs27_2 := of_decide_eq_false hs27_20 | have hs27_2 := Bg hs27_20 | have hs27_2 := Bh hs27_20 | have hs27_2 := hs27_20
         refine Tr.m rfl rfl rfl ?_
         refine Tr.skp rfl rfl ?_
         refine Tr.skp rfl rfl ?_
         refine Tr.skp rfl rfl ?_
         refine Tr.skp rfl rfl ?_
         refine Tr.skp rfl rfl ?_
         refine Tr.skp rfl rfl ?_
         refine Tr.pick rfl rfl rfl rfl rfl rfl ?_
         refine Tr.m rfl rfl rfl ?_
         refine Tr.m rfl rfl rfl ?_
         refine Tr.m rfl rfl rfl ?_
         refine two (fun r hr k => Tr.leq rfl rfl rfl rfl hr k) (fun hs27_140 => ?_) (fun hs27_140 => ?_)
         ·
          first | have hs27_14 := of_decide_eq_true hs27_140 | have hs27_14 := of_decide_eq_false hs27_140 | have hs27_14 := Bg hs27_140 | have hs27_14 := Bh hs27_140 | have hs27_14 := hs27_140
          refine Tr.m rfl rfl rfl ?_
          refine Tr.m rfl rfl rfl ?_
          refine Tr.lenSl rfl rfl rfl U42 ?_
          refine Tr.gtr rfl rfl rfl rfl (decide_eq_false (by
           rw [said_none oM] at o126
           have hz0 := o126.acc.num
           simp only [List.length_nil] at hz0
           omega)) ?_
          refine Tr.pick rfl rfl rfl rfl rfl rfl ?_
          refine Tr.pick rfl rfl rfl rfl rfl rfl ?_
          refine Tr.nil (Aa ?_)
          refine Sat.cond_f rfl rfl ?_
          refine Sat.skip (Aa (Sat.seq (Sat.region ?_)))
          refine Tr.lA rfl rfl rfl U45 rfl Sz45 mM (Kept.length (by first | exact oK  | exact hX | exact ok27 | exact ok43 | exact okr | exact Kept.zero_ok)) ?_
          refine Tr.lA rfl rfl rfl U45 rfl Sz45 mM (Kept.length (by first | exact oK  | exact hX | exact ok27 | exact ok43 | exact okr | exact Kept.zero_ok)) ?_
          refine Tr.cV rfl rfl rfl rfl Body18 (Bl Z43 Y27 (A1 D).1 hsmN) (fun w h => ⟨h43 w (Lies.of h iN), h27 w (Lies.of h iN)⟩) ?_
          refine Tr.m rfl rfl rfl ?_
          refine Tr.fld rfl rfl rfl U45 rfl Sz40 dE _ rfl ?_
          refine Tr.load1 rfl rfl rfl U40 rfl mM (by first | exact Kept.get_fBlocks (by first | exact oK  | exact hX | exact ok27 | exact ok43 | exact okr | exact Kept.zero_ok) | exact vL) ?_
          refine Tr.fld rfl rfl rfl U45 rfl Sz40 dE _ rfl ?_
          refine Tr.load1 rfl rfl rfl U40 rfl mM (by first | exact Kept.get_fBlocks (by first | exact oK  | exact hX | exact ok27 | exact ok43 | exact okr | exact Kept.zero_ok) | exact vL) ?_
          refine Tr.cV rfl rfl rfl rfl Body21 ((kit_blocks Y27.fBlocks X.fBlocks D.dBlocks D.dBlocks (fun d hd => by have := (Ay hs3_1).blocks d hd; omega)).imp (fun w h => h) (fun v out h => by rwa [Aq Ca] at h)) (fun w h => ⟨by have := (h27 w (Lies.of h iN)).fBlocks; rwa [Av hcz] at this, Bk h rfl hW.fBlocks⟩) ?_
          refine Tr.pick rfl rfl rfl rfl rfl rfl ?_
          refine Tr.m rfl rfl rfl ?_
          refine Tr.fld rfl rfl rfl U45 rfl Sz41 dE _ rfl ?_
          refine Tr.load1 rfl rfl rfl U41 rfl mM (by first | exact Kept.get_fCerts (by first | exact oK  | exact hX | exact ok27 | exact ok43 | exact okr | exact Kept.zero_ok) | exact vL) ?_
          refine Tr.fld rfl rfl rfl U45 rfl Sz41 dE _ rfl ?_
          refine Tr.load1 rfl rfl rfl U41 rfl mM (by first | exact Kept.get_fCerts (by first | exact oK  | exact hX | exact ok27 | exact ok43 | exact okr | exact Kept.zero_ok) | exact vL) ?_
          refine Tr.cV rfl rfl rfl rfl Body22 ((kit_certs Y27.fCerts X.fCerts D.dCerts D.dCerts (fun d hd => by have := (Ay hs3_1).certs d hd; omega)).imp (fun w h => h) (fun v out h => by rwa [Aq sameE_self] at h)) (fun w h => ⟨by have := (h27 w (Lies.of h iN)).fCerts; rwa [Av hcz] at this, Bt h rfl hW.fCerts⟩) ?_
          refine Tr.pick rfl rfl rfl rfl rfl rfl ?_
          refine Tr.m rfl rfl rfl ?_
          refine Tr.fld rfl rfl rfl U45 rfl Sz42 dE _ rfl ?_
          refine Tr.load1 rfl rfl rfl U42 rfl mM (by first | exact Kept.get_fVotes (by first | exact oK  | exact hX | exact ok27 | exact ok43 | exact okr | exact Kept.zero_ok) | exact vL) ?_
          refine Tr.m rfl rfl rfl ?_
          refine Tr.cV rfl rfl rfl rfl Body20 ((Cb Y27.fVotes v.2.1 (D.dVotes.filter (gtV D.dCerts.length)) (D.dVotes.filter (gtV D.dCerts.length))).imp (fun w h => h) (fun v out h => by rwa [B9] at h)) (fun w h => ⟨by have := (h27 w (Lies.of h iN)).fVotes; rwa [Av hcz] at this, ⟨_, hov.seq (Lies.of h iN) (fun b hb => (by cases hb)) oM⟩⟩) ?_
          refine Tr.pick rfl rfl rfl rfl rfl rfl ?_
          refine Tr.m rfl rfl rfl ?_
          refine Tr.fld rfl rfl rfl U45 rfl Sz43 dE _ rfl ?_
          refine Tr.load1 rfl rfl rfl U43 rfl mM (by first | exact Kept.get_fCuts (by first | exact oK  | exact hX | exact ok27 | exact ok43 | exact okr | exact Kept.zero_ok) | exact vL) ?_
          refine Tr.m rfl rfl rfl ?_
          refine Tr.cV rfl rfl rfl rfl Body23 ((kit_cuts Y27.fCuts u.2.1 (D.dCuts.filter (gtC D.dCerts.length)) (D.dCuts.filter (gtC D.dCerts.length)) (fun d hd => by have := (Ay hs3_1).cuts d (List.mem_filter.1 hd).1; omega)).imp (fun w h => h) (fun v out h => by rwa [Aq sameC_self] at h)) (fun w h => ⟨by have := (h27 w (Lies.of h iN)).fCuts; rwa [Av hcz] at this, ⟨_, cuts_here h rfl (hou.seq (Lies.of h iN) (fun b hb => (by cases hb)) oM)⟩⟩) ?_
          refine Tr.pick rfl rfl rfl rfl rfl rfl ?_
          refine Tr.a rfl rfl rfl ?_
          refine Tr.nil (Aa (Sat.ret (Ak ?_)))
          refine ⟨_, [], Ae rfl rfl, sP, sP, ?_, rfl⟩
          rfl
         ·
          first | have hs27_14 := of_decide_eq_true hs27_140 | have hs27_14 := of_decide_eq_false hs27_140 | have hs27_14 := Bg hs27_140 | have hs27_14 := Bh hs27_140 | have hs27_14 := hs27_140
          refine Tr.m rfl rfl rfl ?_
          refine Tr.skp rfl rfl ?_
          refine Tr.skp rfl rfl ?_
          refine Tr.skp rfl rfl ?_
          refine Tr.pick rfl rfl rfl rfl rfl rfl ?_
          refine Tr.pick rfl rfl rfl rfl rfl rfl ?_
          refine Tr.nil (Aa ?_)
          refine Sat.cond_f rfl rfl ?_
          refine Sat.skip (Aa (Sat.seq (Sat.region ?_)))
          refine Tr.lA rfl rfl rfl U45 rfl Sz45 mM (Kept.length (by first | exact oK  | exact hX | exact ok27 | exact ok43 | exact okr | exact Kept.zero_ok)) ?_
          refine Tr.lA rfl rfl rfl U45 rfl Sz45 mM (Kept.length (by first | exact oK  | exact hX | exact ok27 | exact ok43 | exact okr | exact Kept.zero_ok)) ?_
          refine Tr.cV rfl rfl rfl rfl Body18 (Bl Z43 Y27 (A1 D).1 hsmN) (fun w h => ⟨h43 w (Lies.of h iN), h27 w (Lies.of h iN)⟩) ?_
          refine Tr.m rfl rfl rfl ?_
          refine Tr.fld rfl rfl rfl U45 rfl Sz40 dE _ rfl ?_
          refine Tr.load1 rfl rfl rfl U40 rfl mM (by first | exact Kept.get_fBlocks (by first | exact oK  | exact hX | exact ok27 | exact ok43 | exact okr | exact Kept.zero_ok) | exact vL) ?_
          refine Tr.fld rfl rfl rfl U45 rfl Sz40 dE _ rfl ?_
          refine Tr.load1 rfl rfl rfl U40 rfl mM (by first | exact Kept.get_fBlocks (by first | exact oK  | exact hX | exact ok27 | exact ok43 | exact okr | exact Kept.zero_ok) | exact vL) ?_
          refine Tr.cV rfl rfl rfl rfl Body21 ((kit_blocks Y27.fBlocks X.fBlocks D.dBlocks D.dBlocks (fun d hd => by have := (Ay hs3_1).blocks d hd; omega)).imp (fun w h => h) (fun v out h => by rwa [Aq Ca] at h)) (fun w h => ⟨by have := (h27 w (Lies.of h iN)).fBlocks; rwa [Av hcz] at this, Bk h rfl hW.fBlocks⟩) ?_
          refine Tr.pick rfl rfl rfl rfl rfl rfl ?_
          refine Tr.m rfl rfl rfl ?_
          refine Tr.fld rfl rfl rfl U45 rfl Sz41 dE _ rfl ?_
          refine Tr.load1 rfl rfl rfl U41 rfl mM (by first | exact Kept.get_fCerts (by first | exact oK  | exact hX | exact ok27 | exact ok43 | exact okr | exact Kept.zero_ok) | exact vL) ?_
          refine Tr.fld rfl rfl rfl U45 rfl Sz41 dE _ rfl ?_
          refine Tr.load1 rfl rfl rfl U41 rfl mM (by first | exact Kept.get_fCerts (by first | exact oK  | exact hX | exact ok27 | exact ok43 | exact okr | exact Kept.zero_ok) | exact vL) ?_
          refine Tr.cV rfl rfl rfl rfl Body22 ((kit_certs Y27.fCerts X.fCerts D.dCerts D.dCerts (fun d hd => by have := (Ay hs3_1).certs d hd; omega)).imp (fun w h => h) (fun v out h => by rwa [Aq sameE_self] at h)) (fun w h => ⟨by have := (h27 w (Lies.of h iN)).fCerts; rwa [Av hcz] at this, Bt h rfl hW.fCerts⟩) ?_
          refine Tr.pick rfl rfl rfl rfl rfl rfl ?_
          refine Tr.m rfl rfl rfl ?_
          refine Tr.fld rfl rfl rfl U45 rfl Sz42 dE _ rfl ?_
          refine Tr.load1 rfl rfl rfl U42 rfl mM (by first | exact Kept.get_fVotes (by first | exact oK  | exact hX | exact ok27 | exact ok43 | exact okr | exact Kept.zero_ok) | exact vL) ?_
          refine Tr.m rfl rfl rfl ?_
          refine Tr.cV rfl rfl rfl rfl Body20 ((Cb Y27.fVotes v.2.1 (D.dVotes.filter (gtV D.dCerts.length)) (D.dVotes.filter (gtV D.dCerts.length))).imp (fun w h => h) (fun v out h => by rwa [B9] at h)) (fun w h => ⟨by have := (h27 w (Lies.of h iN)).fVotes; rwa [Av hcz] at this, ⟨_, hov.seq (Lies.of h iN) (fun b hb => (by cases hb)) oM⟩⟩) ?_
          refine Tr.pick rfl rfl rfl rfl rfl rfl ?_
          refine Tr.m rfl rfl rfl ?_
          refine Tr.fld rfl rfl rfl U45 rfl Sz43 dE _ rfl ?_
          refine Tr.load1 rfl rfl rfl U43 rfl mM (by first | exact Kept.get_fCuts (by first | exact oK  | exact hX | exact ok27 | exact ok43 | exact okr | exact Kept.zero_ok) | exact vL) ?_
          refine Tr.m rfl rfl rfl ?_
          refine Tr.cV rfl rfl rfl rfl Body23 ((kit_cuts Y27.fCuts u.2.1 (D.dCuts.filter (gtC D.dCerts.length)) (D.dCuts.filter (gtC D.dCerts.length)) (fun d hd => by have := (Ay hs3_1).cuts d (List.mem_filter.1 hd).1; omega)).imp (fun w h => h) (fun v out h => by rwa [Aq sameC_self] at h)) (fun w h => ⟨by have := (h27 w (Lies.of h iN)).fCuts; rwa [Av hcz] at this, ⟨_, cuts_here h rfl (hou.seq (Lies.of h iN) (fun b hb => (by cases hb)) oM)⟩⟩) ?_
          refine Tr.pick rfl rfl rfl rfl rfl rfl ?_
          refine Tr.a rfl rfl rfl ?_
          refine Tr.nil (Aa (Sat.ret (Ak ?_)))
          refine ⟨_, [], Ae rfl rfl, sP, sP, ?_, rfl⟩
          rfl

end Go.Proofs.YtkfhpmidcbmofaaGreat
end

section
namespace Go.Proofs.YtkfhpmidcbmofaaGreat
open Go Go.ChangeShapes Go.WideShapes Go.ChangeAt Go.RowKit

theorem ownKNeeds : ownKnob Tryz.prog.godebug = none := by kernel_rfl
theorem laidOutKNeeds : laidOutB Tryz.prog = true := by kernel_rfl

theorem walkKNeeds (w : World) (x0 : Kept) (D0 : DKept) (is0 : KeptIs w x0 D0) (x1 : UInt64) : Calls Tryz.prog 4 #[Hw.agg x0.cells, Hw.u64 x1] w fun e w' => e = .returned (.bool true) ∧ Below w.heap.size w w' :=
  by
  have fin : ∀ {us : Array Value}, Calls Tryz.prog 4 us w (fun e W' => ∃ v out, e = .returned v ∧ (v = .bool true ∧ out = []) ∧ Hw.Ret [] out w W') → Calls Tryz.prog 4 us w (fun e w' => e = .returned (.bool true) ∧ Below w.heap.size w w') :=
    fun h => h.mono fun e w' ⟨v, out, he, ⟨hv, ho⟩, hr⟩ => ⟨by rw [he, hv], Hw.Keeps.below hr.keeps⟩
  exact fin (law_keepneeds x0 D0 x1 w is0)

theorem liftedKNeeds (os : Os) (started : os.Started) (H : Type) (enc : TypeId × Value → H) :
    ReturnsInHanded {} Tryz.checked os 4 .any (Rows.keepNeedsSpec.pre6 enc Tryz.prog Tryz.f4 Rows.keepNeedsRow.domain false) (Rows.keepNeedsSpec.post enc Tryz.prog Tryz.f4 false true false false) := by
  refine returnsInHanded_of_change (C := Tryz.checked) ownKNeeds started (by kernel_rfl) Tryz.func4
    (ChangeSpec.witness6 (enc := enc) (C := Tryz.checked) false ⟨#[], #[.agg #[.slice none 0 0, .slice none 0 0, .slice none 0 0, .slice none 0 0], .int .u64 0], []⟩ 8 (by kernel_rfl) (by kernel_rfl) (by kernel_rfl) (by kernel_rfl)) ?_
  intro W base args ds gs before hval0 hW hcnd _
  have hval : ∀ (j : Nat) t v, Tryz.f4.params[j]? = some t → args[j]? = some v → Value.okWide Tryz.prog W .any base t v := hval0
  have hW' := hW
  obtain ⟨p, q, hA0, hV, rfl, hfz, hnd⟩ := hW
  have hA : DataW.TrodAll enc Tryz.prog W 0 (fun _ => true) true Tryz.f4.params.toList args.toList ds p := hA0
  rw [Tryz.params4] at hA hval
  obtain ⟨v0, vs0, d0, ds0, p0, q0, hargs, rfl, rfl, h0, r0⟩ := trodAll_cons hA
  obtain ⟨v1, vs1, d1, ds1, p1, q1, rfl, rfl, rfl, h1, r1⟩ := trodAll_cons r0
  obtain ⟨rfl, rfl, rfl⟩ := trodAll_nil r1
  obtain rfl : args = #[v0, v1] := by cases args; simp_all
  obtain ⟨rfl, rfl⟩ := trodVars_none hV
  have k0 := h0
  have lt0 : ∀ x ∈ p0, x.block < W.heap.size := by obtain ⟨m, hm⟩ := k0; exact DataW.trod_lt m _ _ _ hm
  have k1 := h1
  have lt1 : ∀ x ∈ p1, x.block < W.heap.size := by obtain ⟨m, hm⟩ := k1; exact DataW.trod_lt m _ _ _ hm
  obtain ⟨x0, D0, rfl, is0⟩ := Kept.openW (hval 0 45 v0 rfl rfl) h0
  obtain ⟨a1, rfl, rfl, rfl, w1⟩ := open_int Tryz.underlying22 (hval 1 22 v1 rfl rfl) h1
  obtain ⟨x1, rfl⟩ := Hw.u64_back w1
  clear hA0 hval0
  refine (walkKNeeds W x0 D0 is0 x1).mono fun e W' ⟨he, bel⟩ => ?_
  subst he
  exact ⟨_, rfl, _, _, _, [], _, [], hW', trodAll_mk1 (shut_bool Tryz.underlying4 _), (trodAll_cons_mk (Below.trod laidOutKNeeds (by kernel_rfl) (of_decide_eq_true (by kernel_rfl)) k0 bel lt0) (trodAll_cons_mk (Below.trod laidOutKNeeds (by kernel_rfl) (of_decide_eq_true (by kernel_rfl)) k1 bel lt1) trodAll_mk0)), rfl, bel.frame _, fun h => by cases h⟩

theorem keepNeeds_holds : Rows.KeepNeedsSaid :=
  OpenClaim.holds_of_wide 4 Tryz.f4 rfl rfl rfl rfl rfl rfl rfl ⟨rfl, rfl, rfl, rfl, rfl⟩ rfl rfl rfl rfl rfl (by kernel_rfl) Tryz.func4 (by kernel_rfl)
    (of_decide_eq_true (by kernel_rfl)) (by unfold Func.isWrapper; first | (rw [if_pos (by decide +kernel)]; kernel_rfl) | (rw [if_neg (by decide +kernel)]; exact ⟨rfl, rfl⟩))
    (fun os started H enc _ => liftedKNeeds os started H enc)

end Go.Proofs.YtkfhpmidcbmofaaGreat
end
