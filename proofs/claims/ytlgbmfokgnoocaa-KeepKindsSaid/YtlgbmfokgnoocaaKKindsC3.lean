/- Contracts of functions of the loaded program, and the lemmas that they need (part 3). It proves no statement by itself; it has no conditions. -/
import Derived.WalkKit
import Derived.Orders
import Derived.Deep.LoopGhost
import Derived.IntWalk
import Derived.Laws.StructEq
import Derived.ArgAppend
import Derived.Deep.AppendSrc
import Derived.Lib.Bytealg
import Derived.Lib.BytesEntry
import Derived.Laws.IdiomStrings
import Derived.WideKeyArr2
import Derived.ProofKit
import Derived.OpenShut
import Derived.Deep.Slices
import Derived.Laws.Pointers
import Derived.Laws.Cover3
import Derived.LaidEqlPtr
import Derived.LoopN
import Derived.RangeFuncLeaves
import Derived.RangeFuncSeq
import Derived.OrdersIn
import Derived.Test.YtlgbmfokgnoocaaRows
import Derived.KernelRfl
import Derived.Laws.Externs
import Derived.Defers
import Derived.ChangeOld
import Derived.Below
import Derived.Test.YtlgbmfokgnoocaaKKindsC2
section
namespace Go.Proofs.Ytlgbmfokgnoocaa
open Go Hw
set_option linter.unusedVariables false
set_option linter.unusedSimpArgs false

theorem digests_any2 (p q : Option Addr) (n m c1 c2 : Nat) (xs ys : List (List UInt8)) (hx : ∀ l ∈ xs, l.length = 32) (hy : ∀ l ∈ ys, l.length = 32) (h1 : xs.length = n) (h2 : ys.length = m) (hn : n ≤ 1000000) :
    Meets Try.prog 86 [.slice p n c1, .slice q m c2] [] (fun W => SeesP W p (flatB xs) ∧ SeesP W q (flatB ys)) (fun v out => v = .bool (decide (xs = ys)) ∧ out = []) := by
  by_cases h : n = m
  · subst h; exact digests_eq p q n c1 c2 xs ys hx hy h1 h2 hn
  · exact digests_ne p q n m c1 c2 xs ys hx hy h1 h2 hn h

def sameB (A B : Block) (la lb : List (List UInt8)) (da db : List UInt8) : Bool := decide (A.fWriter = B.fWriter) && (decide ((A.fSeq.toNat : Int) = (B.fSeq.toNat : Int)) && (decide (A.fPrev = B.fPrev) && (decide (la = lb) && (decide (da = db) && decide (A.fSig = B.fSig)))))

set_option maxRecDepth 100000 in
set_option maxHeartbeats 2000000 in
theorem kit_block (A B : Block) (hA : A.ok) (hB : B.ok) (la lb : List (List UInt8)) (da db : List UInt8) (hn : A.fLinks.n ≤ 1000000) : Meets Try.prog 64 [agg A.cells, agg B.cells] [] (fun W => (RowsAt W A.fLinks 32 la ∧ BytesAt W A.fData da) ∧ (RowsAt W B.fLinks 32 lb ∧ BytesAt W B.fData db)) (fun v out => v = .bool (sameB A B la lb da db) ∧ out = []) := by
  intro W hW
  refine calls_of (hp0 := []) Try.func64 rfl 47 Try.ntmps64 rfl (HRep.nil _) ?_
  refine Sat.seq ?_
  refine Sat.region ?_
  refine Tr.boxA rfl rfl ?_
  intro n2 hn2 hf2
  refine Tr.boxA rfl rfl ?_
  intro n3 hn3 hf3
  refine Tr.assign rfl rfl rfl ?_
  refine Tr.nil ?_
  refine at_n ?_
  refine Sat.seq ?_
  refine Sat.region ?_
  refine Tr.fld rfl rfl rfl Try.underlying31 rfl Sz23 dE _ rfl ?_
  first
    | refine Tr.loadN (bytesV _) rfl rfl rfl Try.underlying23 rfl Sz23 mM (Block.row_fWriter (by first | (simp [hA.l_fWriter, hB.l_fWriter, hA.l_fPrev, hB.l_fPrev, hA.l_fSig, hB.l_fSig]; done) | exact oK )) (Block.rl_fWriter (by first | (simp [hA.l_fWriter, hB.l_fWriter, hA.l_fPrev, hB.l_fPrev, hA.l_fSig, hB.l_fSig]; done) | exact oK )) ?_
  refine Tr.fld rfl rfl rfl Try.underlying31 rfl Sz23 dE _ rfl ?_
  first
    | refine Tr.loadN (bytesV _) rfl rfl rfl Try.underlying23 rfl Sz23 mM (Block.row_fWriter (by first | (simp [hA.l_fWriter, hB.l_fWriter, hA.l_fPrev, hB.l_fPrev, hA.l_fSig, hB.l_fSig]; done) | exact oK )) (Block.rl_fWriter (by first | (simp [hA.l_fWriter, hB.l_fWriter, hA.l_fPrev, hB.l_fPrev, hA.l_fSig, hB.l_fSig]; done) | exact oK )) ?_
  refine two (fun r hr k => Tr.eql_bytes rfl rfl rfl rfl Try.eqGuardType23 Try.underlying23 Try.underlying5 Sz5 (by first | assumption | (simp [hA.l_fWriter, hB.l_fWriter, hA.l_fPrev, hB.l_fPrev, hA.l_fSig, hB.l_fSig]; done) | (rw [bytesV, List.length_map]; assumption)) (by first | assumption | (simp [hA.l_fWriter, hB.l_fWriter, hA.l_fPrev, hB.l_fPrev, hA.l_fSig, hB.l_fSig]; done) | (rw [bytesV, List.length_map]; assumption)) hr k) (fun hs1_40 => ?_) (fun hs1_40 => ?_)
  ·
    first | have hs1_4 := of_decide_eq_true hs1_40 | have hs1_4 := of_decide_eq_false hs1_40 | have hs1_4 := nd_t hs1_40 | have hs1_4 := nd_f hs1_40 | have hs1_4 := hs1_40
    refine Tr.move rfl rfl rfl ?_
    refine Tr.fld rfl rfl rfl Try.underlying31 rfl Sz24 dE _ rfl ?_
    refine Tr.load1 rfl rfl rfl Try.underlying24 rfl mM (by first | exact Block.get_fSeq (by first | (simp [hA.l_fWriter, hB.l_fWriter, hA.l_fPrev, hB.l_fPrev, hA.l_fSig, hB.l_fSig]; done) | exact oK ) | exact (by first | rfl | exact get_words (by first | omega | (simp [hA.l_fWriter, hB.l_fWriter, hA.l_fPrev, hB.l_fPrev, hA.l_fSig, hB.l_fSig]; done) | (simp [hA.l_fWriter, hB.l_fWriter, hA.l_fPrev, hB.l_fPrev, hA.l_fSig, hB.l_fSig]; omega)) | exact get_bytes (by first | omega | (simp [hA.l_fWriter, hB.l_fWriter, hA.l_fPrev, hB.l_fPrev, hA.l_fSig, hB.l_fSig]; done) | (simp [hA.l_fWriter, hB.l_fWriter, hA.l_fPrev, hB.l_fPrev, hA.l_fSig, hB.l_fSig]; omega)) | exact get_ints (by first | omega | (simp [hA.l_fWriter, hB.l_fWriter, hA.l_fPrev, hB.l_fPrev, hA.l_fSig, hB.l_fSig]; done) | (simp [hA.l_fWriter, hB.l_fWriter, hA.l_fPrev, hB.l_fPrev, hA.l_fSig, hB.l_fSig]; omega)))) ?_
    refine Tr.fld rfl rfl rfl Try.underlying31 rfl Sz24 dE _ rfl ?_
    refine Tr.load1 rfl rfl rfl Try.underlying24 rfl mM (by first | exact Block.get_fSeq (by first | (simp [hA.l_fWriter, hB.l_fWriter, hA.l_fPrev, hB.l_fPrev, hA.l_fSig, hB.l_fSig]; done) | exact oK ) | exact (by first | rfl | exact get_words (by first | omega | (simp [hA.l_fWriter, hB.l_fWriter, hA.l_fPrev, hB.l_fPrev, hA.l_fSig, hB.l_fSig]; done) | (simp [hA.l_fWriter, hB.l_fWriter, hA.l_fPrev, hB.l_fPrev, hA.l_fSig, hB.l_fSig]; omega)) | exact get_bytes (by first | omega | (simp [hA.l_fWriter, hB.l_fWriter, hA.l_fPrev, hB.l_fPrev, hA.l_fSig, hB.l_fSig]; done) | (simp [hA.l_fWriter, hB.l_fWriter, hA.l_fPrev, hB.l_fPrev, hA.l_fSig, hB.l_fSig]; omega)) | exact get_ints (by first | omega | (simp [hA.l_fWriter, hB.l_fWriter, hA.l_fPrev, hB.l_fPrev, hA.l_fSig, hB.l_fSig]; done) | (simp [hA.l_fWriter, hB.l_fWriter, hA.l_fPrev, hB.l_fPrev, hA.l_fSig, hB.l_fSig]; omega)))) ?_
    refine two (fun r hr k => Tr.eqi rfl rfl rfl rfl hr k) (fun hs1_100 => ?_) (fun hs1_100 => ?_)
    ·
      first | have hs1_10 := of_decide_eq_true hs1_100 | have hs1_10 := of_decide_eq_false hs1_100 | have hs1_10 := nd_t hs1_100 | have hs1_10 := nd_f hs1_100 | have hs1_10 := hs1_100
      refine Tr.pick rfl rfl rfl rfl rfl rfl ?_
      refine Tr.move rfl rfl rfl ?_
      refine Tr.fld rfl rfl rfl Try.underlying31 rfl Sz25 dE _ rfl ?_
      first
        | refine Tr.loadN (bytesV _) rfl rfl rfl Try.underlying25 rfl Sz25 mM (Block.row_fPrev (by first | (simp [hA.l_fWriter, hB.l_fWriter, hA.l_fPrev, hB.l_fPrev, hA.l_fSig, hB.l_fSig]; done) | exact oK )) (Block.rl_fPrev (by first | (simp [hA.l_fWriter, hB.l_fWriter, hA.l_fPrev, hB.l_fPrev, hA.l_fSig, hB.l_fSig]; done) | exact oK )) ?_
      refine Tr.fld rfl rfl rfl Try.underlying31 rfl Sz25 dE _ rfl ?_
      first
        | refine Tr.loadN (bytesV _) rfl rfl rfl Try.underlying25 rfl Sz25 mM (Block.row_fPrev (by first | (simp [hA.l_fWriter, hB.l_fWriter, hA.l_fPrev, hB.l_fPrev, hA.l_fSig, hB.l_fSig]; done) | exact oK )) (Block.rl_fPrev (by first | (simp [hA.l_fWriter, hB.l_fWriter, hA.l_fPrev, hB.l_fPrev, hA.l_fSig, hB.l_fSig]; done) | exact oK )) ?_
      refine two (fun r hr k => Tr.eql_bytes rfl rfl rfl rfl Try.eqGuardType25 Try.underlying25 Try.underlying5 Sz5 (by first | assumption | (simp [hA.l_fWriter, hB.l_fWriter, hA.l_fPrev, hB.l_fPrev, hA.l_fSig, hB.l_fSig]; done) | (rw [bytesV, List.length_map]; assumption)) (by first | assumption | (simp [hA.l_fWriter, hB.l_fWriter, hA.l_fPrev, hB.l_fPrev, hA.l_fSig, hB.l_fSig]; done) | (rw [bytesV, List.length_map]; assumption)) hr k) (fun hs1_170 => ?_) (fun hs1_170 => ?_)
      ·
        first | have hs1_17 := of_decide_eq_true hs1_170 | have hs1_17 := of_decide_eq_false hs1_170 | have hs1_17 := nd_t hs1_170 | have hs1_17 := nd_f hs1_170 | have hs1_17 := hs1_170
        refine Tr.pick rfl rfl rfl rfl rfl rfl ?_
        refine Tr.move rfl rfl rfl ?_
        refine Tr.fld rfl rfl rfl Try.underlying31 rfl Sz26 dE _ rfl ?_
        refine Tr.load1 rfl rfl rfl Try.underlying26 rfl mM (by first | exact Block.get_fLinks (by first | (simp [hA.l_fWriter, hB.l_fWriter, hA.l_fPrev, hB.l_fPrev, hA.l_fSig, hB.l_fSig]; done) | exact oK ) | exact (by first | rfl | exact get_words (by first | omega | (simp [hA.l_fWriter, hB.l_fWriter, hA.l_fPrev, hB.l_fPrev, hA.l_fSig, hB.l_fSig]; done) | (simp [hA.l_fWriter, hB.l_fWriter, hA.l_fPrev, hB.l_fPrev, hA.l_fSig, hB.l_fSig]; omega)) | exact get_bytes (by first | omega | (simp [hA.l_fWriter, hB.l_fWriter, hA.l_fPrev, hB.l_fPrev, hA.l_fSig, hB.l_fSig]; done) | (simp [hA.l_fWriter, hB.l_fWriter, hA.l_fPrev, hB.l_fPrev, hA.l_fSig, hB.l_fSig]; omega)) | exact get_ints (by first | omega | (simp [hA.l_fWriter, hB.l_fWriter, hA.l_fPrev, hB.l_fPrev, hA.l_fSig, hB.l_fSig]; done) | (simp [hA.l_fWriter, hB.l_fWriter, hA.l_fPrev, hB.l_fPrev, hA.l_fSig, hB.l_fSig]; omega)))) ?_
        refine Tr.fld rfl rfl rfl Try.underlying31 rfl Sz26 dE _ rfl ?_
        refine Tr.load1 rfl rfl rfl Try.underlying26 rfl mM (by first | exact Block.get_fLinks (by first | (simp [hA.l_fWriter, hB.l_fWriter, hA.l_fPrev, hB.l_fPrev, hA.l_fSig, hB.l_fSig]; done) | exact oK ) | exact (by first | rfl | exact get_words (by first | omega | (simp [hA.l_fWriter, hB.l_fWriter, hA.l_fPrev, hB.l_fPrev, hA.l_fSig, hB.l_fSig]; done) | (simp [hA.l_fWriter, hB.l_fWriter, hA.l_fPrev, hB.l_fPrev, hA.l_fSig, hB.l_fSig]; omega)) | exact get_bytes (by first | omega | (simp [hA.l_fWriter, hB.l_fWriter, hA.l_fPrev, hB.l_fPrev, hA.l_fSig, hB.l_fSig]; done) | (simp [hA.l_fWriter, hB.l_fWriter, hA.l_fPrev, hB.l_fPrev, hA.l_fSig, hB.l_fSig]; omega)) | exact get_ints (by first | omega | (simp [hA.l_fWriter, hB.l_fWriter, hA.l_fPrev, hB.l_fPrev, hA.l_fSig, hB.l_fSig]; done) | (simp [hA.l_fWriter, hB.l_fWriter, hA.l_fPrev, hB.l_fPrev, hA.l_fSig, hB.l_fSig]; omega)))) ?_
        refine Tr.callB rfl rfl rfl rfl Body86 (digests_any2 _ _ _ _ _ _ la lb hW.1.1.row hW.2.1.row hW.1.1.len hW.2.1.len hn) (fun w h => ⟨seesP_ext h rfl hW.1.1.see, seesP_ext h rfl hW.2.1.see⟩) (fun hs1_240 => ?_) (fun hs1_240 => ?_)
        ·
          first | have hs1_24 := of_decide_eq_true hs1_240 | have hs1_24 := of_decide_eq_false hs1_240 | have hs1_24 := nd_t hs1_240 | have hs1_24 := nd_f hs1_240 | have hs1_24 := hs1_240
          refine Tr.pick rfl rfl rfl rfl rfl rfl ?_
          refine Tr.move rfl rfl rfl ?_
          refine Tr.fld rfl rfl rfl Try.underlying31 rfl Sz27 dE _ rfl ?_
          refine Tr.load1 rfl rfl rfl Try.underlying27 rfl mM (by first | exact Block.get_fData (by first | (simp [hA.l_fWriter, hB.l_fWriter, hA.l_fPrev, hB.l_fPrev, hA.l_fSig, hB.l_fSig]; done) | exact oK ) | exact (by first | rfl | exact get_words (by first | omega | (simp [hA.l_fWriter, hB.l_fWriter, hA.l_fPrev, hB.l_fPrev, hA.l_fSig, hB.l_fSig]; done) | (simp [hA.l_fWriter, hB.l_fWriter, hA.l_fPrev, hB.l_fPrev, hA.l_fSig, hB.l_fSig]; omega)) | exact get_bytes (by first | omega | (simp [hA.l_fWriter, hB.l_fWriter, hA.l_fPrev, hB.l_fPrev, hA.l_fSig, hB.l_fSig]; done) | (simp [hA.l_fWriter, hB.l_fWriter, hA.l_fPrev, hB.l_fPrev, hA.l_fSig, hB.l_fSig]; omega)) | exact get_ints (by first | omega | (simp [hA.l_fWriter, hB.l_fWriter, hA.l_fPrev, hB.l_fPrev, hA.l_fSig, hB.l_fSig]; done) | (simp [hA.l_fWriter, hB.l_fWriter, hA.l_fPrev, hB.l_fPrev, hA.l_fSig, hB.l_fSig]; omega)))) ?_
          refine Tr.toStr rfl rfl rfl Try.underlying27 Try.underlying5 Try.underlying9 (fun w h => seesP_ext h rfl hW.1.2.see) hW.1.2.len ?_
          refine Tr.fld rfl rfl rfl Try.underlying31 rfl Sz27 dE _ rfl ?_
          refine Tr.load1 rfl rfl rfl Try.underlying27 rfl mM (by first | exact Block.get_fData (by first | (simp [hA.l_fWriter, hB.l_fWriter, hA.l_fPrev, hB.l_fPrev, hA.l_fSig, hB.l_fSig]; done) | exact oK ) | exact (by first | rfl | exact get_words (by first | omega | (simp [hA.l_fWriter, hB.l_fWriter, hA.l_fPrev, hB.l_fPrev, hA.l_fSig, hB.l_fSig]; done) | (simp [hA.l_fWriter, hB.l_fWriter, hA.l_fPrev, hB.l_fPrev, hA.l_fSig, hB.l_fSig]; omega)) | exact get_bytes (by first | omega | (simp [hA.l_fWriter, hB.l_fWriter, hA.l_fPrev, hB.l_fPrev, hA.l_fSig, hB.l_fSig]; done) | (simp [hA.l_fWriter, hB.l_fWriter, hA.l_fPrev, hB.l_fPrev, hA.l_fSig, hB.l_fSig]; omega)) | exact get_ints (by first | omega | (simp [hA.l_fWriter, hB.l_fWriter, hA.l_fPrev, hB.l_fPrev, hA.l_fSig, hB.l_fSig]; done) | (simp [hA.l_fWriter, hB.l_fWriter, hA.l_fPrev, hB.l_fPrev, hA.l_fSig, hB.l_fSig]; omega)))) ?_
          refine Tr.toStr rfl rfl rfl Try.underlying27 Try.underlying5 Try.underlying9 (fun w h => seesP_ext h rfl hW.2.2.see) hW.2.2.len ?_
          refine two (fun r hr k => Tr.eql_str rfl rfl rfl rfl hr k) (fun hs1_330 => ?_) (fun hs1_330 => ?_)
          ·
            first | have hs1_33 := of_decide_eq_true hs1_330 | have hs1_33 := of_decide_eq_false hs1_330 | have hs1_33 := nd_t hs1_330 | have hs1_33 := nd_f hs1_330 | have hs1_33 := hs1_330
            refine Tr.pick rfl rfl rfl rfl rfl rfl ?_
            refine Tr.move rfl rfl rfl ?_
            refine Tr.fld rfl rfl rfl Try.underlying31 rfl Sz29 dE _ rfl ?_
            first
              | refine Tr.loadN (bytesV _) rfl rfl rfl Try.underlying29 rfl Sz29 mM (Block.row_fSig (by first | (simp [hA.l_fWriter, hB.l_fWriter, hA.l_fPrev, hB.l_fPrev, hA.l_fSig, hB.l_fSig]; done) | exact oK )) (Block.rl_fSig (by first | (simp [hA.l_fWriter, hB.l_fWriter, hA.l_fPrev, hB.l_fPrev, hA.l_fSig, hB.l_fSig]; done) | exact oK )) ?_
            refine Tr.fld rfl rfl rfl Try.underlying31 rfl Sz29 dE _ rfl ?_
            first
              | refine Tr.loadN (bytesV _) rfl rfl rfl Try.underlying29 rfl Sz29 mM (Block.row_fSig (by first | (simp [hA.l_fWriter, hB.l_fWriter, hA.l_fPrev, hB.l_fPrev, hA.l_fSig, hB.l_fSig]; done) | exact oK )) (Block.rl_fSig (by first | (simp [hA.l_fWriter, hB.l_fWriter, hA.l_fPrev, hB.l_fPrev, hA.l_fSig, hB.l_fSig]; done) | exact oK )) ?_
            refine Tr.eql_bytes rfl rfl rfl rfl Try.eqGuardType29 Try.underlying29 Try.underlying5 Sz5 (by first | assumption | (simp [hA.l_fWriter, hB.l_fWriter, hA.l_fPrev, hB.l_fPrev, hA.l_fSig, hB.l_fSig]; done) | (rw [bytesV, List.length_map]; assumption)) (by first | assumption | (simp [hA.l_fWriter, hB.l_fWriter, hA.l_fPrev, hB.l_fPrev, hA.l_fSig, hB.l_fSig]; done) | (rw [bytesV, List.length_map]; assumption)) rfl ?_
            refine Tr.pick rfl rfl rfl rfl rfl rfl ?_
            refine Tr.assign rfl rfl rfl ?_
            refine Tr.nil ?_
            refine at_n ?_
            refine Sat.ret ?_
            refine en_r ?_
            refine ⟨_, [], res_tmp rfl rfl, sP, sP, ?_, rfl⟩
            simp_all [sameB]
          ·
            first | have hs1_33 := of_decide_eq_true hs1_330 | have hs1_33 := of_decide_eq_false hs1_330 | have hs1_33 := nd_t hs1_330 | have hs1_33 := nd_f hs1_330 | have hs1_33 := hs1_330
            refine Tr.pick rfl rfl rfl rfl rfl rfl ?_
            refine Tr.move rfl rfl rfl ?_
            refine Tr.skp rfl rfl ?_
            refine Tr.skp rfl rfl ?_
            refine Tr.skp rfl rfl ?_
            refine Tr.skp rfl rfl ?_
            refine Tr.skp rfl rfl ?_
            refine Tr.pick rfl rfl rfl rfl rfl rfl ?_
            refine Tr.assign rfl rfl rfl ?_
            refine Tr.nil ?_
            refine at_n ?_
            refine Sat.ret ?_
            refine en_r ?_
            refine ⟨_, [], res_tmp rfl rfl, sP, sP, ?_, rfl⟩
            simp_all [sameB]
        ·
          first | have hs1_24 := of_decide_eq_true hs1_240 | have hs1_24 := of_decide_eq_false hs1_240 | have hs1_24 := nd_t hs1_240 | have hs1_24 := nd_f hs1_240 | have hs1_24 := hs1_240
          refine Tr.pick rfl rfl rfl rfl rfl rfl ?_
          refine Tr.move rfl rfl rfl ?_
          refine Tr.skp rfl rfl ?_
          refine Tr.skp rfl rfl ?_
          refine Tr.skp rfl rfl ?_
          refine Tr.skp rfl rfl ?_
          refine Tr.skp rfl rfl ?_
          refine Tr.skp rfl rfl ?_
          refine Tr.skp rfl rfl ?_
          refine Tr.pick rfl rfl rfl rfl rfl rfl ?_
          refine Tr.move rfl rfl rfl ?_
          refine Tr.skp rfl rfl ?_
          refine Tr.skp rfl rfl ?_
          refine Tr.skp rfl rfl ?_
          refine Tr.skp rfl rfl ?_
          refine Tr.skp rfl rfl ?_
          refine Tr.pick rfl rfl rfl rfl rfl rfl ?_
          refine Tr.assign rfl rfl rfl ?_
          refine Tr.nil ?_
          refine at_n ?_
          refine Sat.ret ?_
          refine en_r ?_
          refine ⟨_, [], res_tmp rfl rfl, sP, sP, ?_, rfl⟩
          simp_all [sameB]
      ·
        first | have hs1_17 := of_decide_eq_true hs1_170 | have hs1_17 := of_decide_eq_false hs1_170 | have hs1_17 := nd_t hs1_170 | have hs1_17 := nd_f hs1_170 | have hs1_17 := hs1_170
        refine Tr.pick rfl rfl rfl rfl rfl rfl ?_
        refine Tr.move rfl rfl rfl ?_
        refine Tr.skp rfl rfl ?_
        refine Tr.skp rfl rfl ?_
        refine Tr.skp rfl rfl ?_
        refine Tr.skp rfl rfl ?_
        refine Tr.skp rfl rfl ?_
        refine Tr.pick rfl rfl rfl rfl rfl rfl ?_
        refine Tr.move rfl rfl rfl ?_
        refine Tr.skp rfl rfl ?_
        refine Tr.skp rfl rfl ?_
        refine Tr.skp rfl rfl ?_
        refine Tr.skp rfl rfl ?_
        refine Tr.skp rfl rfl ?_
        refine Tr.skp rfl rfl ?_
        refine Tr.skp rfl rfl ?_
        refine Tr.pick rfl rfl rfl rfl rfl rfl ?_
        refine Tr.move rfl rfl rfl ?_
        refine Tr.skp rfl rfl ?_
        refine Tr.skp rfl rfl ?_
        refine Tr.skp rfl rfl ?_
        refine Tr.skp rfl rfl ?_
        refine Tr.skp rfl rfl ?_
        refine Tr.pick rfl rfl rfl rfl rfl rfl ?_
        refine Tr.assign rfl rfl rfl ?_
        refine Tr.nil ?_
        refine at_n ?_
        refine Sat.ret ?_
        refine en_r ?_
        refine ⟨_, [], res_tmp rfl rfl, sP, sP, ?_, rfl⟩
        simp_all [sameB]
    ·
      first | have hs1_10 := of_decide_eq_true hs1_100 | have hs1_10 := of_decide_eq_false hs1_100 | have hs1_10 := nd_t hs1_100 | have hs1_10 := nd_f hs1_100 | have hs1_10 := hs1_100
      refine Tr.pick rfl rfl rfl rfl rfl rfl ?_
      refine Tr.move rfl rfl rfl ?_
      refine Tr.skp rfl rfl ?_
      refine Tr.skp rfl rfl ?_
      refine Tr.skp rfl rfl ?_
      refine Tr.skp rfl rfl ?_
      refine Tr.skp rfl rfl ?_
      refine Tr.pick rfl rfl rfl rfl rfl rfl ?_
      refine Tr.move rfl rfl rfl ?_
      refine Tr.skp rfl rfl ?_
      refine Tr.skp rfl rfl ?_
      refine Tr.skp rfl rfl ?_
      refine Tr.skp rfl rfl ?_
      refine Tr.skp rfl rfl ?_
      refine Tr.pick rfl rfl rfl rfl rfl rfl ?_
      refine Tr.move rfl rfl rfl ?_
      refine Tr.skp rfl rfl ?_
      refine Tr.skp rfl rfl ?_
      refine Tr.skp rfl rfl ?_
      refine Tr.skp rfl rfl ?_
      refine Tr.skp rfl rfl ?_
      refine Tr.skp rfl rfl ?_
      refine Tr.skp rfl rfl ?_
      refine Tr.pick rfl rfl rfl rfl rfl rfl ?_
      refine Tr.move rfl rfl rfl ?_
      refine Tr.skp rfl rfl ?_
      refine Tr.skp rfl rfl ?_
      refine Tr.skp rfl rfl ?_
      refine Tr.skp rfl rfl ?_
      refine Tr.skp rfl rfl ?_
      refine Tr.pick rfl rfl rfl rfl rfl rfl ?_
      refine Tr.assign rfl rfl rfl ?_
      refine Tr.nil ?_
      refine at_n ?_
      refine Sat.ret ?_
      refine en_r ?_
      refine ⟨_, [], res_tmp rfl rfl, sP, sP, ?_, rfl⟩
      simp_all [sameB]
  ·
    first | have hs1_4 := of_decide_eq_true hs1_40 | have hs1_4 := of_decide_eq_false hs1_40 | have hs1_4 := nd_t hs1_40 | have hs1_4 := nd_f hs1_40 | have hs1_4 := hs1_40
    refine Tr.move rfl rfl rfl ?_
    refine Tr.skp rfl rfl ?_
    refine Tr.skp rfl rfl ?_
    refine Tr.skp rfl rfl ?_
    refine Tr.skp rfl rfl ?_
    refine Tr.skp rfl rfl ?_
    refine Tr.pick rfl rfl rfl rfl rfl rfl ?_
    refine Tr.move rfl rfl rfl ?_
    refine Tr.skp rfl rfl ?_
    refine Tr.skp rfl rfl ?_
    refine Tr.skp rfl rfl ?_
    refine Tr.skp rfl rfl ?_
    refine Tr.skp rfl rfl ?_
    refine Tr.pick rfl rfl rfl rfl rfl rfl ?_
    refine Tr.move rfl rfl rfl ?_
    refine Tr.skp rfl rfl ?_
    refine Tr.skp rfl rfl ?_
    refine Tr.skp rfl rfl ?_
    refine Tr.skp rfl rfl ?_
    refine Tr.skp rfl rfl ?_
    refine Tr.pick rfl rfl rfl rfl rfl rfl ?_
    refine Tr.move rfl rfl rfl ?_
    refine Tr.skp rfl rfl ?_
    refine Tr.skp rfl rfl ?_
    refine Tr.skp rfl rfl ?_
    refine Tr.skp rfl rfl ?_
    refine Tr.skp rfl rfl ?_
    refine Tr.skp rfl rfl ?_
    refine Tr.skp rfl rfl ?_
    refine Tr.pick rfl rfl rfl rfl rfl rfl ?_
    refine Tr.move rfl rfl rfl ?_
    refine Tr.skp rfl rfl ?_
    refine Tr.skp rfl rfl ?_
    refine Tr.skp rfl rfl ?_
    refine Tr.skp rfl rfl ?_
    refine Tr.skp rfl rfl ?_
    refine Tr.pick rfl rfl rfl rfl rfl rfl ?_
    refine Tr.assign rfl rfl rfl ?_
    refine Tr.nil ?_
    refine at_n ?_
    refine Sat.ret ?_
    refine en_r ?_
    refine ⟨_, [], res_tmp rfl rfl, sP, sP, ?_, rfl⟩
    simp_all [sameB]

end Go.Proofs.Ytlgbmfokgnoocaa
end

section
namespace Go.Proofs.Ytlgbmfokgnoocaa
open Go Hw
set_option linter.unusedVariables false
set_option linter.unusedSimpArgs false

def BB (b : Nat) (X : Block) : Blk := ⟨b, X.cells, 31, 131⟩
theorem rd_DigestE (n q N cp a : Nat) (e : Int) (xs : List UInt8) (hx : xs.length = N) (hat : a ≤ N) (hN : N ≤ cp) (hbig : N ≤ 1000000) (l : List UInt8) (a1 : Nat) (e1 : Int) (h : digR xs a e = (l, a1, e1)) : Meets Try.prog 61 [ptr n 0] [n] (fun W => BlkOk W (RB n q N cp a e) ∧ Sees W q 0 (bytesV xs) ∧ q ≠ n)
    (fun v out => v = agg (bytesV l) ∧ out = [RB n q N cp a1 e1]) := by
  have := rd_Digest n q N cp a e xs hx hat hN hbig
  rw [h] at this
  exact this
theorem rd_NumberE (n q N cp a : Nat) (e : Int) (xs : List UInt8) (hx : xs.length = N) (hat : a ≤ N) (hN : N ≤ cp) (hbig : N ≤ 1000000) (l : UInt64) (a1 : Nat) (e1 : Int) (h : numR xs a e = (l, a1, e1)) : Meets Try.prog 60 [ptr n 0] [n] (fun W => BlkOk W (RB n q N cp a e) ∧ Sees W q 0 (bytesV xs) ∧ q ≠ n)
    (fun v out => v = u64 l ∧ out = [RB n q N cp a1 e1]) := by
  have := rd_Number n q N cp a e xs hx hat hN hbig
  rw [h] at this
  exact this
theorem digE_le {xs l : List UInt8} {a a1 N : Nat} {e e1 : Int} (h : digR xs a e = (l, a1, e1)) (hx : xs.length = N) (hat : a ≤ N) : a1 ≤ N ∧ l.length = 32 := by
  have := digR_at xs a e oM
  rw [h] at this
  exact ⟨by have := this.1; simp only at this; omega, this.2⟩
theorem numE_le {xs : List UInt8} {l : UInt64} {a a1 N : Nat} {e e1 : Int} (h : numR xs a e = (l, a1, e1)) (hx : xs.length = N) (hat : a ≤ N) : a1 ≤ N := by
  have := numR_at xs a e oM
  rw [h] at this
  simp only at this; omega

set_option maxRecDepth 100000 in
set_option maxHeartbeats 1000000 in
theorem opt_head (b c n q N cp at' : Nat) (e : Int) (X : Block) (hX : X.ok) (xs : List UInt8) (hx : xs.length = N) (hat : at' ≤ N) (hN : N ≤ cp) (hbig : N ≤ 90000) (hbn : b ≠ n) (hcb : c ≠ b) (hcn : c ≠ n) (hqb : q ≠ b) (hqn : q ≠ n) (l1 : List UInt8) (a1 : Nat) (e1 : Int) (x2 : UInt64) (a2 : Nat) (e2 : Int) (l3 : List UInt8) (a3 : Nat) (e3 : Int) (h1 : digR xs at' e = (l1, a1, e1)) (h2 : numR xs a1 e1 = (x2, a2, e2)) (h3 : digR xs a2 e2 = (l3, a3, e3)) : Meets Try.prog 76 [ptr b 0, ptr c 0] [b, n] (fun W => BlkOk W (BB b X) ∧ BlkOk W (RB n q N cp at' e) ∧ W.cell? ⟨c, 0, none⟩ = some (ptr n 0) ∧ Sees W q 0 (bytesV xs)) (fun v out => v = .tuple #[] ∧ out = [BB b ({ X with fWriter := l1, fSeq := x2, fPrev := l3 } : Block), RB n q N cp a3 e3]) := by
  intro W hW
  have hd1 := digE_le h1 hx hat
  have hd2 := numE_le h2 hx hd1.1
  have hd3 := digE_le h3 hx hd2
  have ok1 : ({ X with fWriter := l1 } : Block).ok := ⟨hd1.2, hX.l_fPrev, hX.l_fSig⟩
  have ok2 : ({ X with fWriter := l1, fSeq := x2 } : Block).ok := ⟨hd1.2, hX.l_fPrev, hX.l_fSig⟩
  refine calls_of (hp0 := [BB b X, RB n q N cp at' e]) Try.func76 rfl 18 Try.ntmps76 rfl (HRep.two hW.1 hW.2.1 hbn) ?_
  refine Sat.seq ?_
  refine Sat.region ?_
  refine Tr.move rfl rfl rfl ?_
  refine Tr.loadE rfl rfl rfl Try.underlying106 rfl (by first | (simp; done) | (simp; exact hW.2.2) | (simp [Cx.with]; done) | (simp [Cx.with]; omega)) (hW.2.2.1) ?_
  refine Tr.callL (L := [RB n q N cp (at') (e)]) rfl rfl rfl rfl rfl Body61 (rd_DigestE n q N cp at' e xs hx hat hN oM l1 a1 e1 h1) (rem_there rem_here) (lent_ok rfl) (fun w h => ⟨own_blk h mM, sees_ext h (by simp [Cx.with]; omega) hW.2.2.2, hqn⟩) ?_
  rintro v2 out2 ⟨rfl, rfl⟩
  refine Tr.nilChk rfl rfl rfl ?_
  refine Tr.fld rfl rfl rfl Try.underlying31 rfl Sz23 dE _ rfl ?_
  refine Tr.storeN (bytesV _) rfl rfl rfl rfl rfl cB Sz23 (by simp [hd1.2, hd3.2, hX.l_fWriter, hX.l_fPrev, hX.l_fSig]) mM (by rw [Block.length (by first | (simp [hd1.2, hd3.2, hX.l_fWriter, hX.l_fPrev, hX.l_fSig]; done) | exact oK  | exact rdr_ok _ _ _ _ _ _ | exact hX | exact okL _)]; simp [hd1.2, hd3.2, hX.l_fWriter, hX.l_fPrev, hX.l_fSig]) (Block.upd_fWriter (by first | (simp [hd1.2, hd3.2, hX.l_fWriter, hX.l_fPrev, hX.l_fSig]; done) | exact oK  | exact rdr_ok _ _ _ _ _ _ | exact hX | exact okL _) _ (by simp [hd1.2, hd3.2, hX.l_fWriter, hX.l_fPrev, hX.l_fSig])) uU ?_
  refine Tr.nil ?_
  refine at_n ?_
  refine Sat.seq ?_
  refine Sat.region ?_
  refine Tr.move rfl rfl rfl ?_
  refine Tr.loadE rfl rfl rfl Try.underlying106 rfl (by first | (simp; done) | (simp; exact hW.2.2) | (simp [Cx.with]; done) | (simp [Cx.with]; omega)) (hW.2.2.1) ?_
  refine Tr.callL (L := [RB n q N cp (a1) (e1)]) rfl rfl rfl rfl rfl Body60 (rd_NumberE n q N cp a1 e1 xs hx hd1.1 hN oM x2 a2 e2 h2) rem_here (lent_ok rfl) (fun w h => ⟨own_blk h mM, sees_ext h (by simp [Cx.with]; omega) hW.2.2.2, hqn⟩) ?_
  rintro v2 out2 ⟨rfl, rfl⟩
  refine Tr.nilChk rfl rfl rfl ?_
  refine Tr.fld rfl rfl rfl Try.underlying31 rfl Sz24 dE _ rfl ?_
  refine Tr.store1 rfl rfl rfl rfl rfl Sz24 mM (by rw [Block.length (by first | (simp [hd1.2, hd3.2, hX.l_fWriter, hX.l_fPrev, hX.l_fSig]; done) | exact oK  | exact rdr_ok _ _ _ _ _ _ | exact hX | exact okL _)]; decide) (Block.set_fSeq (by first | (simp [hd1.2, hd3.2, hX.l_fWriter, hX.l_fPrev, hX.l_fSig]; done) | exact oK  | exact rdr_ok _ _ _ _ _ _ | exact hX | exact okL _) _) uU ?_
  refine Tr.nil ?_
  refine at_n ?_
  refine Sat.region ?_
  refine Tr.move rfl rfl rfl ?_
  refine Tr.loadE rfl rfl rfl Try.underlying106 rfl (by first | (simp; done) | (simp; exact hW.2.2) | (simp [Cx.with]; done) | (simp [Cx.with]; omega)) (hW.2.2.1) ?_
  refine Tr.callL (L := [RB n q N cp (a2) (e2)]) rfl rfl rfl rfl rfl Body61 (rd_DigestE n q N cp a2 e2 xs hx hd2 hN oM l3 a3 e3 h3) rem_here (lent_ok rfl) (fun w h => ⟨own_blk h mM, sees_ext h (by simp [Cx.with]; omega) hW.2.2.2, hqn⟩) ?_
  rintro v2 out2 ⟨rfl, rfl⟩
  refine Tr.nilChk rfl rfl rfl ?_
  refine Tr.fld rfl rfl rfl Try.underlying31 rfl Sz25 dE _ rfl ?_
  refine Tr.storeN (bytesV _) rfl rfl rfl rfl rfl cB Sz25 (by simp [hd1.2, hd3.2, hX.l_fWriter, hX.l_fPrev, hX.l_fSig]) mM (by rw [Block.length (by first | (simp [hd1.2, hd3.2, hX.l_fWriter, hX.l_fPrev, hX.l_fSig]; done) | exact oK  | exact rdr_ok _ _ _ _ _ _ | exact hX | exact okL _)]; simp [hd1.2, hd3.2, hX.l_fWriter, hX.l_fPrev, hX.l_fSig]) (Block.upd_fPrev (by first | (simp [hd1.2, hd3.2, hX.l_fWriter, hX.l_fPrev, hX.l_fSig]; done) | exact oK  | exact rdr_ok _ _ _ _ _ _ | exact hX | exact okL _) _ (by simp [hd1.2, hd3.2, hX.l_fWriter, hX.l_fPrev, hX.l_fSig])) uU ?_
  refine Tr.nil ?_
  refine en_n ?_
  refine end_perm (out := (BB b ({ X with fWriter := l1, fSeq := x2, fPrev := l3 } : Block) :: (RB n q N cp a3 e3 :: []))) (res_none rfl) (pm_cons rM (pm_cons rM pm_nil)) ?_
  exact ⟨rfl, rfl⟩

def takR (xs : List UInt8) (m a : Nat) (e : Int) : List UInt8 × Nat × Int :=
  if ¬ e = 0 then ([], a, e) else if xs.length < a + m then ([], a, 5) else ((xs.drop a).take m, a + m, 0)
theorem rd_TakeE (n q N cp a : Nat) (e : Int) (m : Nat) (hm0 : 0 < m) (hm : m ≤ 90000) (xs : List UInt8) (hx : xs.length = N) (hat : a ≤ N) (hN : N ≤ cp) (hbig : N ≤ 90000) (l : List UInt8) (a1 : Nat) (e1 : Int) (h : takR xs m a e = (l, a1, e1)) : Meets Try.prog 62 [ptr n 0, i64 (m : Int)] [n] (fun W => BlkOk W (RB n q N cp a e) ∧ Sees W q 0 (bytesV xs) ∧ q ≠ n)
    (fun v out => ∃ s bl, v = s.v ∧ Acc s bl (bytesV l) 5 l.length 1 ∧ out = bl ++ [RB n q N cp a1 e1]) := by
  unfold takR at h
  by_cases he : e = 0
  · subst he
    rw [if_neg sP] at h
    by_cases h1 : xs.length < a + m
    · rw [if_pos h1] at h
      obtain ⟨rfl, rfl, rfl⟩ : [] = l ∧ a = a1 ∧ (5 : Int) = e1 := by simpa using h
      exact (rd_take64_more n q N cp a m hm0 hm xs hx hat hN oM oM).imp (fun w h => h) fun v out ⟨h1, h2⟩ => ⟨Sl.nil, [], h1, Acc.none, h2⟩
    · rw [if_neg h1] at h
      obtain ⟨rfl, rfl, rfl⟩ : (xs.drop a).take m = l ∧ a + m = a1 ∧ (0 : Int) = e1 := by simpa using h
      refine (rd_take64_ok n q N cp a m hm0 hm xs hx hat hN oM oM hbig).imp (fun w h => h) fun v out ⟨q1, c1, h1, h2, h3⟩ => ?_
      have hl : ((xs.drop a).take m).length = m := by simp; omega
      refine ⟨⟨some ⟨q1, 0, none⟩, m, c1⟩, [_], h1, ?_, h3⟩
      rw [hl]
      exact Acc.some h2 (by simp [hl]; omega)
  · rw [if_pos he] at h
    obtain ⟨rfl, rfl, rfl⟩ : [] = l ∧ a = a1 ∧ e = e1 := by simpa using h
    exact (rd_take64_err n q N cp a e m hm0 hm xs hx hat hN oM he).imp (fun w h => h) fun v out ⟨h1, h2⟩ => ⟨Sl.nil, [], h1, Acc.none, h2⟩
theorem takE_le {xs l : List UInt8} {a a1 m N : Nat} {e e1 : Int} (h : takR xs m a e = (l, a1, e1)) (hx : xs.length = N) (hat : a ≤ N) : a1 ≤ N ∧ (l = [] ∨ l.length = m) := by
  unfold takR at h
  split at h
  · obtain ⟨rfl, rfl, rfl⟩ : [] = l ∧ a = a1 ∧ e = e1 := by simpa using h
    exact ⟨hat, .inl rfl⟩
  split at h
  · obtain ⟨rfl, rfl, rfl⟩ : [] = l ∧ a = a1 ∧ (5 : Int) = e1 := by simpa using h
    exact ⟨hat, .inl rfl⟩
  · obtain ⟨rfl, rfl, rfl⟩ : (xs.drop a).take m = l ∧ a + m = a1 ∧ (0 : Int) = e1 := by simpa using h
    exact ⟨by omega, .inr (by simp; omega)⟩
theorem rd_BlockE (n q N cp a : Nat) (e : Int) (xs : List UInt8) (hx : xs.length = N) (hat : a ≤ N) (hN : N ≤ cp) (hbig : N ≤ 90000) (o : Option (List UInt8)) (a1 : Nat) (e1 : Int) (h : blkR xs a e = (o, a1, e1)) : Meets Try.prog 57 [ptr n 0] [n] (fun W => BlkOk W (RB n q N cp a e) ∧ Sees W q 0 (bytesV xs) ∧ q ≠ n)
    (fun v out => ∃ s bl, v = s.v ∧ Acc s bl (bytesV (o.getD [])) 5 (o.getD []).length 1 ∧ out = bl ++ [RB n q N cp a1 e1]) := by
  unfold blkR at h
  by_cases he : (numR xs a e).2.2 = 0
  · rw [if_neg (by simp [he])] at h
    by_cases h1 : xs.length < (numR xs a e).2.1 + (numR xs a e).1.toNat
    · rw [if_pos h1] at h
      obtain ⟨rfl, rfl, rfl⟩ : none = o ∧ a = a1 ∧ (5 : Int) = e1 := by simpa using h
      exact (rd_blk_more n q N cp a e xs hx hat hN oM he oM hbig).imp (fun w h => h) fun v out ⟨h1, h2⟩ => ⟨Sl.nil, [], h1, Acc.none, h2⟩
    · rw [if_neg h1] at h
      obtain ⟨rfl, rfl, rfl⟩ : some ((xs.drop (numR xs a e).2.1).take (numR xs a e).1.toNat) = o ∧ (numR xs a e).2.1 + (numR xs a e).1.toNat = a1 ∧ (0 : Int) = e1 := by simpa using h
      refine (rd_blk_ok n q N cp a e xs hx hat hN oM he oM hbig).imp (fun w h => h) fun v out ⟨q1, c1, h1, h2, h3⟩ => ?_
      have hl : ((xs.drop (numR xs a e).2.1).take (numR xs a e).1.toNat).length = (numR xs a e).1.toNat := by simp; omega
      refine ⟨⟨some ⟨q1, 0, none⟩, (numR xs a e).1.toNat, c1⟩, [_], h1, ?_, h3⟩
      simp only [Option.getD_some]
      rw [hl]
      exact Acc.some h2 (by simp only [bytesV, List.length_map, hl]; omega)
  · rw [if_pos he] at h
    obtain ⟨rfl, rfl, rfl⟩ : none = o ∧ a = a1 ∧ (numR xs a e).2.2 = e1 := by simpa using h
    exact (rd_blk_err n q N cp a e xs hx hat hN oM he hbig).imp (fun w h => h) fun v out ⟨h1, h2⟩ => ⟨Sl.nil, [], h1, Acc.none, h2⟩
theorem blkE_le {xs : List UInt8} {o : Option (List UInt8)} {a a1 N : Nat} {e e1 : Int} (h : blkR xs a e = (o, a1, e1)) (hx : xs.length = N) (hat : a ≤ N) : a1 ≤ N ∧ (o.getD []).length ≤ N := by
  unfold blkR at h
  split at h
  · obtain ⟨rfl, rfl, rfl⟩ : none = o ∧ a = a1 ∧ (numR xs a e).2.2 = e1 := by simpa using h
    exact ⟨hat, by simp⟩
  split at h
  · obtain ⟨rfl, rfl, rfl⟩ : none = o ∧ a = a1 ∧ (5 : Int) = e1 := by simpa using h
    exact ⟨hat, by simp⟩
  · obtain ⟨rfl, rfl, rfl⟩ : some ((xs.drop (numR xs a e).2.1).take (numR xs a e).1.toNat) = o ∧ (numR xs a e).2.1 + (numR xs a e).1.toNat = a1 ∧ (0 : Int) = e1 := by simpa using h
    exact ⟨by omega, by simp; omega⟩
/-- so many digests -/
def digsR (xs : List UInt8) : Nat → Nat → Int → List (List UInt8) × Nat × Int
  | 0, a, e => ([], a, e)
  | j + 1, a, e => ((digsR xs j a e).1 ++ [(digR xs (digsR xs j a e).2.1 (digsR xs j a e).2.2).1], (digR xs (digsR xs j a e).2.1 (digsR xs j a e).2.2).2)
theorem digsR_succ {xs l : List UInt8} {j a a1 : Nat} {e e1 : Int} (h : digR xs (digsR xs j a e).2.1 (digsR xs j a e).2.2 = (l, a1, e1)) : digsR xs (j + 1) a e = ((digsR xs j a e).1 ++ [l], a1, e1) := by rw [digsR, h]
theorem digsR_at {xs : List UInt8} {a N : Nat} {e : Int} (hx : xs.length = N) (hat : a ≤ N) : ∀ j, (digsR xs j a e).2.1 ≤ N ∧ (∀ l ∈ (digsR xs j a e).1, l.length = 32) ∧ (digsR xs j a e).1.length = j
  | 0 => ⟨hat, fun l hl => by simp [digsR] at hl, rfl⟩
  | j + 1 => by
    obtain ⟨h1, h2, h3⟩ := digsR_at (e := e) hx hat j
    have h4 := digR_at xs (digsR xs j a e).2.1 (digsR xs j a e).2.2 oM
    refine ⟨by simp only [digsR]; omega, fun l hl => ?_, by simp [digsR, h3]⟩
    simp only [digsR, List.mem_append, List.mem_singleton] at hl
    rcases hl with hl | rfl
    · exact h2 l hl
    · exact h4.2
theorem ofNat_step (j : Nat) : UInt64.ofNat j + 1 = UInt64.ofNat (j + 1) := by rw [UInt64.ofNat_add]; rfl

set_option maxRecDepth 100000 in
set_option maxHeartbeats 2000000 in
theorem opt_links (b c n q N cp at' : Nat) (e : Int) (X : Block) (hX : X.ok) (xs : List UInt8) (hx : xs.length = N) (hat : at' ≤ N) (hN : N ≤ cp) (hbig : N ≤ 90000) (hbn : b ≠ n) (hcb : c ≠ b) (hcn : c ≠ n) (hqb : q ≠ b) (hqn : q ≠ n) (hXl : X.fLinks = Sl.nil) (x1 : UInt64) (a1 : Nat) (e1 : Int) (h1 : numR xs at' e = (x1, a1, e1)) : Meets Try.prog 77 [ptr b 0, ptr c 0] [b, n] (fun W => BlkOk W (BB b X) ∧ BlkOk W (RB n q N cp at' e) ∧ W.cell? ⟨c, 0, none⟩ = some (ptr n 0) ∧ Sees W q 0 (bytesV xs)) (fun v out => ∃ s bl, v = .tuple #[] ∧ Acc s bl (flatB (digsR xs (min x1.toNat 17) a1 e1).1) 25 (min x1.toNat 17) 32 ∧ out = RB n q N cp (digsR xs (min x1.toNat 17) a1 e1).2.1 (digsR xs (min x1.toNat 17) a1 e1).2.2 :: BB b ({ X with fLinks := s } : Block) :: bl) := by
  intro W hW
  have ha1 := numE_le h1 hx hat
  have okL : ∀ s : Sl, ({ X with fLinks := s } : Block).ok := fun s => ⟨hX.l_fWriter, hX.l_fPrev, hX.l_fSig⟩
  refine calls_of (hp0 := [BB b X, RB n q N cp at' e]) Try.func77 rfl 20 Try.ntmps77 rfl (HRep.two hW.1 hW.2.1 hbn) ?_
  refine Sat.seq ?_
  refine Sat.region ?_
  refine Tr.loadE rfl rfl rfl Try.underlying106 rfl (by first | (simp; done) | (simp; exact hW.2.2) | (simp [Cx.with]; done) | (simp [Cx.with]; omega)) (hW.2.2.1) ?_
  refine Tr.callL (L := [RB n q N cp (at') (e)]) rfl rfl rfl rfl rfl Body60 (rd_NumberE n q N cp at' e xs hx hat hN oM x1 a1 e1 h1) (rem_there rem_here) (lent_ok rfl) (fun w h => ⟨own_blk h mM, sees_ext h (by simp [Cx.with]; omega) hW.2.2.2, hqn⟩) ?_
  rintro v2 out2 ⟨rfl, rfl⟩
  refine Tr.min2 rfl rfl rfl rfl (show Value.int .u64 (if (17 : Int) < (x1.toNat : Int) then 17 else (x1.toNat : Int)) = .int .u64 ((min x1.toNat 17 : Nat) : Int) from by congr 1; split <;> omega) ?_
  refine Tr.move rfl rfl rfl ?_
  refine Tr.nil ?_
  refine at_n ?_
  refine Sat.block ?_
  refine Sat.loop (ι := Nat × Sl × List Blk) (fun p => ⟨[(0, ptr b 0), (1, ptr c 0), (5, .int .u64 ((min x1.toNat 17 : Nat) : Int)), (6, u64 (UInt64.ofNat p.1))], (RB n q N cp (digsR xs p.1 a1 e1).2.1 (digsR xs p.1 a1 e1).2.2 :: (BB b ({ X with fLinks := p.2.1 } : Block) :: (p.2.2 ++ [])))⟩) (fun p => p.1 ≤ min x1.toNat 17 ∧ Acc p.2.1 p.2.2 (flatB (digsR xs p.1 a1 e1).1) 25 p.1 32) (fun p => min x1.toNat 17 - p.1) ((0, Sl.nil, [])) ?_ ?_ ?_
  · exact ⟨Nat.zero_le _, Acc.none⟩
  · exact weak_perm (wk1 rfl (wk1 rfl (wk1 rfl (wk1 rfl wk0)))) (pm_cons rM (pm_consE rM (by rw [← hXl]) rfl (pm_none pm_nil)))
  ·
    rintro p ⟨hp1, hac⟩
    have hD := digsR_at (e := e1) hx ha1 p.1
    obtain ⟨l2, r2, hd⟩ : ∃ l r, digR xs (digsR xs p.1 a1 e1).2.1 (digsR xs p.1 a1 e1).2.2 = (l, r) := ⟨_, _, rfl⟩
    obtain ⟨a2, e2⟩ := r2
    have hdl := digE_le hd hx hD.1
    have hs := digsR_succ hd
    have hj64 : (UInt64.ofNat p.1).toNat = p.1 := ofNat_nat oM
    refine Sat.seq ?_
    refine Sat.region ?_
    refine Tr.lss rfl rfl rfl rfl rfl ?_
    refine Tr.nil ?_
    refine at_n ?_
    refine Sat.seq ?_
    first
      | refine Sat.condP rfl (fun hc0 => ?_) (fun hc0 => ?_)
      | refine Sat.condNP rfl (fun hc0 => ?_) (fun hc0 => ?_)
      | refine Sat.cond rfl (fun hc0 => ?_) (fun hc0 => ?_)
    ·
      have hp3 : p.1 < min x1.toNat 17 := by omega
      refine Sat.skip ?_
      refine at_n ?_
      refine Sat.seq ?_
      refine Sat.block ?_
      refine Sat.drawK (sp_v (sp_k (sp_x sp_n))) rfl [(0, 0), (0, 1), (0, 2), (0, 3), (0, 4), (0, 5), (4, 6), (4, 7), (4, 8), (0, 9), (0, 10)] [(4, 11)] Mixed (by kernel_rfl) (by kernel_rfl) ?_
      refine Tr.move rfl rfl rfl ?_
      refine Tr.move rfl rfl rfl ?_
      refine Tr.nilChk rfl rfl rfl ?_
      refine Tr.fld rfl rfl rfl Try.underlying31 rfl Sz26 dE _ rfl ?_
      refine Tr.kload1 rfl rfl rfl Try.underlying26 rfl mM (by first | exact Block.get_fLinks (by first | (simp [hX.l_fWriter, hX.l_fPrev, hX.l_fSig]; done) | exact oK  | exact rdr_ok _ _ _ _ _ _ | exact hX | exact okL _) | exact (by first | rfl | exact get_words (by first | omega | (simp [hX.l_fWriter, hX.l_fPrev, hX.l_fSig]; done) | (simp [hX.l_fWriter, hX.l_fPrev, hX.l_fSig]; omega)) | exact get_bytes (by first | omega | (simp [hX.l_fWriter, hX.l_fPrev, hX.l_fSig]; done) | (simp [hX.l_fWriter, hX.l_fPrev, hX.l_fSig]; omega)) | exact get_ints (by first | omega | (simp [hX.l_fWriter, hX.l_fPrev, hX.l_fSig]; done) | (simp [hX.l_fWriter, hX.l_fPrev, hX.l_fSig]; omega)))) ?_
      refine Tr.kloadE rfl rfl rfl Try.underlying106 rfl (by first | (simp; done) | (simp; exact hW.2.2) | (simp [Cx.with]; done) | (simp [Cx.with]; omega)) (hW.2.2.1) ?_
      refine Tr.callL (L := [RB n q N cp ((digsR xs p.1 a1 e1).2.1) ((digsR xs p.1 a1 e1).2.2)]) rfl rfl rfl rfl rfl Body61 (rd_DigestE n q N cp (digsR xs p.1 a1 e1).2.1 (digsR xs p.1 a1 e1).2.2 xs hx hD.1 hN oM l2 a2 e2 hd) rem_here (lent_ok rfl) (fun w h => ⟨own_blk h mM, sees_ext h (by simp [Cx.with]; omega) hW.2.2.2, hqn⟩) ?_
      rintro v2 out2 ⟨rfl, rfl⟩
      refine Tr.mkRow (z := agg (bytesV (List.replicate 32 0))) [agg (bytesV l2)] (bytesV l2) rfl rfl rfl Try.underlying26 Sz25 Zr25 rfl rfl (by intro v hv; rw [List.mem_singleton.1 hv]; simp [Value.cells, hdl.2]) dE (by simp [Value.cells]) ?_
      intro q7
      refine Tr.appendAcc (z := agg (bytesV (List.replicate 32 0))) (by' := 32) (bytesV l2) rfl rfl rfl rfl rfl Try.underlying26 Try.underlying26 Sz25 Zr25 (by unfold By; kernel_rfl) rfl hac sG (fun w h => SeesP.of (sees_own h mM)) (fun e => by cases e) (bytesV_cell _) oM oM (by simp [bytesV, hdl.2]) ?_
      intro s8 bl8 hac8
      refine Tr.nilChk rfl rfl rfl ?_
      refine Tr.fld rfl rfl rfl Try.underlying31 rfl Sz26 dE _ rfl ?_
      refine Tr.nil ?_
      refine Tr.store1 rfl rfl rfl rfl rfl Sz26 mM (by rw [Block.length (by first | (simp [hX.l_fWriter, hX.l_fPrev, hX.l_fSig]; done) | exact oK  | exact rdr_ok _ _ _ _ _ _ | exact hX | exact okL _)]; decide) (by first | exact Block.set_fLinks (by first | (simp [hX.l_fWriter, hX.l_fPrev, hX.l_fSig]; done) | exact oK  | exact rdr_ok _ _ _ _ _ _ | exact hX | exact okL _) _ | exact Block.setS_fLinks (by first | (simp [hX.l_fWriter, hX.l_fPrev, hX.l_fSig]; done) | exact oK  | exact rdr_ok _ _ _ _ _ _ | exact hX | exact okL _) _ _ _) uU ?_
      refine Tr.nil ?_
      refine bl_n ?_
      refine at_n ?_
      refine Sat.region ?_
      refine Tr.add_u64 rfl rfl rfl (show evIn _ _ = some (u64 1) from rfl) ?_
      refine Tr.move rfl rfl rfl ?_
      refine Tr.nil ?_
      refine at_n ?_
      refine ⟨(p.1 + 1, s8, bl8), ⟨by simp only []; omega, ?_⟩, by simp only []; omega, weak_perm (wk1 rfl (wk1 rfl (wk1 rfl (wk1 (congrArg (fun z => some (u64 z)) (ofNat_step _)) wk0)))) (pm_consE rM (by simp only [hs]) rfl (pm_cons rM (pm_seg sG pm_nil)))⟩
      simp only [hs]
      rw [flatB_append]
      simpa [flatB] using hac8
    ·
      have hp3 : p.1 = min x1.toNat 17 := by omega
      refine Sat.exit ?_
      refine at_x ?_
      refine at_x ?_
      refine bl_h ?_
      refine en_n ?_
      refine end_perm (out := (RB n q N cp (digsR xs p.1 a1 e1).2.1 (digsR xs p.1 a1 e1).2.2 :: (BB b ({ X with fLinks := p.2.1 } : Block) :: (p.2.2 ++ [])))) (res_none rfl) (pm_cons rM (pm_cons rM (pm_seg sG pm_nil))) ?_
      rw [← hp3]; exact ⟨p.2.1, p.2.2, rfl, hac, by simp⟩

theorem upd_nil (cs : List Value) (o : Nat) : upd cs o [] = cs := by simp [upd]
theorem upd_sig {X : Block} (h : X.ok) {l : List UInt8} (hl : l = [] ∨ l.length = 64) : upd X.cells 67 (bytesV l) = ({ X with fSig := l ++ X.fSig.drop l.length } : Block).cells := by
  rcases hl with rfl | hl
  · exact upd_nil _ _
  · rw [Block.upd_fSig h l hl, hl, List.drop_of_length_le (by rw [h.l_fSig]; exact Nat.le_refl _), List.append_nil]

set_option maxRecDepth 100000 in
set_option maxHeartbeats 2000000 in
theorem opt_tail (b c n q N cp at' : Nat) (e : Int) (X : Block) (hX : X.ok) (xs : List UInt8) (hx : xs.length = N) (hat : at' ≤ N) (hN : N ≤ cp) (hbig : N ≤ 90000) (hbn : b ≠ n) (hcb : c ≠ b) (hcn : c ≠ n) (hqb : q ≠ b) (hqn : q ≠ n) (o : Option (List UInt8)) (a1 : Nat) (e1 : Int) (l : List UInt8) (a2 : Nat) (e2 : Int) (h1 : blkR xs at' e = (o, a1, e1)) (h2 : takR xs 64 a1 e1 = (l, a2, e2)) : Meets Try.prog 78 [ptr b 0, ptr c 0] [b, n] (fun W => BlkOk W (BB b X) ∧ BlkOk W (RB n q N cp at' e) ∧ W.cell? ⟨c, 0, none⟩ = some (ptr n 0) ∧ Sees W q 0 (bytesV xs)) (fun v out => ∃ s2 bl, v = .tuple #[] ∧ Acc s2 bl (bytesV (o.getD [])) 5 (o.getD []).length 1 ∧ out = RB n q N cp a2 e2 :: BB b ({ X with fData := s2, fSig := l ++ X.fSig.drop l.length } : Block) :: bl) := by
  intro W hW
  have hb1 := blkE_le h1 hx hat
  have ht1 := takE_le h2 hx hb1.1
  have okD : ∀ s : Sl, ({ X with fData := s } : Block).ok := fun s => ⟨hX.l_fWriter, hX.l_fPrev, hX.l_fSig⟩
  have hlen : l.length ≤ 64 := by rcases ht1.2 with h | h <;> simp [h]
  refine calls_of (hp0 := [BB b X, RB n q N cp at' e]) Try.func78 rfl 15 Try.ntmps78 rfl (HRep.two hW.1 hW.2.1 hbn) ?_
  refine Sat.seq ?_
  refine Sat.region ?_
  refine Tr.move rfl rfl rfl ?_
  refine Tr.loadE rfl rfl rfl Try.underlying106 rfl (by first | (simp; done) | (simp; exact hW.2.2) | (simp [Cx.with]; done) | (simp [Cx.with]; omega)) (hW.2.2.1) ?_
  refine Tr.callL (L := [RB n q N cp (at') (e)]) rfl rfl rfl rfl rfl Body57 (rd_BlockE n q N cp at' e xs hx hat hN hbig o a1 e1 h1) (rem_there rem_here) (lent_ok rfl) (fun w h => ⟨own_blk h mM, sees_ext h (by simp [Cx.with]; omega) hW.2.2.2, hqn⟩) ?_
  rintro v2 out2 ⟨s2, bl2, rfl, hac2, rfl⟩
  simp only [List.append_assoc, List.cons_append, List.nil_append]
  refine Tr.nilChk rfl rfl rfl ?_
  refine Tr.fld rfl rfl rfl Try.underlying31 rfl Sz27 dE _ rfl ?_
  refine Tr.store1 rfl rfl rfl rfl rfl Sz27 mM (by rw [Block.length (by first | (simp [hX.l_fWriter, hX.l_fPrev, hX.l_fSig]; done) | exact oK  | exact rdr_ok _ _ _ _ _ _ | exact hX | exact okL _)]; decide) (by first | exact Block.set_fData (by first | (simp [hX.l_fWriter, hX.l_fPrev, hX.l_fSig]; done) | exact oK  | exact rdr_ok _ _ _ _ _ _ | exact hX | exact okL _) _ | exact Block.setS_fData (by first | (simp [hX.l_fWriter, hX.l_fPrev, hX.l_fSig]; done) | exact oK  | exact rdr_ok _ _ _ _ _ _ | exact hX | exact okL _) _ _ _) uU ?_
  refine Tr.nil ?_
  refine at_n ?_
  refine Sat.draw [(0, 0), (0, 1), (0, 2), (0, 3), (1, 4), (4, 5), (4, 6)] Mixed (by kernel_rfl) ?_
  refine Tr.move rfl rfl rfl ?_
  refine Tr.nilChk rfl rfl rfl ?_
  refine Tr.fld rfl rfl rfl Try.underlying31 rfl Sz29 dE _ rfl ?_
  refine Tr.sliceArr rfl rfl rfl Try.underlying29 Sz5 ?_
  refine Tr.loadE rfl rfl rfl Try.underlying106 rfl (by first | (simp; done) | (simp; exact hW.2.2) | (simp [Cx.with]; done) | (simp [Cx.with]; omega)) (hW.2.2.1) ?_
  refine Tr.callL (L := [RB n q N cp (a1) (e1)]) rfl rfl rfl rfl rfl Body62 (rd_TakeE n q N cp a1 e1 64 dE dE xs hx hb1.1 hN hbig l a2 e2 h2) rM (lent_ok rfl) (fun w h => ⟨own_blk h mM, sees_ext h (by simp [Cx.with]; omega) hW.2.2.2, hqn⟩) ?_
  rintro v3 out3 ⟨s3, bl3, rfl, hac3, rfl⟩
  simp only [List.append_assoc, List.cons_append, List.nil_append]
  refine Tr.copyP (bytesV l) l.length rfl rfl rfl rfl rfl Try.underlying27 Sz5 (fun w h => hac3.see (Lies.of h iN)) (fun e => hac3.nil e) (by simp [bytesV, hac3.num]) (by rw [hac3.num]; omega) (List.take_of_length_le (by simp [bytesV])) (bytesV_cell _) mM (by rw [Block.length (okD _)]; show 67 + l.length ≤ 131; omega) (upd_sig (okD _) ht1.2) uU ?_
  refine Tr.nil ?_
  refine en_n ?_
  refine end_perm (out := (RB n q N cp a2 e2 :: (BB b ({ X with fData := s2, fSig := l ++ X.fSig.drop l.length } : Block) :: (bl2 ++ [])))) (res_none rfl) (pm_cons rM (pm_cons rM (pm_seg sG pm_nil))) ?_
  exact ⟨s2, bl2, rfl, hac2, by simp⟩

set_option maxRecDepth 100000 in
set_option maxHeartbeats 1000000 in
theorem mk_head (n : Nat) : Meets Try.prog 53 [ptr n 0] [] (fun _ => True) (fun v out => ∃ c, v = .func (.func 76) #[] #[ptr c 0] ∧ out = [⟨c, [ptr n 0], 106, 1⟩]) := by
  intro W hW
  refine calls_of (hp0 := []) Try.func53 rfl 4 Try.ntmps53 rfl (HRep.nil _) ?_
  refine Sat.seq ?_
  refine Sat.region ?_
  refine Tr.box1 rfl rfl rfl ?_
  intro n1 hn1 hf1
  refine Tr.assign rfl rfl rfl ?_
  refine Tr.nil ?_
  refine at_n ?_
  refine Sat.seq ?_
  refine Sat.region ?_
  refine Tr.makeFunc rfl rfl rfl rfl ?_
  refine Tr.assign rfl rfl rfl ?_
  refine Tr.nil ?_
  refine at_n ?_
  refine Sat.ret ?_
  refine en_r ?_
  refine end_perm (out := (⟨n1, [ptr n 0], 106, 1⟩ :: [])) (res_tmp rfl rfl) (pm_cons rM pm_nil) ?_
  exact ⟨n1, rfl, by simp⟩

set_option maxRecDepth 100000 in
set_option maxHeartbeats 1000000 in
theorem mk_links (n : Nat) : Meets Try.prog 54 [ptr n 0] [] (fun _ => True) (fun v out => ∃ c, v = .func (.func 77) #[] #[ptr c 0] ∧ out = [⟨c, [ptr n 0], 106, 1⟩]) := by
  intro W hW
  refine calls_of (hp0 := []) Try.func54 rfl 4 Try.ntmps54 rfl (HRep.nil _) ?_
  refine Sat.seq ?_
  refine Sat.region ?_
  refine Tr.box1 rfl rfl rfl ?_
  intro n1 hn1 hf1
  refine Tr.assign rfl rfl rfl ?_
  refine Tr.nil ?_
  refine at_n ?_
  refine Sat.seq ?_
  refine Sat.region ?_
  refine Tr.makeFunc rfl rfl rfl rfl ?_
  refine Tr.assign rfl rfl rfl ?_
  refine Tr.nil ?_
  refine at_n ?_
  refine Sat.ret ?_
  refine en_r ?_
  refine end_perm (out := (⟨n1, [ptr n 0], 106, 1⟩ :: [])) (res_tmp rfl rfl) (pm_cons rM pm_nil) ?_
  exact ⟨n1, rfl, by simp⟩

set_option maxRecDepth 100000 in
set_option maxHeartbeats 1000000 in
theorem mk_tail (n : Nat) : Meets Try.prog 55 [ptr n 0] [] (fun _ => True) (fun v out => ∃ c, v = .func (.func 78) #[] #[ptr c 0] ∧ out = [⟨c, [ptr n 0], 106, 1⟩]) := by
  intro W hW
  refine calls_of (hp0 := []) Try.func55 rfl 4 Try.ntmps55 rfl (HRep.nil _) ?_
  refine Sat.seq ?_
  refine Sat.region ?_
  refine Tr.box1 rfl rfl rfl ?_
  intro n1 hn1 hf1
  refine Tr.assign rfl rfl rfl ?_
  refine Tr.nil ?_
  refine at_n ?_
  refine Sat.seq ?_
  refine Sat.region ?_
  refine Tr.makeFunc rfl rfl rfl rfl ?_
  refine Tr.assign rfl rfl rfl ?_
  refine Tr.nil ?_
  refine at_n ?_
  refine Sat.ret ?_
  refine en_r ?_
  refine end_perm (out := (⟨n1, [ptr n 0], 106, 1⟩ :: [])) (res_tmp rfl rfl) (pm_cons rM pm_nil) ?_
  exact ⟨n1, rfl, by simp⟩

theorem opt_linksE (b c n q N cp at' : Nat) (e : Int) (X : Block) (hX : X.ok) (xs : List UInt8) (hx : xs.length = N) (hat : at' ≤ N) (hN : N ≤ cp) (hbig : N ≤ 90000) (hbn : b ≠ n) (hcb : c ≠ b) (hcn : c ≠ n) (hqb : q ≠ b) (hqn : q ≠ n)  (hXl : X.fLinks = Sl.nil) (x1 : UInt64) (a1 : Nat) (e1 : Int) (h1 : numR xs at' e = (x1, a1, e1)) (ls : List (List UInt8)) (a5 : Nat) (e5 : Int) (h5 : digsR xs (min x1.toNat 17) a1 e1 = (ls, a5, e5)) : Meets Try.prog 77 [ptr b 0, ptr c 0] [b, n] (fun W => BlkOk W (BB b X) ∧ BlkOk W (RB n q N cp at' e) ∧ W.cell? ⟨c, 0, none⟩ = some (ptr n 0) ∧ Sees W q 0 (bytesV xs))
    (fun v out => ∃ s bl, v = .tuple #[] ∧ Acc s bl (flatB ls) 25 (min x1.toNat 17) 32 ∧ out = RB n q N cp a5 e5 :: BB b ({ X with fLinks := s } : Block) :: bl) := by
  have := opt_links b c n q N cp at' e X hX xs hx hat hN hbig hbn hcb hcn hqb hqn hXl x1 a1 e1 h1
  rw [h5] at this
  exact this
theorem cell_lt {w : World} {c o : Nat} {v : Value} (h : w.cell? ⟨c, o, none⟩ = some v) : c < w.heap.size := by
  rcases Nat.lt_or_ge c w.heap.size with h1 | h1
  · exact h1
  · simp [World.cell?, Array.getElem?_eq_none h1] at h

set_option maxRecDepth 100000 in
set_option maxHeartbeats 4000000 in
theorem block_build (r n q N cp c1 c2 c3 : Nat) (xs : List UInt8) (hx : xs.length = N) (hN : N ≤ cp) (hbig : N ≤ 90000) (hr : r ≠ n) (hc1 : c1 ≠ n) (hc2 : c2 ≠ n) (hc3 : c3 ≠ n) (hqn : q ≠ n) (l1 : List UInt8) (a1 : Nat) (e1 : Int) (x2 : UInt64) (a2 : Nat) (e2 : Int) (l3 : List UInt8) (a3 : Nat) (e3 : Int) (h1 : digR xs 0 0 = (l1, a1, e1)) (h2 : numR xs a1 e1 = (x2, a2, e2)) (h3 : digR xs a2 e2 = (l3, a3, e3)) (x4 : UInt64) (a4 : Nat) (e4 : Int) (h4 : numR xs a3 e3 = (x4, a4, e4)) (ls : List (List UInt8)) (a5 : Nat) (e5 : Int) (h5 : digsR xs (min x4.toNat 17) a4 e4 = (ls, a5, e5)) (o : Option (List UInt8)) (a6 : Nat) (e6 : Int) (h6 : blkR xs a5 e5 = (o, a6, e6)) (l7 : List UInt8) (a7 : Nat) (e7 : Int) (h7 : takR xs 64 a6 e6 = (l7, a7, e7))  : Meets Try.prog 52 [.slice (some ⟨r, 0, none⟩) 3 3] [n] (fun W => BlkOk W (RB n q N cp 0 0) ∧ Sees W q 0 (bytesV xs) ∧ (W.cell? ⟨r, 0, none⟩ = some (.func (.func 76) #[] #[ptr c1 0]) ∧ W.cell? ⟨r, 1, none⟩ = some (.func (.func 77) #[] #[ptr c2 0]) ∧ W.cell? ⟨r, 2, none⟩ = some (.func (.func 78) #[] #[ptr c3 0])) ∧ W.cell? ⟨c1, 0, none⟩ = some (ptr n 0) ∧ W.cell? ⟨c2, 0, none⟩ = some (ptr n 0) ∧ W.cell? ⟨c3, 0, none⟩ = some (ptr n 0) ∧ q < W.heap.size) (fun v out => ∃ s2 bl2 s3 bl3, v = agg ({ Block.zero with fWriter := l1, fSeq := x2, fPrev := l3, fLinks := s2, fData := s3, fSig := l7 ++ Block.zero.fSig.drop l7.length } : Block).cells ∧ Acc s2 bl2 (flatB ls) 25 (min x4.toNat 17) 32 ∧ Acc s3 bl3 (bytesV (o.getD [])) 5 (o.getD []).length 1 ∧ out = RB n q N cp a7 e7 :: (bl2 ++ bl3)) := by
  intro W hW
  have hd1 := digE_le h1 hx (Nat.zero_le _)
  have hd2 := numE_le h2 hx hd1.1
  have hd3 := digE_le h3 hx hd2
  have hd4 := numE_le h4 hx hd3.1
  have hd5 := digsR_at (e := e4) hx hd4 (min x4.toNat 17)
  rw [h5] at hd5
  have hd6 := blkE_le h6 hx hd5.1
  have hd7 := takE_le h7 hx hd6.1
  have hqlt := hW.2.1
  have hs64 : (l7 ++ Block.zero.fSig.drop l7.length).length = 64 := by rcases hd7.2 with h | h <;> simp [h, Block.zero]
  have okX : ∀ s2 s3, ({ Block.zero with fWriter := l1, fSeq := x2, fPrev := l3, fLinks := s2, fData := s3, fSig := l7 ++ Block.zero.fSig.drop l7.length } : Block).ok := fun s2 s3 => ⟨hd1.2, hd3.2, hs64⟩
  refine calls_of (hp0 := [RB n q N cp 0 0]) Try.func52 rfl 16 Try.ntmps52 rfl (HRep.one hW.1) ?_
  refine Sat.seq ?_
  refine Sat.region ?_
  refine Tr.alloc (cs := Block.zero.cells) rfl Block.zr rfl ?_
  intro n2 hn2 hf2
  refine Tr.nil ?_
  refine at_n ?_
  refine Sat.seq ?_
  refine Sat.region ?_
  refine Tr.alloc (cs := Block.zero.cells) rfl Block.zr rfl ?_
  intro n3 hn3 hf3
  refine Tr.nil ?_
  refine at_n ?_
  refine Sat.seq ?_
  refine Sat.seq ?_
  refine Sat.region ?_
  have hS : n3 ≠ n ∧ c1 ≠ n3 ∧ q ≠ n3 := by
    have hl1 := cell_lt hW.2.2.2.1
    have hl2 := hW.2.2.2.2.2.2
    have hl3 : W.heap.size ≤ n3 := hn3
    exact ⟨fun e => hf3 (RB n q N cp 0 0) sP e.symm, by omega, by omega⟩
  have hS2 : c2 ≠ n3 := by
    have hl1 := cell_lt hW.2.2.2.2.1
    have hl3 : W.heap.size ≤ n3 := hn3
    omega
  have hS3 : c3 ≠ n3 := by
    have hl1 := cell_lt hW.2.2.2.2.2.1
    have hl3 : W.heap.size ≤ n3 := hn3
    omega
  refine Tr.move rfl rfl rfl ?_
  refine Tr.lenSl rfl rfl rfl Try.underlying135 ?_
  refine Tr.move rfl rfl rfl ?_
  refine Tr.nil ?_
  refine at_n ?_
  refine Sat.block ?_
  refine Sat.rounds 4 (SRounds.more ?_)
  refine Sat.seq ?_
  refine Sat.region ?_
  refine Tr.lss rfl rfl rfl rfl rfl ?_
  refine Tr.nil ?_
  refine at_n ?_
  refine Sat.seq ?_
  refine Sat.cond_t rfl (rfl) ?_
  refine Sat.skip ?_
  refine at_n ?_
  refine Sat.seq ?_
  refine Sat.block ?_
  refine Sat.seq ?_
  refine Sat.region ?_
  first
    | refine Tr.idxSl1 rfl rfl rfl rfl Try.underlying135 Sz110 0 rfl oM ?_
    | refine Tr.idxSlO rfl rfl rfl rfl Try.underlying135 Sz110 0 rfl oM ?_
  refine Tr.loadE rfl rfl rfl Try.underlying110 rfl (by first | (simp; done) | (simp; exact hW.2.2) | (simp [Cx.with]; done) | (simp [Cx.with]; omega)) (hW.2.2.1.1) ?_
  refine Tr.assign rfl rfl rfl ?_
  refine Tr.nil ?_
  refine at_n ?_
  refine Sat.region ?_
  refine Tr.move rfl rfl rfl ?_
  refine Tr.callCL (L := [BB n3 Block.zero, RB n q N cp (0) (0)]) rfl rfl rfl rfl rfl rfl Body76 (opt_head n3 c1 n q N cp 0 0 Block.zero Block.zero_ok xs hx (Nat.zero_le _) hN hbig hS.1 hS.2.1 hc1 hS.2.2 hqn l1 a1 e1 x2 a2 e2 l3 a3 e3 h1 h2 h3) (pm_consE rM rfl rfl (pm_cons rM pm_nil)) (lent_ok rfl) (fun w h => ⟨own_blk h mM, own_blk h mM, h.keeps.cell (by simp; omega) hW.2.2.2.1, sees_ext h (by simp; omega) hW.2.1⟩) ?_
  rintro v5 out5 ⟨rfl, rfl⟩
  refine Tr.nil ?_
  refine bl_n ?_
  refine at_n ?_
  refine Sat.region ?_
  refine Tr.add_i64 rfl rfl rfl rfl oM ?_
  refine Tr.move rfl rfl rfl ?_
  refine Tr.nil ?_
  refine at_n (SRounds.more ?_)
  refine Sat.seq ?_
  refine Sat.region ?_
  refine Tr.lss rfl rfl rfl rfl rfl ?_
  refine Tr.nil ?_
  refine at_n ?_
  refine Sat.seq ?_
  refine Sat.cond_t rfl (rfl) ?_
  refine Sat.skip ?_
  refine at_n ?_
  refine Sat.seq ?_
  refine Sat.block ?_
  refine Sat.seq ?_
  refine Sat.region ?_
  first
    | refine Tr.idxSl1 rfl rfl rfl rfl Try.underlying135 Sz110 1 rfl oM ?_
    | refine Tr.idxSlO rfl rfl rfl rfl Try.underlying135 Sz110 1 rfl oM ?_
  refine Tr.loadE rfl rfl rfl Try.underlying110 rfl (by first | (simp; done) | (simp; exact hW.2.2) | (simp [Cx.with]; done) | (simp [Cx.with]; omega)) (hW.2.2.1.2.1) ?_
  refine Tr.assign rfl rfl rfl ?_
  refine Tr.nil ?_
  refine at_n ?_
  refine Sat.region ?_
  refine Tr.move rfl rfl rfl ?_
  refine Tr.callCL (L := [BB n3 ({ Block.zero with fWriter := l1, fSeq := x2, fPrev := l3 } : Block), RB n q N cp (a3) (e3)]) rfl rfl rfl rfl rfl rfl Body77 (opt_linksE n3 c2 n q N cp a3 e3 ({ Block.zero with fWriter := l1, fSeq := x2, fPrev := l3 } : Block) ⟨hd1.2, hd3.2, rfl⟩ xs hx hd3.1 hN hbig hS.1 hS2 hc2 hS.2.2 hqn rfl x4 a4 e4 h4 ls a5 e5 h5) (pm_consE rM rfl rfl (pm_cons rM pm_nil)) (lent_ok rfl) (fun w h => ⟨own_blk h mM, own_blk h mM, h.keeps.cell (by simp; omega) hW.2.2.2.2.1, sees_ext h (by simp; omega) hW.2.1⟩) ?_
  rintro v6 out6 ⟨s2, bl2, rfl, hac2, rfl⟩
  refine Tr.nil ?_
  refine bl_n ?_
  refine at_n ?_
  refine Sat.region ?_
  refine Tr.add_i64 rfl rfl rfl rfl oM ?_
  refine Tr.move rfl rfl rfl ?_
  refine Tr.nil ?_
  refine at_n (SRounds.more ?_)
  refine Sat.seq ?_
  refine Sat.region ?_
  refine Tr.lss rfl rfl rfl rfl rfl ?_
  refine Tr.nil ?_
  refine at_n ?_
  refine Sat.seq ?_
  refine Sat.cond_t rfl (rfl) ?_
  refine Sat.skip ?_
  refine at_n ?_
  refine Sat.seq ?_
  refine Sat.block ?_
  refine Sat.seq ?_
  refine Sat.region ?_
  first
    | refine Tr.idxSl1 rfl rfl rfl rfl Try.underlying135 Sz110 2 rfl oM ?_
    | refine Tr.idxSlO rfl rfl rfl rfl Try.underlying135 Sz110 2 rfl oM ?_
  refine Tr.loadE rfl rfl rfl Try.underlying110 rfl (by first | (simp; done) | (simp; exact hW.2.2) | (simp [Cx.with]; done) | (simp [Cx.with]; omega)) (hW.2.2.1.2.2) ?_
  refine Tr.assign rfl rfl rfl ?_
  refine Tr.nil ?_
  refine at_n ?_
  refine Sat.region ?_
  refine Tr.move rfl rfl rfl ?_
  refine Tr.callCL (L := [BB n3 ({ Block.zero with fWriter := l1, fSeq := x2, fPrev := l3, fLinks := s2 } : Block), RB n q N cp (a5) (e5)]) rfl rfl rfl rfl rfl rfl Body78 (opt_tail n3 c3 n q N cp a5 e5 ({ Block.zero with fWriter := l1, fSeq := x2, fPrev := l3, fLinks := s2 } : Block) ⟨hd1.2, hd3.2, rfl⟩ xs hx hd5.1 hN hbig hS.1 hS3 hc3 hS.2.2 hqn o a6 e6 l7 a7 e7 h6 h7) (pm_consE rM rfl rfl (pm_cons rM pm_nil)) (lent_ok rfl) (fun w h => ⟨own_blk h mM, own_blk h mM, h.keeps.cell (by simp; omega) hW.2.2.2.2.2.1, sees_ext h (by simp; omega) hW.2.1⟩) ?_
  rintro v7 out7 ⟨s3, bl3, rfl, hac3, rfl⟩
  refine Tr.nil ?_
  refine bl_n ?_
  refine at_n ?_
  refine Sat.region ?_
  refine Tr.add_i64 rfl rfl rfl rfl oM ?_
  refine Tr.move rfl rfl rfl ?_
  refine Tr.nil ?_
  refine at_n (SRounds.more ?_)
  refine Sat.seq ?_
  refine Sat.region ?_
  refine Tr.lss rfl rfl rfl rfl rfl ?_
  refine Tr.nil ?_
  refine at_n ?_
  refine Sat.seq ?_
  refine Sat.cond_f rfl (rfl) ?_
  refine Sat.exit ?_
  refine at_x ?_
  refine at_x ?_
  refine bl_h ?_
  refine at_n ?_
  refine Sat.seq ?_
  refine Sat.region ?_
  refine Tr.loadAll rfl rfl rfl Try.underlying31 rfl Sz31 mM (Block.length (by first | exact oK  | exact okX _ _)) ?_
  refine Tr.storeAll rfl rfl rfl rfl (Block.isCell (by first | exact oK  | exact okX _ _)) Sz31 (Block.length (by first | exact oK  | exact okX _ _)) mM (Block.length (by first | exact oK  | exact okX _ _)) uU ?_
  refine Tr.nil ?_
  refine at_n ?_
  refine Sat.ret ?_
  refine en_r ?_
  refine end_perm (out := (RB n q N cp a7 e7 :: (bl2 ++ (bl3 ++ [])))) (res_cell rfl rfl Try.underlying31 rfl Sz31 mM (by first | (simp; done) | exact Block.length (by first | exact oK  | exact okX _ _))) (pm_cons rM (pm_seg sG (pm_seg sG pm_nil))) ?_
  exact ⟨s2, bl2, s3, bl3, rfl, hac2, hac3, by simp⟩

end Go.Proofs.Ytlgbmfokgnoocaa
end

section
namespace Go.Proofs.Ytlgbmfokgnoocaa
open Go Hw
set_option linter.unusedVariables false
set_option linter.unusedSimpArgs false

/-- a block as plain data -/
structure DB where
  w : List UInt8
  seq : UInt64
  prev : List UInt8
  ls : List (List UInt8)
  ds : List UInt8
  sg : List UInt8
deriving DecidableEq
def DB.zero : DB := ⟨List.replicate 32 0, 0, List.replicate 32 0, [], [], List.replicate 64 0⟩
def DB.head (D : DB) : Bool := decide ((4294967295 : Int) < (D.seq.toNat : Int)) || (!decide (decide (D.prev = List.replicate 32 0) = decide ((D.seq.toNat : Int) = 0)) || (decide ((16 : Int) < (D.ls.length : Int)) || decide ((512 : Int) < (D.ds.length : Int))))
def DB.check (D : DB) : Int := if D.head = true then 2 else (if linksBad D.prev D.ls = true then 2 else 0)
def DB.body (D : DB) : List UInt8 := D.w ++ numB D.seq ++ D.prev ++ numB (UInt64.ofNat D.ls.length) ++ D.ls.flatten ++ (numB (UInt64.ofNat D.ds.length) ++ D.ds)
def DB.bytes (D : DB) : List UInt8 := D.body ++ D.sg
/-- the lengths that the types ask -/
structure DB.ok (D : DB) : Prop where
  w : D.w.length = 32
  prev : D.prev.length = 32
  sg : D.sg.length = 64
  ls : ∀ l ∈ D.ls, l.length = 32
structure BlockIs (W : World) (B : Block) (D : DB) : Prop where
  ok : B.ok
  w : B.fWriter = D.w
  seq : B.fSeq = D.seq
  prev : B.fPrev = D.prev
  ls : RowsAt W B.fLinks 32 D.ls
  ds : BytesAt W B.fData D.ds
  sg : B.fSig = D.sg
theorem BlockIs.dok {W : World} {B : Block} {D : DB} (h : BlockIs W B D) : D.ok := ⟨by rw [← h.w]; exact h.ok.l_fWriter, by rw [← h.prev]; exact h.ok.l_fPrev, by rw [← h.sg]; exact h.ok.l_fSig, h.ls.row⟩
theorem BlockIs.check {W : World} {B : Block} {D : DB} (h : BlockIs W B D) : bcheck B D.ls = D.check := by
  simp only [bcheck, bheadB, DB.check, DB.head, h.seq, h.prev, h.ls.len, h.ds.len]
theorem BlockIs.body {W : World} {B : Block} {D : DB} (h : BlockIs W B D) : bodyB B D.ls D.ds = D.body := by
  simp only [bodyB, DB.body, h.w, h.seq, h.prev, h.ls.len, h.ds.len]
theorem BlockIs.bytes {W : World} {B : Block} {D : DB} (h : BlockIs W B D) : bytesB B D.ls D.ds = D.bytes := by
  simp only [bytesB, DB.bytes, h.body, h.sg]
theorem acc_rows {s : Sl} {bl : List Blk} {ls : List (List UInt8)} {E : TypeId} {n : Nat} {w : World} (h : Acc s bl (flatB ls) E n 32) (hl : Lies bl w) (hr : ∀ l ∈ ls, l.length = 32) (hn : ls.length = n) (hm : n ≤ 1000000) : RowsAt w s 32 ls :=
  ⟨by rw [h.num, hn], hr, h.cap, h.see hl, by rw [h.num]; unfold maxLen; omega, h.nilc⟩
theorem acc_bytes {s : Sl} {bl : List Blk} {l : List UInt8} {E : TypeId} {n : Nat} {w : World} (h : Acc s bl (bytesV l) E n 1) (hl : Lies bl w) (hn : l.length = n) (hm : n ≤ 1000000) : BytesAt w s l :=
  ⟨by rw [h.num, hn], h.cap, h.see hl, by rw [h.num]; unfold maxLen; omega, h.nilc⟩
/-- what is read: the data of a block -/
def readP (xs : List UInt8) : DB × Nat × Int :=
  let r1 := digR xs 0 0
  let r2 := numR xs r1.2.1 r1.2.2
  let r3 := digR xs r2.2.1 r2.2.2
  let r4 := numR xs r3.2.1 r3.2.2
  let r5 := digsR xs (min r4.1.toNat 17) r4.2.1 r4.2.2
  let r6 := blkR xs r5.2.1 r5.2.2
  let r7 := takR xs 64 r6.2.1 r6.2.2
  (⟨r1.1, r2.1, r3.1, r5.1, r6.1.getD [], r7.1 ++ (List.replicate 64 0).drop r7.1.length⟩, r7.2)
def readD (xs : List UInt8) : DB × Int :=
  if endR xs.length (readP xs).2.1 (readP xs).2.2 = 0 ∧ (readP xs).1.check = 0 then ((readP xs).1, 0) else (DB.zero, 4)
theorem readD_bad {xs : List UInt8} (h : ¬ (endR xs.length (readP xs).2.1 (readP xs).2.2 = 0 ∧ (readP xs).1.check = 0)) : readD xs = (DB.zero, 4) := if_neg h
theorem readD_ok {xs : List UInt8} (h : endR xs.length (readP xs).2.1 (readP xs).2.2 = 0 ∧ (readP xs).1.check = 0) : readD xs = ((readP xs).1, 0) := if_pos h
theorem bcheck_D {B : Block} {D : DB} (h1 : B.fSeq = D.seq) (h2 : B.fPrev = D.prev) (h3 : B.fLinks.n = D.ls.length) (h4 : B.fData.n = D.ds.length) : bcheck B D.ls = D.check := by
  have e : bheadB B = D.head := by
    unfold bheadB DB.head
    rw [h1, h2, h3, h4]
  unfold bcheck DB.check
  rw [e, h2]
theorem zero_is (W : World) : BlockIs W Block.zero DB.zero := ⟨Block.zero_ok, rfl, rfl, rfl, ⟨rfl, fun l hl => (by cases hl), Nat.le_refl _, SeesP.nil, Nat.zero_le _, fun _ => rfl⟩, ⟨rfl, Nat.le_refl _, SeesP.nil, Nat.zero_le _, fun _ => rfl⟩, rfl⟩
theorem fin_bad {xs : List UInt8} {out : List Blk} (h : ¬ (endR xs.length (readP xs).2.1 (readP xs).2.2 = 0 ∧ (readP xs).1.check = 0)) : ∃ B : Block, B.ok ∧ Value.tuple #[agg Block.zero.cells, i64 4] = .tuple #[agg B.cells, i64 (readD xs).2] ∧ ∀ W2, Lies out W2 → BlockIs W2 B (readD xs).1 := by
  rw [readD_bad h]
  exact ⟨Block.zero, Block.zero_ok, rfl, fun W2 _ => zero_is W2⟩
theorem fin_ok {xs : List UInt8} {out : List Blk} {B : Block} (h : endR xs.length (readP xs).2.1 (readP xs).2.2 = 0 ∧ (readP xs).1.check = 0) (hok : B.ok) (hB : ∀ W2, Lies out W2 → BlockIs W2 B (readP xs).1) : ∃ B' : Block, B'.ok ∧ Value.tuple #[agg B.cells, i64 0] = .tuple #[agg B'.cells, i64 (readD xs).2] ∧ ∀ W2, Lies out W2 → BlockIs W2 B' (readD xs).1 := by
  rw [readD_ok h]
  exact ⟨B, hok, rfl, hB⟩

set_option maxRecDepth 100000 in
set_option maxHeartbeats 4000000 in
theorem block_read (p : Option Addr) (n c : Nat) (xs : List UInt8) (hl : xs.length = n) (hp : p = none → n = 0) (hn : n ≤ 90000) : Meets Try.prog 27 [.slice p n c] [] (fun W => SeesP W p (bytesV xs)) (fun v out => ∃ B : Block, B.ok ∧ v = .tuple #[agg B.cells, i64 (readD xs).2] ∧ ∀ W2, Lies out W2 → BlockIs W2 B (readD xs).1) := by
  intro W hW
  obtain ⟨l1, r1, h1⟩ : ∃ l r, digR xs 0 0 = (l, r) := ⟨_, _, rfl⟩
  obtain ⟨a1, e1⟩ := r1
  obtain ⟨x2, r2, h2⟩ : ∃ l r, numR xs a1 e1 = (l, r) := ⟨_, _, rfl⟩
  obtain ⟨a2, e2⟩ := r2
  obtain ⟨l3, r3, h3⟩ : ∃ l r, digR xs a2 e2 = (l, r) := ⟨_, _, rfl⟩
  obtain ⟨a3, e3⟩ := r3
  obtain ⟨x4, r4, h4⟩ : ∃ l r, numR xs a3 e3 = (l, r) := ⟨_, _, rfl⟩
  obtain ⟨a4, e4⟩ := r4
  obtain ⟨ls, r5, h5⟩ : ∃ l r, digsR xs (min x4.toNat 17) a4 e4 = (l, r) := ⟨_, _, rfl⟩
  obtain ⟨a5, e5⟩ := r5
  obtain ⟨o, r6, h6⟩ : ∃ l r, blkR xs a5 e5 = (l, r) := ⟨_, _, rfl⟩
  obtain ⟨a6, e6⟩ := r6
  obtain ⟨l7, r7, h7⟩ : ∃ l r, takR xs 64 a6 e6 = (l, r) := ⟨_, _, rfl⟩
  obtain ⟨a7, e7⟩ := r7
  have hrp : readP xs = ((⟨l1, x2, l3, ls, o.getD [], l7 ++ (List.replicate 64 0).drop l7.length⟩ : DB), a7, e7) := by simp only [readP, h1, h2, h3, h4, h5, h6, h7]
  have hd1 := digE_le h1 hl (Nat.zero_le _)
  have hd2 := numE_le h2 hl hd1.1
  have hd3 := digE_le h3 hl hd2
  have hd4 := numE_le h4 hl hd3.1
  have hd5 := digsR_at (e := e4) hl hd4 (min x4.toNat 17)
  rw [h5] at hd5
  have hd6 := blkE_le h6 hl hd5.1
  have hd7 := takE_le h7 hl hd6.1
  have hs64 : (l7 ++ (List.replicate 64 0).drop l7.length).length = 64 := by rcases hd7.2 with h | h <;> simp [h]
  have okX : ∀ s2 s3, ({ Block.zero with fWriter := l1, fSeq := x2, fPrev := l3, fLinks := s2, fData := s3, fSig := l7 ++ Block.zero.fSig.drop l7.length } : Block).ok := fun s2 s3 => ⟨hd1.2, hd3.2, hs64⟩
  refine calls_of (hp0 := []) Try.func27 rfl 26 Try.ntmps27 rfl (HRep.nil _) ?_
  refine Sat.seq ?_
  refine Sat.region ?_
  refine Tr.alloc (cs := Block.zero.cells) rfl Block.zr rfl ?_
  intro n2 hn2 hf2
  refine Tr.assign rfl rfl rfl ?_
  refine Tr.nil ?_
  refine at_n ?_
  refine Sat.seq ?_
  refine Sat.region ?_
  refine Tr.move rfl rfl rfl ?_
  refine Tr.call4 rfl rfl rfl rfl rfl Body51 (oct_Read p n c xs hl hp hn) (fun w h => seesP_ext h rfl hW) ?_
  rintro v7 out7 ⟨n4, q4, cp4, rfl, hcp, rfl⟩
  refine Tr.assign rfl rfl rfl ?_
  refine Tr.nil ?_
  refine at_n ?_
  refine Sat.seq ?_
  refine Sat.region ?_
  refine Tr.move rfl rfl rfl ?_
  refine Tr.call4 rfl rfl rfl rfl rfl Body53 (mk_head n4) (fun _ _ => trivial) ?_
  rintro v9 out9 ⟨c1, rfl, rfl⟩
  refine Tr.move rfl rfl rfl ?_
  refine Tr.call4 rfl rfl rfl rfl rfl Body54 (mk_links n4) (fun _ _ => trivial) ?_
  rintro v11 out11 ⟨c2, rfl, rfl⟩
  refine Tr.move rfl rfl rfl ?_
  refine Tr.call4 rfl rfl rfl rfl rfl Body55 (mk_tail n4) (fun _ _ => trivial) ?_
  rintro v13 out13 ⟨c3, rfl, rfl⟩
  refine Tr.mkRow (z := .nilFunc) [.func (.func 76) #[] #[ptr c1 0], .func (.func 77) #[] #[ptr c2 0], .func (.func 78) #[] #[ptr c3 0]] [.func (.func 76) #[] #[ptr c1 0], .func (.func 77) #[] #[ptr c2 0], .func (.func 78) #[] #[ptr c3 0]] rfl rfl rfl Try.underlying135 Sz110 Zr110 rfl rfl (by intro v hv; simp only [List.mem_cons, List.not_mem_nil, or_false] at hv; rcases hv with rfl | rfl | rfl <;> rfl) dE rfl ?_
  intro r14
  refine Tr.nd (fun hnd => ?_)
  simp only [RB, blk, List.map_cons, List.map_nil, List.map_append, List.cons_append, List.nil_append, List.nodup_cons, List.mem_cons, List.not_mem_nil, or_false] at hnd
  have hne : Hid (r14 ≠ n4 ∧ c1 ≠ n4 ∧ c2 ≠ n4 ∧ c3 ≠ n4 ∧ q4 ≠ n4) := ⟨by refine ⟨?_, ?_, ?_, ?_, ?_⟩ <;> (intro e; simp [e] at hnd)⟩
  clear hnd
  refine Tr.callL (L := [RB n4 q4 n cp4 0 0]) rfl rfl rfl rfl rfl Body52 (block_build r14 n4 q4 n cp4 c1 c2 c3 xs hl hcp hn hne.out.1 hne.out.2.1 hne.out.2.2.1 hne.out.2.2.2.1 hne.out.2.2.2.2 l1 a1 e1 x2 a2 e2 l3 a3 e3 h1 h2 h3 x4 a4 e4 h4 ls a5 e5 h5 o a6 e6 h6 l7 a7 e7 h7) (pm_cons rM pm_nil) (lent_ok rfl) (fun w h => ⟨own_blk h mM, sees_own h mM, ⟨(own_blk h mM).cell (o := 0) rfl, (own_blk (B := ⟨r14, [.func (.func 76) #[] #[ptr c1 0], .func (.func 77) #[] #[ptr c2 0], .func (.func 78) #[] #[ptr c3 0]], _, _⟩) h mM).cell (o := 1) rfl, (own_blk (B := ⟨r14, [.func (.func 76) #[] #[ptr c1 0], .func (.func 77) #[] #[ptr c2 0], .func (.func 78) #[] #[ptr c3 0]], _, _⟩) h mM).cell (o := 2) rfl⟩, (own_blk (B := ⟨c1, _, _, _⟩) h mM).cell (o := 0) rfl, (own_blk (B := ⟨c2, _, _, _⟩) h mM).cell (o := 0) rfl, (own_blk (B := ⟨c3, _, _, _⟩) h mM).cell (o := 0) rfl, (own_blk (B := ⟨q4, bytesV xs, _, _⟩) h mM).lt⟩) ?_
  rintro v15 out15 ⟨s2, bl2, s3, bl3, rfl, hac2, hac3, rfl⟩
  simp only [List.append_assoc, List.cons_append, List.nil_append]
  refine Tr.alloc (cs := Block.zero.cells) rfl Block.zr rfl ?_
  intro n5 hn5 hf5
  refine Tr.storeAll rfl rfl rfl rfl (Block.isCell (by first | exact oK  | exact okX _ _)) Sz31 (Block.length (by first | exact oK  | exact okX _ _)) mM (Block.length (by first | exact oK  | exact okX _ _)) uU ?_
  refine Tr.nil ?_
  refine at_n ?_
  refine Sat.seq ?_
  refine Sat.seq ?_
  refine Sat.region ?_
  refine Tr.move rfl rfl rfl ?_
  refine Tr.callV rfl rfl rfl rfl Body56 (rd_End n4 q4 n cp4 a7 e7 hd7.1 oM) (fun w h => own_blk h mM) ?_
  refine two (fun r hr k => Tr.nei rfl rfl rfl rfl hr k) (fun hs3_20 => ?_) (fun hs3_20 => ?_)
  ·
    first | have hs3_2 := of_decide_eq_true hs3_20 | have hs3_2 := of_decide_eq_false hs3_20 | have hs3_2 := nd_t hs3_20 | have hs3_2 := nd_f hs3_20 | have hs3_2 := hs3_20
    refine Tr.move rfl rfl rfl ?_
    refine Tr.skp rfl rfl ?_
    refine Tr.skp rfl rfl ?_
    refine Tr.skp rfl rfl ?_
    refine Tr.pick rfl rfl rfl rfl rfl rfl ?_
    refine Tr.nil ?_
    refine at_n ?_
    refine Sat.cond_t rfl rfl ?_
    refine Sat.seq ?_
    refine Sat.region ?_
    refine Tr.build (cs := Block.zero.cells) rfl rfl rfl (fun w => by kernel_rfl) ?_
    refine Tr.storeAll rfl rfl rfl rfl (Block.isCell (by first | exact oK  | exact okX _ _)) Sz31 (Block.length (by first | exact oK  | exact okX _ _)) mM (Block.length (by first | exact oK  | exact okX _ _)) uU ?_
    refine Tr.assign rfl rfl rfl ?_
    refine Tr.nil ?_
    refine at_n ?_
    refine Sat.ret ?_
    refine at_r ?_
    refine en_r ?_
    refine end_perm (out := (bl2 ++ (bl3 ++ []))) (res_cell_tmp rfl rfl rfl Try.underlying31 rfl Sz31 mM (by first | (simp; done) | exact Block.length (by first | exact oK  | exact okX _ _))) (pm_seg sG (pm_seg sG pm_nil)) ?_
    first
      | exact fin_bad (by rw [hrp, hl]; exact fun h => hs3_2 h.1)
      | exact fin_bad (by rw [hrp, ← bcheck_D (B := ({ Block.zero with fWriter := l1, fSeq := x2, fPrev := l3, fLinks := s2, fData := s3, fSig := l7 ++ Block.zero.fSig.drop l7.length } : Block)) rfl rfl (by rw [hac2.num]; exact hd5.2.2.symm) hac3.num]; exact fun h => hc0 h.2)
      | exact fin_ok (by rw [hrp, hl, ← bcheck_D (B := ({ Block.zero with fWriter := l1, fSeq := x2, fPrev := l3, fLinks := s2, fData := s3, fSig := l7 ++ Block.zero.fSig.drop l7.length } : Block)) rfl rfl (by rw [hac2.num]; exact hd5.2.2.symm) hac3.num]; exact ⟨hs3_2, hc0⟩) (okX _ _) (fun W2 h2 => by
          rw [hrp]
          exact ⟨okX _ _, rfl, rfl, rfl, acc_rows hac2 (h2.sub in_here) hd5.2.1 hd5.2.2 oM, acc_bytes hac3 (h2.sub (in_seg in_here)) rfl (by have := hd6.2; omega), rfl⟩)
  ·
    first | have hs3_2 := of_decide_eq_true hs3_20 | have hs3_2 := of_decide_eq_false hs3_20 | have hs3_2 := nd_t hs3_20 | have hs3_2 := nd_f hs3_20 | have hs3_2 := hs3_20
    refine Tr.move rfl rfl rfl ?_
    refine Tr.loadAll rfl rfl rfl Try.underlying31 rfl Sz31 mM (Block.length (by first | exact oK  | exact okX _ _)) ?_
    refine Tr.callV rfl rfl rfl rfl Body40 (block_check ({ Block.zero with fWriter := l1, fSeq := x2, fPrev := l3, fLinks := s2, fData := s3, fSig := l7 ++ Block.zero.fSig.drop l7.length } : Block) (okX _ _) ls) (fun w h => acc_rows hac2 (Lies.of h iN) hd5.2.1 hd5.2.2 oM) ?_
    refine Tr.nei rfl rfl rfl rfl rfl ?_
    refine Tr.pick rfl rfl rfl rfl rfl rfl ?_
    refine Tr.nil ?_
    refine at_n ?_
    first
      | refine Sat.condP rfl (fun hc0 => ?_) (fun hc0 => ?_)
      | refine Sat.condNP rfl (fun hc0 => ?_) (fun hc0 => ?_)
      | refine Sat.cond rfl (fun hc0 => ?_) (fun hc0 => ?_)
    ·
      refine Sat.seq ?_
      refine Sat.region ?_
      refine Tr.build (cs := Block.zero.cells) rfl rfl rfl (fun w => by kernel_rfl) ?_
      refine Tr.storeAll rfl rfl rfl rfl (Block.isCell (by first | exact oK  | exact okX _ _)) Sz31 (Block.length (by first | exact oK  | exact okX _ _)) mM (Block.length (by first | exact oK  | exact okX _ _)) uU ?_
      refine Tr.assign rfl rfl rfl ?_
      refine Tr.nil ?_
      refine at_n ?_
      refine Sat.ret ?_
      refine at_r ?_
      refine en_r ?_
      refine end_perm (out := (bl2 ++ (bl3 ++ []))) (res_cell_tmp rfl rfl rfl Try.underlying31 rfl Sz31 mM (by first | (simp; done) | exact Block.length (by first | exact oK  | exact okX _ _))) (pm_seg sG (pm_seg sG pm_nil)) ?_
      first
        | exact fin_bad (by rw [hrp, hl]; exact fun h => hs3_2 h.1)
        | exact fin_bad (by rw [hrp, ← bcheck_D (B := ({ Block.zero with fWriter := l1, fSeq := x2, fPrev := l3, fLinks := s2, fData := s3, fSig := l7 ++ Block.zero.fSig.drop l7.length } : Block)) rfl rfl (by rw [hac2.num]; exact hd5.2.2.symm) hac3.num]; exact fun h => hc0 h.2)
        | exact fin_ok (by rw [hrp, hl, ← bcheck_D (B := ({ Block.zero with fWriter := l1, fSeq := x2, fPrev := l3, fLinks := s2, fData := s3, fSig := l7 ++ Block.zero.fSig.drop l7.length } : Block)) rfl rfl (by rw [hac2.num]; exact hd5.2.2.symm) hac3.num]; exact ⟨hs3_2, hc0⟩) (okX _ _) (fun W2 h2 => by
            rw [hrp]
            exact ⟨okX _ _, rfl, rfl, rfl, acc_rows hac2 (h2.sub in_here) hd5.2.1 hd5.2.2 oM, acc_bytes hac3 (h2.sub (in_seg in_here)) rfl (by have := hd6.2; omega), rfl⟩)
    ·
      refine Sat.skip ?_
      refine at_n ?_
      refine Sat.seq ?_
      refine Sat.region ?_
      refine Tr.loadAll rfl rfl rfl Try.underlying31 rfl Sz31 mM (Block.length (by first | exact oK  | exact okX _ _)) ?_
      refine Tr.storeAll rfl rfl rfl rfl (Block.isCell (by first | exact oK  | exact okX _ _)) Sz31 (Block.length (by first | exact oK  | exact okX _ _)) mM (Block.length (by first | exact oK  | exact okX _ _)) uU ?_
      refine Tr.assign rfl rfl rfl ?_
      refine Tr.nil ?_
      refine at_n ?_
      refine Sat.ret ?_
      refine en_r ?_
      refine end_perm (out := (bl2 ++ (bl3 ++ []))) (res_cell_tmp rfl rfl rfl Try.underlying31 rfl Sz31 mM (by first | (simp; done) | exact Block.length (by first | exact oK  | exact okX _ _))) (pm_seg sG (pm_seg sG pm_nil)) ?_
      first
        | exact fin_bad (by rw [hrp, hl]; exact fun h => hs3_2 h.1)
        | exact fin_bad (by rw [hrp, ← bcheck_D (B := ({ Block.zero with fWriter := l1, fSeq := x2, fPrev := l3, fLinks := s2, fData := s3, fSig := l7 ++ Block.zero.fSig.drop l7.length } : Block)) rfl rfl (by rw [hac2.num]; exact hd5.2.2.symm) hac3.num]; exact fun h => hc0 h.2)
        | exact fin_ok (by rw [hrp, hl, ← bcheck_D (B := ({ Block.zero with fWriter := l1, fSeq := x2, fPrev := l3, fLinks := s2, fData := s3, fSig := l7 ++ Block.zero.fSig.drop l7.length } : Block)) rfl rfl (by rw [hac2.num]; exact hd5.2.2.symm) hac3.num]; exact ⟨hs3_2, hc0⟩) (okX _ _) (fun W2 h2 => by
            rw [hrp]
            exact ⟨okX _ _, rfl, rfl, rfl, acc_rows hac2 (h2.sub in_here) hd5.2.1 hd5.2.2 oM, acc_bytes hac3 (h2.sub (in_seg in_here)) rfl (by have := hd6.2; omega), rfl⟩)

end Go.Proofs.Ytlgbmfokgnoocaa
end

section
namespace Hw
open Go
set_option linter.unusedSimpArgs false
set_option linter.unusedVariables false

/-- turned to the left by s bits -/
def rolW (x : UInt64) (s : Nat) : UInt64 := shl64 x s ||| shr64 x (64 - s)
def schA (p : List UInt8) : Nat → List UInt64
  | 0 => List.replicate 80 0
  | i + 1 => (schA p i).set (i / 8) (shl64 ((schA p i).getD (i / 8) 0) 8 ||| (p.getD i 0).toUInt64)
theorem schA_length (p : List UInt8) : ∀ i, (schA p i).length = 80
  | 0 => rfl
  | i + 1 => by rw [schA, List.length_set, schA_length p i]
def sig0 (x : UInt64) : UInt64 := rolW x 63 ^^^ rolW x 56 ^^^ shr64 x 7
def sig1 (y : UInt64) : UInt64 := rolW y 45 ^^^ rolW y 3 ^^^ shr64 y 6
def schB (w : List UInt64) : Nat → List UInt64
  | 0 => w
  | j + 1 => (schB w j).set (16 + j) ((schB w j).getD j 0 + sig0 ((schB w j).getD (j + 1) 0) + (schB w j).getD (j + 9) 0 + sig1 ((schB w j).getD (j + 14) 0))
theorem schB_length (w : List UInt64) : ∀ j, (schB w j).length = w.length
  | 0 => rfl
  | j + 1 => by rw [schB, List.length_set, schB_length w j]
def schW (p : List UInt8) : List UInt64 := schB (schA p 128) 64
structure W8 where
  a : UInt64
  b : UInt64
  c : UInt64
  d : UInt64
  e : UInt64
  f : UInt64
  g : UInt64
  h : UInt64
def W8.l (s : W8) : List UInt64 := [s.a, s.b, s.c, s.d, s.e, s.f, s.g, s.h]
def W8.of (l : List UInt64) : W8 := ⟨l.getD 0 0, l.getD 1 0, l.getD 2 0, l.getD 3 0, l.getD 4 0, l.getD 5 0, l.getD 6 0, l.getD 7 0⟩
def rndT1 (s : W8) (k w : UInt64) : UInt64 := s.h + (rolW s.e 50 ^^^ rolW s.e 46 ^^^ rolW s.e 23) + ((s.e &&& s.f) ^^^ ((18446744073709551615 ^^^ s.e) &&& s.g)) + k + w
def rndT2 (s : W8) : UInt64 := (rolW s.a 36 ^^^ rolW s.a 30 ^^^ rolW s.a 25) + ((s.a &&& s.b) ^^^ (s.a &&& s.c) ^^^ (s.b &&& s.c))
def rnd1 (s : W8) (k w : UInt64) : W8 := ⟨rndT1 s k w + rndT2 s, s.a, s.b, s.c, s.d + rndT1 s k w, s.e, s.f, s.g⟩
def rnds (k w : List UInt64) (s : W8) : Nat → W8
  | 0 => s
  | t + 1 => rnd1 (rnds k w s t) (k.getD t 0) (w.getD t 0)
def addUp (st xs : List UInt64) : Nat → List UInt64
  | 0 => st
  | i + 1 => (addUp st xs i).set i ((addUp st xs i).getD i 0 + xs.getD i 0)
theorem addUp_length (st xs : List UInt64) : ∀ i, (addUp st xs i).length = st.length
  | 0 => rfl
  | i + 1 => by rw [addUp, List.length_set, addUp_length st xs i]
def pieceW (k st : List UInt64) (p : List UInt8) : List UInt64 := addUp st (rnds k (schW p) (W8.of st) 80).l 8
theorem pieceW_length (k st : List UInt64) (p : List UInt8) : (pieceW k st p).length = st.length := addUp_length _ _ _
def sumUp (st : List UInt64) : Nat → List UInt8
  | 0 => List.replicate 64 0
  | i + 1 => (sumUp st i).set i (shr64 (st.getD (i / 8) 0) (56 - 8 * (i % 8))).toUInt8
theorem sumUp_length (st : List UInt64) : ∀ i, (sumUp st i).length = 64
  | 0 => rfl
  | i + 1 => by rw [sumUp, List.length_set, sumUp_length st i]
/-- the zeros behind the 128 -/
def padZ (n : Nat) : Nat := (239 - n % 128) % 128
theorem padZ_lt (n : Nat) : padZ n < 128 := Nat.mod_lt _ dE
theorem padZ_at (n j : Nat) (h : j ≤ padZ n) : (n + 1 + j) % 128 = 112 ↔ j = padZ n := by unfold padZ at *; omega
def beUp (x : UInt64) : Nat → List UInt8
  | 0 => []
  | j + 1 => beUp x j ++ [(shr64 x (56 - 8 * j)).toUInt8]
theorem beUp_length (x : UInt64) : ∀ j, (beUp x j).length = j
  | 0 => rfl
  | j + 1 => by rw [beUp, List.length_append, beUp_length x j]; rfl
def padB (l : List UInt8) : List UInt8 := l ++ [128] ++ List.replicate (padZ l.length) 0 ++ beUp 0 8 ++ beUp (UInt64.ofNat (8 * l.length)) 8
theorem padB_length (l : List UInt8) : (padB l).length = l.length + 17 + padZ l.length := by
  simp only [padB, List.length_append, beUp_length, List.length_replicate, List.length_singleton]; omega
theorem padB_mod (l : List UInt8) : (padB l).length = 128 * ((padB l).length / 128) := by
  rw [padB_length]; unfold padZ; omega
def runW (k st : List UInt64) (bs : List UInt8) : Nat → List UInt64
  | 0 => st
  | i + 1 => pieceW k (runW k st bs i) ((bs.drop (128 * i)).take 128)
theorem runW_length (k st : List UInt64) (bs : List UInt8) : ∀ i, (runW k st bs i).length = st.length
  | 0 => rfl
  | i + 1 => by rw [runW, pieceW_length, runW_length k st bs i]
def allW (k st : List UInt64) (l : List UInt8) : List UInt64 := runW k st (padB l) ((padB l).length / 128)
theorem allW_length (k st : List UInt64) (l : List UInt8) : (allW k st l).length = st.length := runW_length _ _ _ _
end Hw
end

section
namespace Go.Proofs.Ytlgbmfokgnoocaa
open Go Hw
set_option linter.unusedVariables false
set_option linter.unusedSimpArgs false

def kW : List UInt64 := [4794697086780616226, 8158064640168781261, 13096744586834688815, 16840607885511220156, 4131703408338449720, 6480981068601479193, 10538285296894168987, 12329834152419229976, 15566598209576043074, 1334009975649890238, 2608012711638119052, 6128411473006802146, 8268148722764581231, 9286055187155687089, 11230858885718282805, 13951009754708518548, 16472876342353939154, 17275323862435702243, 1135362057144423861, 2597628984639134821, 3308224258029322869, 5365058923640841347, 6679025012923562964, 8573033837759648693, 10970295158949994411, 12119686244451234320, 12683024718118986047, 13788192230050041572, 14330467153632333762, 15395433587784984357, 489312712824947311, 1452737877330783856, 2861767655752347644, 3322285676063803686, 5560940570517711597, 5996557281743188959, 7280758554555802590, 8532644243296465576, 9350256976987008742, 10552545826968843579, 11727347734174303076, 12113106623233404929, 14000437183269869457, 14369950271660146224, 15101387698204529176, 15463397548674623760, 17586052441742319658, 1182934255886127544, 1847814050463011016, 2177327727835720531, 2830643537854262169, 3796741975233480872, 4115178125766777443, 5681478168544905931, 6601373596472566643, 7507060721942968483, 8399075790359081724, 8693463985226723168, 9568029438360202098, 10144078919501101548, 10430055236837252648, 11840083180663258601, 13761210420658862357, 14299343276471374635, 14566680578165727644, 15097957966210449927, 16922976911328602910, 17689382322260857208, 500013540394364858, 748580250866718886, 1242879168328830382, 1977374033974150939, 2944078676154940804, 3659926193048069267, 4368137639120453308, 4836135668995329356, 5532061633213252278, 6448918945643986474, 6902733635092675308, 7801388544844847127]
def startW : List UInt64 := [7640891576956012808, 13503953896175478587, 4354685564936845355, 11912009170470909681, 5840696475078001361, 11170449401992604703, 2270897969802886507, 6620516959819538809]

set_option maxRecDepth 100000 in
set_option maxHeartbeats 1000000 in
theorem sha_K  : Meets Try.prog 101 [] [] (fun _ => True) (fun v out => v = agg (wordsV kW) ∧ out = []) := by
  intro W hW
  refine calls_of (hp0 := []) Try.func101 rfl 2 Try.ntmps101 rfl (HRep.nil _) ?_
  refine Sat.seq ?_
  refine Sat.region ?_
  refine Tr.alloc (cs := (wordsV (List.replicate 80 0))) rfl Zr161 rfl ?_
  intro n0 hn0 hf0
  refine Tr.nil ?_
  refine at_n ?_
  refine Sat.seq ?_
  refine Sat.region ?_
  refine Tr.build (cs := wordsV kW) rfl rfl rfl (fun w => by kernel_rfl) ?_
  first
    | refine Tr.storeAll rfl rfl rfl rfl cB Sz161 (by first | assumption | (simp [kW]; done) | (rw [bytesV, List.length_map]; assumption)) mM (by first | assumption | (simp [kW]; done) | (rw [bytesV, List.length_map]; assumption)) uU ?_
    | refine Tr.storeN _ rfl rfl rfl rfl rfl cB Sz161 (by first | assumption | (simp [kW]; done) | (rw [bytesV, List.length_map]; assumption)) mM (by first | assumption | (simp [kW]; done) | (rw [bytesV, List.length_map]; assumption)) (by exact rfl) uU ?_
  refine Tr.nil ?_
  refine at_n ?_
  refine Sat.ret ?_
  refine en_r ?_
  refine ⟨_, [], res_cell rfl rfl Try.underlying161 rfl Sz161 mM (by simp [kW]), sP, sP, ?_, rfl⟩
  rfl

set_option maxRecDepth 100000 in
set_option maxHeartbeats 1000000 in
theorem sha_Start  : Meets Try.prog 97 [] [] (fun _ => True) (fun v out => v = agg (wordsV startW) ∧ out = []) := by
  intro W hW
  refine calls_of (hp0 := []) Try.func97 rfl 2 Try.ntmps97 rfl (HRep.nil _) ?_
  refine Sat.seq ?_
  refine Sat.region ?_
  refine Tr.alloc (cs := (wordsV (List.replicate 8 0))) rfl Zr148 rfl ?_
  intro n0 hn0 hf0
  refine Tr.nil ?_
  refine at_n ?_
  refine Sat.seq ?_
  refine Sat.region ?_
  refine Tr.build (cs := wordsV startW) rfl rfl rfl (fun w => by kernel_rfl) ?_
  first
    | refine Tr.storeAll rfl rfl rfl rfl cB Sz148 (by first | assumption | (simp [startW]; done) | (rw [bytesV, List.length_map]; assumption)) mM (by first | assumption | (simp [startW]; done) | (rw [bytesV, List.length_map]; assumption)) uU ?_
    | refine Tr.storeN _ rfl rfl rfl rfl rfl cB Sz148 (by first | assumption | (simp [startW]; done) | (rw [bytesV, List.length_map]; assumption)) mM (by first | assumption | (simp [startW]; done) | (rw [bytesV, List.length_map]; assumption)) (by exact rfl) uU ?_
  refine Tr.nil ?_
  refine at_n ?_
  refine Sat.ret ?_
  refine en_r ?_
  refine ⟨_, [], res_cell rfl rfl Try.underlying148 rfl Sz148 mM (by simp [startW]), sP, sP, ?_, rfl⟩
  rfl

set_option maxRecDepth 100000 in
set_option maxHeartbeats 1000000 in
theorem bits_rol (x : UInt64) (k : Int) (s : Nat) (hk : -64 ≤ k ∧ k ≤ 64) (hs : (wordOf k &&& 63).toNat = s) (hs2 : s ≤ 63) : Meets Try.prog 102 [u64 x, i64 k] [] (fun _ => True) (fun v out => v = u64 (rolW x s) ∧ out = []) := by
  intro W hW
  have h64 : ((64 : UInt64) - (wordOf k &&& 63)).toNat = 64 - s := by rw [UInt64.toNat_sub_of_le _ _ (by rw [UInt64.le_iff_toNat_le, hs]; show s ≤ 64; omega), hs]; rfl
  refine calls_of (hp0 := []) Try.func102 rfl 17 Try.ntmps102 rfl (HRep.nil _) ?_
  refine Sat.seq ?_
  refine Sat.region ?_
  refine Tr.assign rfl rfl (show evIn _ _ = some (u64 0) from rfl) ?_
  refine Tr.nil ?_
  refine at_n ?_
  refine Sat.seq ?_
  refine Sat.region ?_
  refine Tr.move rfl rfl rfl ?_
  refine Tr.conv rfl rfl rfl Try.underlying3 Try.underlying143 (cv_i64_u64 _) ?_
  refine Tr.and_u64 rfl rfl rfl (show evIn _ _ = some (u64 63) from rfl) ?_
  refine Tr.assign rfl rfl rfl ?_
  refine Tr.nil ?_
  refine at_n ?_
  refine Sat.seq ?_
  refine Sat.region ?_
  refine Tr.move rfl rfl rfl ?_
  refine Tr.move rfl rfl rfl ?_
  refine Tr.shl_u64 rfl rfl rfl rfl s oM oM ?_
  refine Tr.move rfl rfl rfl ?_
  refine Tr.move rfl rfl rfl ?_
  refine Tr.sub_u64 rfl rfl (show evIn _ _ = some (u64 64) from rfl) rfl ?_
  refine Tr.shr_u64 rfl rfl rfl rfl (64 - s) oM oM ?_
  refine Tr.or_u64 rfl rfl rfl rfl ?_
  refine Tr.assign rfl rfl rfl ?_
  refine Tr.nil ?_
  refine at_n ?_
  refine Sat.ret ?_
  refine en_r ?_
  refine ⟨_, [], res_tmp rfl rfl, sP, sP, ?_, rfl⟩
  rfl

set_option maxRecDepth 100000 in
set_option maxHeartbeats 4000000 in
theorem sha_schedule (p : List UInt8) (hp : p.length = 128) (A w : List UInt64) (hA : Hid (schA p 128 = A)) (hwp : Hid (schB A 64 = w)) : Meets Try.prog 100 [agg (bytesV p)] [] (fun _ => True) (fun v out => v = agg (wordsV w) ∧ out = []) := by
  intro W hW
  have hA80 : A.length = 80 := by rw [← hA.out]; exact schA_length p 128
  have hw80 : w.length = 80 := by rw [← hwp.out, schB_length]; exact hA80
  refine calls_of (hp0 := []) Try.func100 rfl 72 Try.ntmps100 rfl (HRep.nil _) ?_
  refine Sat.seq ?_
  refine Sat.region ?_
  refine Tr.boxA rfl rfl ?_
  intro n1 hn1 hf1
  refine Tr.alloc (cs := (wordsV (List.replicate 80 0))) rfl Zr161 rfl ?_
  intro n2 hn2 hf2
  refine Tr.nil ?_
  refine at_n ?_
  refine Sat.seq ?_
  refine Sat.region ?_
  refine Tr.alloc (cs := (wordsV (List.replicate 80 0))) rfl Zr161 rfl ?_
  intro n3 hn3 hf3
  refine Tr.nil ?_
  refine at_n ?_
  refine Sat.seq ?_
  refine Sat.seq ?_
  refine Sat.region ?_
  first
    | refine Tr.loadAll rfl rfl rfl Try.underlying156 rfl Sz156 mM (by first | assumption | (simp [hp, schA_length, schB_length, hw80, hA80]; done) | (rw [bytesV, List.length_map]; assumption)) ?_
    | refine Tr.loadN _ rfl rfl rfl Try.underlying156 rfl Sz156 mM (by exact rfl) (by first | assumption | (simp [hp, schA_length, schB_length, hw80, hA80]; done) | (rw [bytesV, List.length_map]; assumption)) ?_
  refine Tr.move rfl rfl rfl ?_
  refine Tr.nil ?_
  refine at_n ?_
  refine Sat.block ?_
  refine Sat.loop (ι := Nat) (fun k => ⟨[(3, ptr n3 0), (2, ptr n2 0), (11, agg (bytesV p)), (12, i64 (k : Int))], [⟨n3, wordsV (schA p k), 161, 80⟩, ⟨n2, wordsV (List.replicate 80 0), 161, 80⟩]⟩) (fun k => k ≤ 128) (fun k => 128 - k) (0) ?_ ?_ ?_
  · omega
  · exact weak_of (wk1 rfl (wk1 rfl (wk1 rfl (wk1 rfl wk0)))) (wh1 mM (wh1 mM wh0)) nD
  ·
    rintro k hi
    have hlk := schA_length p k
    refine Sat.seq ?_
    refine Sat.region ?_
    refine Tr.lss rfl rfl rfl rfl rfl ?_
    refine Tr.nil ?_
    refine at_n ?_
    refine Sat.seq ?_
    first
      | refine Sat.condP rfl (fun hc0 => ?_) (fun hc0 => ?_)
      | refine Sat.condNP rfl (fun hc0 => ?_) (fun hc0 => ?_)
      | refine Sat.cond rfl (fun hc0 => ?_) (fun hc0 => ?_)
    ·
      refine Sat.skip ?_
      refine at_n ?_
      refine Sat.seq ?_
      refine Sat.block ?_
      refine Sat.seq ?_
      refine Sat.region ?_
      refine Tr.move rfl rfl rfl ?_
      refine Tr.idxA1 rfl rfl rfl rfl Try.underlying156 Sz5 Try.underlying5 rfl _ rfl oM (by first | rfl | exact get_words (by first | omega | (simp [hp, schA_length, schB_length, hw80, hA80]; done) | (simp [hp, schA_length, schB_length, hw80, hA80]; omega)) | exact get_bytes (by first | omega | (simp [hp, schA_length, schB_length, hw80, hA80]; done) | (simp [hp, schA_length, schB_length, hw80, hA80]; omega)) | exact get_ints (by first | omega | (simp [hp, schA_length, schB_length, hw80, hA80]; done) | (simp [hp, schA_length, schB_length, hw80, hA80]; omega))) ?_
      refine Tr.assign rfl rfl rfl ?_
      refine Tr.assign rfl rfl rfl ?_
      refine Tr.nil ?_
      refine at_n ?_
      refine Sat.region ?_
      refine Tr.move rfl rfl rfl ?_
      refine Tr.quo_i64 rfl rfl rfl rfl oM ?_
      refine Tr.move rfl rfl rfl ?_
      refine Tr.quo_i64 rfl rfl rfl rfl oM ?_
      first
        | refine Tr.idxArr1 rfl rfl rfl rfl Try.underlying161 Sz24 (k / 8) oM oM ?_
        | refine Tr.idxArrO rfl rfl rfl rfl Try.underlying161 Sz24 (k / 8) oM oM ?_
      refine Tr.load1 rfl rfl rfl Try.underlying24 rfl mM (by first | rfl | exact get_words (by first | omega | (simp [hp, schA_length, schB_length, hw80, hA80]; done) | (simp [hp, schA_length, schB_length, hw80, hA80]; omega)) | exact get_bytes (by first | omega | (simp [hp, schA_length, schB_length, hw80, hA80]; done) | (simp [hp, schA_length, schB_length, hw80, hA80]; omega)) | exact get_ints (by first | omega | (simp [hp, schA_length, schB_length, hw80, hA80]; done) | (simp [hp, schA_length, schB_length, hw80, hA80]; omega))) ?_
      refine Tr.shl_u64 rfl rfl rfl rfl 8 rfl dE ?_
      refine Tr.move rfl rfl rfl ?_
      refine Tr.conv rfl rfl rfl Try.underlying5 Try.underlying24 (cv_u8_u64 _) ?_
      refine Tr.or_u64 rfl rfl rfl rfl ?_
      first
        | refine Tr.idxArr1 rfl rfl rfl rfl Try.underlying161 Sz24 (k / 8) oM oM ?_
        | refine Tr.idxArrO rfl rfl rfl rfl Try.underlying161 Sz24 (k / 8) oM oM ?_
      refine Tr.store1 rfl rfl rfl rfl rfl Sz24 mM (by first | (simp [hp, schA_length, schB_length, hw80, hA80]; done) | (simp [hp, schA_length, schB_length, hw80, hA80]; omega)) sT uU ?_
      refine Tr.nil ?_
      refine bl_n ?_
      refine at_n ?_
      refine Sat.region ?_
      refine Tr.add_i64 rfl rfl rfl rfl oM ?_
      refine Tr.move rfl rfl rfl ?_
      refine Tr.nil ?_
      refine at_n ?_
      exact ⟨k + 1, by omega, by omega, weak_of (wk1 rfl (wk1 rfl (wk1 rfl (wk1 rfl wk0)))) (wh1 mM (wh1 mM wh0)) nD⟩
    ·
      obtain rfl : k = 128 := by omega
      rw [hA.out]
      clear hlk
      refine Sat.exit ?_
      refine at_x ?_
      refine at_x ?_
      refine bl_h ?_
      refine at_n ?_
      refine Sat.seq ?_
      refine Sat.seq ?_
      refine Sat.region ?_
      refine Tr.assign rfl rfl rfl ?_
      refine Tr.nil ?_
      refine at_n ?_
      refine Sat.block ?_
      refine Sat.loop (ι := Nat) (fun j => ⟨[(3, ptr n3 0), (2, ptr n2 0), (6, i64 (16 + (j : Int)))], [⟨n3, wordsV (schB A j), 161, 80⟩, ⟨n2, wordsV (List.replicate 80 0), 161, 80⟩]⟩) (fun j => j ≤ 64) (fun j => 64 - j) (0) ?_ ?_ ?_
      · omega
      · exact weak_of (wk1 rfl (wk1 rfl (wk1 rfl wk0))) (wh1 mM (wh1 mM wh0)) nD
      ·
        rintro j hi
        have hlj := schB_length A j
        refine Sat.seq ?_
        refine Sat.seq ?_
        refine Sat.region ?_
        refine Tr.move rfl rfl rfl ?_
        refine Tr.lss rfl rfl rfl rfl rfl ?_
        refine Tr.nil ?_
        refine at_n ?_
        first
          | refine Sat.condP rfl (fun hc1 => ?_) (fun hc1 => ?_)
          | refine Sat.condNP rfl (fun hc1 => ?_) (fun hc1 => ?_)
          | refine Sat.cond rfl (fun hc1 => ?_) (fun hc1 => ?_)
        ·
          refine Sat.skip ?_
          refine at_n ?_
          refine Sat.seq ?_
          refine Sat.block ?_
          refine Sat.seq ?_
          refine Sat.draw [(0, 0), (0, 1), (0, 2), (1, 3), (0, 4), (0, 5), (0, 6), (1, 7), (0, 8), (0, 9)] Mixed (by kernel_rfl) ?_
          refine Tr.move rfl rfl rfl ?_
          refine Tr.sub_i64 rfl rfl rfl rfl oM ?_
          first
            | refine Tr.idxArr1 rfl rfl rfl rfl Try.underlying161 Sz24 (j + 1) oM oM ?_
            | refine Tr.idxArrO rfl rfl rfl rfl Try.underlying161 Sz24 (j + 1) oM oM ?_
          refine Tr.load1 rfl rfl rfl Try.underlying24 rfl mM (by first | rfl | exact get_words (by first | omega | (simp [hp, schA_length, schB_length, hw80, hA80]; done) | (simp [hp, schA_length, schB_length, hw80, hA80]; omega)) | exact get_bytes (by first | omega | (simp [hp, schA_length, schB_length, hw80, hA80]; done) | (simp [hp, schA_length, schB_length, hw80, hA80]; omega)) | exact get_ints (by first | omega | (simp [hp, schA_length, schB_length, hw80, hA80]; done) | (simp [hp, schA_length, schB_length, hw80, hA80]; omega))) ?_
          refine Tr.move rfl rfl rfl ?_
          refine Tr.sub_i64 rfl rfl rfl rfl oM ?_
          first
            | refine Tr.idxArr1 rfl rfl rfl rfl Try.underlying161 Sz24 (j + 14) oM oM ?_
            | refine Tr.idxArrO rfl rfl rfl rfl Try.underlying161 Sz24 (j + 14) oM oM ?_
          refine Tr.load1 rfl rfl rfl Try.underlying24 rfl mM (by first | rfl | exact get_words (by first | omega | (simp [hp, schA_length, schB_length, hw80, hA80]; done) | (simp [hp, schA_length, schB_length, hw80, hA80]; omega)) | exact get_bytes (by first | omega | (simp [hp, schA_length, schB_length, hw80, hA80]; done) | (simp [hp, schA_length, schB_length, hw80, hA80]; omega)) | exact get_ints (by first | omega | (simp [hp, schA_length, schB_length, hw80, hA80]; done) | (simp [hp, schA_length, schB_length, hw80, hA80]; omega))) ?_
          refine Tr.assign rfl rfl rfl ?_
          refine Tr.assign rfl rfl rfl ?_
          refine Tr.nil ?_
          refine at_n ?_
          refine Sat.seq ?_
          refine Sat.region ?_
          refine Tr.move rfl rfl rfl ?_
          refine Tr.callV rfl rfl rfl rfl Body102 (bits_rol _ (-1) 63 dE dE dE) (fun _ _ => trivial) ?_
          refine Tr.move rfl rfl rfl ?_
          refine Tr.callV rfl rfl rfl rfl Body102 (bits_rol _ (-8) 56 dE dE dE) (fun _ _ => trivial) ?_
          refine Tr.xor_u64 rfl rfl rfl rfl ?_
          refine Tr.move rfl rfl rfl ?_
          refine Tr.shr_u64 rfl rfl rfl rfl 7 rfl dE ?_
          refine Tr.xor_u64 rfl rfl rfl rfl ?_
          refine Tr.assign rfl rfl rfl ?_
          refine Tr.nil ?_
          refine at_n ?_
          refine Sat.seq ?_
          refine Sat.region ?_
          refine Tr.move rfl rfl rfl ?_
          refine Tr.callV rfl rfl rfl rfl Body102 (bits_rol _ (-19) 45 dE dE dE) (fun _ _ => trivial) ?_
          refine Tr.move rfl rfl rfl ?_
          refine Tr.callV rfl rfl rfl rfl Body102 (bits_rol _ (-61) 3 dE dE dE) (fun _ _ => trivial) ?_
          refine Tr.xor_u64 rfl rfl rfl rfl ?_
          refine Tr.move rfl rfl rfl ?_
          refine Tr.shr_u64 rfl rfl rfl rfl 6 rfl dE ?_
          refine Tr.xor_u64 rfl rfl rfl rfl ?_
          refine Tr.assign rfl rfl rfl ?_
          refine Tr.nil ?_
          refine at_n ?_
          refine Sat.draw [(0, 0), (0, 1), (0, 2), (0, 3), (1, 4), (0, 5), (0, 6), (0, 7), (0, 8), (0, 9), (1, 10), (0, 11), (0, 12), (0, 13), (0, 14), (4, 15)] Mixed (by kernel_rfl) ?_
          refine Tr.move rfl rfl rfl ?_
          refine Tr.move rfl rfl rfl ?_
          refine Tr.sub_i64 rfl rfl rfl rfl oM ?_
          first
            | refine Tr.idxArr1 rfl rfl rfl rfl Try.underlying161 Sz24 j oM oM ?_
            | refine Tr.idxArrO rfl rfl rfl rfl Try.underlying161 Sz24 j oM oM ?_
          refine Tr.load1 rfl rfl rfl Try.underlying24 rfl mM (by first | rfl | exact get_words (by first | omega | (simp [hp, schA_length, schB_length, hw80, hA80]; done) | (simp [hp, schA_length, schB_length, hw80, hA80]; omega)) | exact get_bytes (by first | omega | (simp [hp, schA_length, schB_length, hw80, hA80]; done) | (simp [hp, schA_length, schB_length, hw80, hA80]; omega)) | exact get_ints (by first | omega | (simp [hp, schA_length, schB_length, hw80, hA80]; done) | (simp [hp, schA_length, schB_length, hw80, hA80]; omega))) ?_
          refine Tr.move rfl rfl rfl ?_
          refine Tr.add_u64 rfl rfl rfl rfl ?_
          refine Tr.move rfl rfl rfl ?_
          refine Tr.sub_i64 rfl rfl rfl rfl oM ?_
          first
            | refine Tr.idxArr1 rfl rfl rfl rfl Try.underlying161 Sz24 (j + 9) oM oM ?_
            | refine Tr.idxArrO rfl rfl rfl rfl Try.underlying161 Sz24 (j + 9) oM oM ?_
          refine Tr.load1 rfl rfl rfl Try.underlying24 rfl mM (by first | rfl | exact get_words (by first | omega | (simp [hp, schA_length, schB_length, hw80, hA80]; done) | (simp [hp, schA_length, schB_length, hw80, hA80]; omega)) | exact get_bytes (by first | omega | (simp [hp, schA_length, schB_length, hw80, hA80]; done) | (simp [hp, schA_length, schB_length, hw80, hA80]; omega)) | exact get_ints (by first | omega | (simp [hp, schA_length, schB_length, hw80, hA80]; done) | (simp [hp, schA_length, schB_length, hw80, hA80]; omega))) ?_
          refine Tr.add_u64 rfl rfl rfl rfl ?_
          refine Tr.move rfl rfl rfl ?_
          refine Tr.add_u64 rfl rfl rfl rfl ?_
          first
            | refine Tr.idxArr1 rfl rfl rfl rfl Try.underlying161 Sz24 (16 + j) oM oM ?_
            | refine Tr.idxArrO rfl rfl rfl rfl Try.underlying161 Sz24 (16 + j) oM oM ?_
          refine Tr.store1 rfl rfl rfl rfl rfl Sz24 mM (by first | (simp [hp, schA_length, schB_length, hw80, hA80]; done) | (simp [hp, schA_length, schB_length, hw80, hA80]; omega)) sT uU ?_
          refine Tr.nil ?_
          refine bl_n ?_
          refine at_n ?_
          refine Sat.region ?_
          refine Tr.move rfl rfl rfl ?_
          refine Tr.add_i64 rfl rfl rfl rfl oM ?_
          refine Tr.assign rfl rfl rfl ?_
          refine Tr.nil ?_
          refine at_n ?_
          exact ⟨j + 1, by omega, by omega, weak_of (wk1 rfl (wk1 rfl (wk1 (congrArg (fun z => some (i64 z)) oM) wk0))) (wh1 mM (wh1 mM wh0)) nD⟩
        ·
          obtain rfl : j = 64 := by omega
          rw [hwp.out]
          clear hlj
          refine Sat.exit ?_
          refine at_x ?_
          refine at_x ?_
          refine bl_h ?_
          refine at_n ?_
          refine Sat.seq ?_
          refine Sat.region ?_
          first
            | refine Tr.loadAll rfl rfl rfl Try.underlying161 rfl Sz161 mM (by first | assumption | (simp [hp, schA_length, schB_length, hw80, hA80]; done) | (rw [bytesV, List.length_map]; assumption)) ?_
            | refine Tr.loadN _ rfl rfl rfl Try.underlying161 rfl Sz161 mM (by exact rfl) (by first | assumption | (simp [hp, schA_length, schB_length, hw80, hA80]; done) | (rw [bytesV, List.length_map]; assumption)) ?_
          first
            | refine Tr.storeAll rfl rfl rfl rfl cB Sz161 (by first | assumption | (simp [hp, schA_length, schB_length, hw80, hA80]; done) | (rw [bytesV, List.length_map]; assumption)) mM (by first | assumption | (simp [hp, schA_length, schB_length, hw80, hA80]; done) | (rw [bytesV, List.length_map]; assumption)) uU ?_
            | refine Tr.storeN _ rfl rfl rfl rfl rfl cB Sz161 (by first | assumption | (simp [hp, schA_length, schB_length, hw80, hA80]; done) | (rw [bytesV, List.length_map]; assumption)) mM (by first | assumption | (simp [hp, schA_length, schB_length, hw80, hA80]; done) | (rw [bytesV, List.length_map]; assumption)) (by exact rfl) uU ?_
          refine Tr.nil ?_
          refine at_n ?_
          refine Sat.ret ?_
          refine en_r ?_
          refine ⟨_, [], res_cell rfl rfl Try.underlying161 rfl Sz161 mM (by simp [hp, schA_length, schB_length, hw80, hA80]), sP, sP, ?_, rfl⟩
          rfl

theorem sha_Kk (k : List UInt64) (hk : Hid (kW = k)) : Meets Try.prog 101 [] [] (fun _ => True) (fun v out => v = agg (wordsV k) ∧ out = []) := by
  rw [← hk.out]; exact sha_K
theorem W8.l_length (R : W8) : R.l.length = 8 := rfl

set_option maxRecDepth 100000 in
set_option maxHeartbeats 4000000 in
theorem sha_Piece (st : List UInt64) (hst : st.length = 8) (p : List UInt8) (hp : p.length = 128) (A w k : List UInt64) (R : W8) (hA : Hid (schA p 128 = A)) (hwp : Hid (schB A 64 = w)) (hw : w.length = 80) (hk : Hid (kW = k)) (hk80 : k.length = 80) (hR : Hid (rnds k w (W8.of st) 80 = R)) : Meets Try.prog 96 [agg (wordsV st), agg (bytesV p)] [] (fun _ => True) (fun v out => v = agg (wordsV (addUp st R.l 8)) ∧ out = []) := by
  intro W hW
  refine calls_of (hp0 := []) Try.func96 rfl 127 Try.ntmps96 rfl (HRep.nil _) ?_
  refine Sat.seq ?_
  refine Sat.region ?_
  refine Tr.boxA rfl rfl ?_
  intro n2 hn2 hf2
  refine Tr.boxA rfl rfl ?_
  intro n3 hn3 hf3
  refine Tr.alloc (cs := (wordsV (List.replicate 8 0))) rfl Zr148 rfl ?_
  intro n4 hn4 hf4
  refine Tr.nil ?_
  refine at_n ?_
  refine Sat.seq ?_
  refine Sat.region ?_
  first
    | refine Tr.loadAll rfl rfl rfl Try.underlying156 rfl Sz156 mM (by first | assumption | (simp [hst, hp, hw, hk80, addUp_length, W8.l_length]; done) | (rw [bytesV, List.length_map]; assumption)) ?_
    | refine Tr.loadN _ rfl rfl rfl Try.underlying156 rfl Sz156 mM (by exact rfl) (by first | assumption | (simp [hst, hp, hw, hk80, addUp_length, W8.l_length]; done) | (rw [bytesV, List.length_map]; assumption)) ?_
  refine Tr.callV rfl rfl rfl rfl Body100 (sha_schedule p hp A w hA hwp) (fun _ _ => trivial) ?_
  refine Tr.callV rfl rfl rfl rfl Body101 (sha_Kk k hk) (fun _ _ => trivial) ?_
  refine Tr.alloc (cs := (wordsV (List.replicate 80 0))) rfl Zr161 rfl ?_
  intro n5 hn5 hf5
  refine Tr.alloc (cs := (wordsV (List.replicate 80 0))) rfl Zr161 rfl ?_
  intro n6 hn6 hf6
  first
    | refine Tr.storeAll rfl rfl rfl rfl cB Sz161 (by first | assumption | (simp [hst, hp, hw, hk80, addUp_length, W8.l_length]; done) | (rw [bytesV, List.length_map]; assumption)) mM (by first | assumption | (simp [hst, hp, hw, hk80, addUp_length, W8.l_length]; done) | (rw [bytesV, List.length_map]; assumption)) uU ?_
    | refine Tr.storeN _ rfl rfl rfl rfl rfl cB Sz161 (by first | assumption | (simp [hst, hp, hw, hk80, addUp_length, W8.l_length]; done) | (rw [bytesV, List.length_map]; assumption)) mM (by first | assumption | (simp [hst, hp, hw, hk80, addUp_length, W8.l_length]; done) | (rw [bytesV, List.length_map]; assumption)) (by exact rfl) uU ?_
  first
    | refine Tr.storeAll rfl rfl rfl rfl cB Sz161 (by first | assumption | (simp [hst, hp, hw, hk80, addUp_length, W8.l_length]; done) | (rw [bytesV, List.length_map]; assumption)) mM (by first | assumption | (simp [hst, hp, hw, hk80, addUp_length, W8.l_length]; done) | (rw [bytesV, List.length_map]; assumption)) uU ?_
    | refine Tr.storeN _ rfl rfl rfl rfl rfl cB Sz161 (by first | assumption | (simp [hst, hp, hw, hk80, addUp_length, W8.l_length]; done) | (rw [bytesV, List.length_map]; assumption)) mM (by first | assumption | (simp [hst, hp, hw, hk80, addUp_length, W8.l_length]; done) | (rw [bytesV, List.length_map]; assumption)) (by exact rfl) uU ?_
  refine Tr.nil ?_
  refine at_n ?_
  refine Sat.seq ?_
  refine Sat.draw [(0, 0), (1, 1), (0, 2), (1, 3), (0, 4), (1, 5), (0, 6), (1, 7), (0, 8), (0, 9), (0, 10), (0, 11)] Mixed (by kernel_rfl) ?_
  first
    | refine Tr.idxArr1 rfl rfl rfl rfl Try.underlying148 Sz24 0 rfl dE ?_
    | refine Tr.idxArrO rfl rfl rfl rfl Try.underlying148 Sz24 0 rfl dE ?_
  refine Tr.load1 rfl rfl rfl Try.underlying24 rfl mM (by first | rfl | exact get_words (by first | omega | (simp [hst, hp, hw, hk80, addUp_length, W8.l_length]; done) | (simp [hst, hp, hw, hk80, addUp_length, W8.l_length]; omega)) | exact get_bytes (by first | omega | (simp [hst, hp, hw, hk80, addUp_length, W8.l_length]; done) | (simp [hst, hp, hw, hk80, addUp_length, W8.l_length]; omega)) | exact get_ints (by first | omega | (simp [hst, hp, hw, hk80, addUp_length, W8.l_length]; done) | (simp [hst, hp, hw, hk80, addUp_length, W8.l_length]; omega))) ?_
  first
    | refine Tr.idxArr1 rfl rfl rfl rfl Try.underlying148 Sz24 1 rfl dE ?_
    | refine Tr.idxArrO rfl rfl rfl rfl Try.underlying148 Sz24 1 rfl dE ?_
  refine Tr.load1 rfl rfl rfl Try.underlying24 rfl mM (by first | rfl | exact get_words (by first | omega | (simp [hst, hp, hw, hk80, addUp_length, W8.l_length]; done) | (simp [hst, hp, hw, hk80, addUp_length, W8.l_length]; omega)) | exact get_bytes (by first | omega | (simp [hst, hp, hw, hk80, addUp_length, W8.l_length]; done) | (simp [hst, hp, hw, hk80, addUp_length, W8.l_length]; omega)) | exact get_ints (by first | omega | (simp [hst, hp, hw, hk80, addUp_length, W8.l_length]; done) | (simp [hst, hp, hw, hk80, addUp_length, W8.l_length]; omega))) ?_
  first
    | refine Tr.idxArr1 rfl rfl rfl rfl Try.underlying148 Sz24 2 rfl dE ?_
    | refine Tr.idxArrO rfl rfl rfl rfl Try.underlying148 Sz24 2 rfl dE ?_
  refine Tr.load1 rfl rfl rfl Try.underlying24 rfl mM (by first | rfl | exact get_words (by first | omega | (simp [hst, hp, hw, hk80, addUp_length, W8.l_length]; done) | (simp [hst, hp, hw, hk80, addUp_length, W8.l_length]; omega)) | exact get_bytes (by first | omega | (simp [hst, hp, hw, hk80, addUp_length, W8.l_length]; done) | (simp [hst, hp, hw, hk80, addUp_length, W8.l_length]; omega)) | exact get_ints (by first | omega | (simp [hst, hp, hw, hk80, addUp_length, W8.l_length]; done) | (simp [hst, hp, hw, hk80, addUp_length, W8.l_length]; omega))) ?_
  first
    | refine Tr.idxArr1 rfl rfl rfl rfl Try.underlying148 Sz24 3 rfl dE ?_
    | refine Tr.idxArrO rfl rfl rfl rfl Try.underlying148 Sz24 3 rfl dE ?_
  refine Tr.load1 rfl rfl rfl Try.underlying24 rfl mM (by first | rfl | exact get_words (by first | omega | (simp [hst, hp, hw, hk80, addUp_length, W8.l_length]; done) | (simp [hst, hp, hw, hk80, addUp_length, W8.l_length]; omega)) | exact get_bytes (by first | omega | (simp [hst, hp, hw, hk80, addUp_length, W8.l_length]; done) | (simp [hst, hp, hw, hk80, addUp_length, W8.l_length]; omega)) | exact get_ints (by first | omega | (simp [hst, hp, hw, hk80, addUp_length, W8.l_length]; done) | (simp [hst, hp, hw, hk80, addUp_length, W8.l_length]; omega))) ?_
  refine Tr.assign rfl rfl rfl ?_
  refine Tr.assign rfl rfl rfl ?_
  refine Tr.assign rfl rfl rfl ?_
  refine Tr.assign rfl rfl rfl ?_
  refine Tr.nil ?_
  refine at_n ?_
  refine Sat.seq ?_
  refine Sat.draw [(0, 0), (1, 1), (0, 2), (1, 3), (0, 4), (1, 5), (0, 6), (1, 7), (0, 8), (0, 9), (0, 10), (0, 11)] Mixed (by kernel_rfl) ?_
  first
    | refine Tr.idxArr1 rfl rfl rfl rfl Try.underlying148 Sz24 4 rfl dE ?_
    | refine Tr.idxArrO rfl rfl rfl rfl Try.underlying148 Sz24 4 rfl dE ?_
  refine Tr.load1 rfl rfl rfl Try.underlying24 rfl mM (by first | rfl | exact get_words (by first | omega | (simp [hst, hp, hw, hk80, addUp_length, W8.l_length]; done) | (simp [hst, hp, hw, hk80, addUp_length, W8.l_length]; omega)) | exact get_bytes (by first | omega | (simp [hst, hp, hw, hk80, addUp_length, W8.l_length]; done) | (simp [hst, hp, hw, hk80, addUp_length, W8.l_length]; omega)) | exact get_ints (by first | omega | (simp [hst, hp, hw, hk80, addUp_length, W8.l_length]; done) | (simp [hst, hp, hw, hk80, addUp_length, W8.l_length]; omega))) ?_
  first
    | refine Tr.idxArr1 rfl rfl rfl rfl Try.underlying148 Sz24 5 rfl dE ?_
    | refine Tr.idxArrO rfl rfl rfl rfl Try.underlying148 Sz24 5 rfl dE ?_
  refine Tr.load1 rfl rfl rfl Try.underlying24 rfl mM (by first | rfl | exact get_words (by first | omega | (simp [hst, hp, hw, hk80, addUp_length, W8.l_length]; done) | (simp [hst, hp, hw, hk80, addUp_length, W8.l_length]; omega)) | exact get_bytes (by first | omega | (simp [hst, hp, hw, hk80, addUp_length, W8.l_length]; done) | (simp [hst, hp, hw, hk80, addUp_length, W8.l_length]; omega)) | exact get_ints (by first | omega | (simp [hst, hp, hw, hk80, addUp_length, W8.l_length]; done) | (simp [hst, hp, hw, hk80, addUp_length, W8.l_length]; omega))) ?_
  first
    | refine Tr.idxArr1 rfl rfl rfl rfl Try.underlying148 Sz24 6 rfl dE ?_
    | refine Tr.idxArrO rfl rfl rfl rfl Try.underlying148 Sz24 6 rfl dE ?_
  refine Tr.load1 rfl rfl rfl Try.underlying24 rfl mM (by first | rfl | exact get_words (by first | omega | (simp [hst, hp, hw, hk80, addUp_length, W8.l_length]; done) | (simp [hst, hp, hw, hk80, addUp_length, W8.l_length]; omega)) | exact get_bytes (by first | omega | (simp [hst, hp, hw, hk80, addUp_length, W8.l_length]; done) | (simp [hst, hp, hw, hk80, addUp_length, W8.l_length]; omega)) | exact get_ints (by first | omega | (simp [hst, hp, hw, hk80, addUp_length, W8.l_length]; done) | (simp [hst, hp, hw, hk80, addUp_length, W8.l_length]; omega))) ?_
  first
    | refine Tr.idxArr1 rfl rfl rfl rfl Try.underlying148 Sz24 7 rfl dE ?_
    | refine Tr.idxArrO rfl rfl rfl rfl Try.underlying148 Sz24 7 rfl dE ?_
  refine Tr.load1 rfl rfl rfl Try.underlying24 rfl mM (by first | rfl | exact get_words (by first | omega | (simp [hst, hp, hw, hk80, addUp_length, W8.l_length]; done) | (simp [hst, hp, hw, hk80, addUp_length, W8.l_length]; omega)) | exact get_bytes (by first | omega | (simp [hst, hp, hw, hk80, addUp_length, W8.l_length]; done) | (simp [hst, hp, hw, hk80, addUp_length, W8.l_length]; omega)) | exact get_ints (by first | omega | (simp [hst, hp, hw, hk80, addUp_length, W8.l_length]; done) | (simp [hst, hp, hw, hk80, addUp_length, W8.l_length]; omega))) ?_
  refine Tr.assign rfl rfl rfl ?_
  refine Tr.assign rfl rfl rfl ?_
  refine Tr.assign rfl rfl rfl ?_
  refine Tr.assign rfl rfl rfl ?_
  refine Tr.nil ?_
  refine at_n ?_
  refine Sat.seq ?_
  refine Sat.seq ?_
  refine Sat.region ?_
  refine Tr.move rfl rfl rfl ?_
  refine Tr.nil ?_
  refine at_n ?_
  refine Sat.block ?_
  refine Sat.loop (ι := Nat) (fun t => ⟨[(2, ptr n2 0), (4, ptr n4 0), (5, ptr n5 0), (6, ptr n6 0), (7, u64 (rnds k w (W8.of st) t).a), (8, u64 (rnds k w (W8.of st) t).b), (9, u64 (rnds k w (W8.of st) t).c), (10, u64 (rnds k w (W8.of st) t).d), (11, u64 (rnds k w (W8.of st) t).e), (12, u64 (rnds k w (W8.of st) t).f), (13, u64 (rnds k w (W8.of st) t).g), (14, u64 (rnds k w (W8.of st) t).h), (41, i64 (t : Int))], [⟨n6, wordsV k, 161, 80⟩, ⟨n5, wordsV w, 161, 80⟩, ⟨n4, wordsV (List.replicate 8 0), 148, 8⟩, ⟨n2, wordsV st, 148, (wordsV st).length⟩]⟩) (fun t => t ≤ 80) (fun t => 80 - t) (0) ?_ ?_ ?_
  · omega
  · exact weak_of (wk1 rfl (wk1 rfl (wk1 rfl (wk1 rfl (wk1 rfl (wk1 rfl (wk1 rfl (wk1 rfl (wk1 rfl (wk1 rfl (wk1 rfl (wk1 rfl (wk1 rfl wk0))))))))))))) (wh1 mM (wh1 mM (wh1 mM (wh1 mM wh0)))) nD
  ·
    rintro t hi
    refine Sat.seq ?_
    refine Sat.region ?_
    refine Tr.lss rfl rfl rfl rfl rfl ?_
    refine Tr.nil ?_
    refine at_n ?_
    refine Sat.seq ?_
    first
      | refine Sat.condP rfl (fun hc0 => ?_) (fun hc0 => ?_)
      | refine Sat.condNP rfl (fun hc0 => ?_) (fun hc0 => ?_)
      | refine Sat.cond rfl (fun hc0 => ?_) (fun hc0 => ?_)
    ·
      refine Sat.skip ?_
      refine at_n ?_
      refine Sat.seq ?_
      refine Sat.block ?_
      refine Sat.seq ?_
      refine Sat.region ?_
      refine Tr.move rfl rfl rfl ?_
      refine Tr.assign rfl rfl rfl ?_
      refine Tr.nil ?_
      refine at_n ?_
      refine Sat.seq ?_
      refine Sat.region ?_
      refine Tr.move rfl rfl rfl ?_
      refine Tr.callV rfl rfl rfl rfl Body102 (bits_rol _ (-14) 50 dE dE dE) (fun _ _ => trivial) ?_
      refine Tr.move rfl rfl rfl ?_
      refine Tr.callV rfl rfl rfl rfl Body102 (bits_rol _ (-18) 46 dE dE dE) (fun _ _ => trivial) ?_
      refine Tr.xor_u64 rfl rfl rfl rfl ?_
      refine Tr.move rfl rfl rfl ?_
      refine Tr.callV rfl rfl rfl rfl Body102 (bits_rol _ (-41) 23 dE dE dE) (fun _ _ => trivial) ?_
      refine Tr.xor_u64 rfl rfl rfl rfl ?_
      refine Tr.assign rfl rfl rfl ?_
      refine Tr.nil ?_
      refine at_n ?_
      refine Sat.seq ?_
      refine Sat.draw [(0, 0), (0, 1), (0, 2), (0, 3), (0, 4), (0, 5), (0, 6), (0, 7), (0, 8), (0, 9), (0, 10), (0, 11), (0, 12), (0, 13), (1, 14), (0, 15), (0, 16), (0, 17), (1, 18), (0, 19), (0, 20)] Mixed (by kernel_rfl) ?_
      refine Tr.move rfl rfl rfl ?_
      refine Tr.move rfl rfl rfl ?_
      refine Tr.add_u64 rfl rfl rfl rfl ?_
      refine Tr.move rfl rfl rfl ?_
      refine Tr.move rfl rfl rfl ?_
      refine Tr.and_u64 rfl rfl rfl rfl ?_
      refine Tr.move rfl rfl rfl ?_
      refine Tr.not_u64 rfl rfl rfl ?_
      refine Tr.move rfl rfl rfl ?_
      refine Tr.and_u64 rfl rfl rfl rfl ?_
      refine Tr.xor_u64 rfl rfl rfl rfl ?_
      refine Tr.add_u64 rfl rfl rfl rfl ?_
      refine Tr.move rfl rfl rfl ?_
      first
        | refine Tr.idxArr1 rfl rfl rfl rfl Try.underlying161 Sz24 _ rfl oM ?_
        | refine Tr.idxArrO rfl rfl rfl rfl Try.underlying161 Sz24 _ rfl oM ?_
        | refine Tr.idxArr1 rfl rfl rfl rfl Try.underlying161 Sz24 _ (toNat_back oM) oM ?_
        | refine Tr.idxArrO rfl rfl rfl rfl Try.underlying161 Sz24 _ (toNat_back oM) oM ?_
      refine Tr.load1 rfl rfl rfl Try.underlying24 rfl mM (by first | rfl | exact get_words (by first | omega | (simp [hst, hp, hw, hk80, addUp_length, W8.l_length]; done) | (simp [hst, hp, hw, hk80, addUp_length, W8.l_length]; omega)) | exact get_bytes (by first | omega | (simp [hst, hp, hw, hk80, addUp_length, W8.l_length]; done) | (simp [hst, hp, hw, hk80, addUp_length, W8.l_length]; omega)) | exact get_ints (by first | omega | (simp [hst, hp, hw, hk80, addUp_length, W8.l_length]; done) | (simp [hst, hp, hw, hk80, addUp_length, W8.l_length]; omega))) ?_
      refine Tr.add_u64 rfl rfl rfl rfl ?_
      refine Tr.move rfl rfl rfl ?_
      first
        | refine Tr.idxArr1 rfl rfl rfl rfl Try.underlying161 Sz24 _ rfl oM ?_
        | refine Tr.idxArrO rfl rfl rfl rfl Try.underlying161 Sz24 _ rfl oM ?_
        | refine Tr.idxArr1 rfl rfl rfl rfl Try.underlying161 Sz24 _ (toNat_back oM) oM ?_
        | refine Tr.idxArrO rfl rfl rfl rfl Try.underlying161 Sz24 _ (toNat_back oM) oM ?_
      refine Tr.load1 rfl rfl rfl Try.underlying24 rfl mM (by first | rfl | exact get_words (by first | omega | (simp [hst, hp, hw, hk80, addUp_length, W8.l_length]; done) | (simp [hst, hp, hw, hk80, addUp_length, W8.l_length]; omega)) | exact get_bytes (by first | omega | (simp [hst, hp, hw, hk80, addUp_length, W8.l_length]; done) | (simp [hst, hp, hw, hk80, addUp_length, W8.l_length]; omega)) | exact get_ints (by first | omega | (simp [hst, hp, hw, hk80, addUp_length, W8.l_length]; done) | (simp [hst, hp, hw, hk80, addUp_length, W8.l_length]; omega))) ?_
      refine Tr.add_u64 rfl rfl rfl rfl ?_
      refine Tr.assign rfl rfl rfl ?_
      refine Tr.nil ?_
      refine at_n ?_
      refine Sat.seq ?_
      refine Sat.region ?_
      refine Tr.move rfl rfl rfl ?_
      refine Tr.callV rfl rfl rfl rfl Body102 (bits_rol _ (-28) 36 dE dE dE) (fun _ _ => trivial) ?_
      refine Tr.move rfl rfl rfl ?_
      refine Tr.callV rfl rfl rfl rfl Body102 (bits_rol _ (-34) 30 dE dE dE) (fun _ _ => trivial) ?_
      refine Tr.xor_u64 rfl rfl rfl rfl ?_
      refine Tr.move rfl rfl rfl ?_
      refine Tr.callV rfl rfl rfl rfl Body102 (bits_rol _ (-39) 25 dE dE dE) (fun _ _ => trivial) ?_
      refine Tr.xor_u64 rfl rfl rfl rfl ?_
      refine Tr.assign rfl rfl rfl ?_
      refine Tr.nil ?_
      refine at_n ?_
      refine Sat.seq ?_
      refine Sat.region ?_
      refine Tr.move rfl rfl rfl ?_
      refine Tr.move rfl rfl rfl ?_
      refine Tr.move rfl rfl rfl ?_
      refine Tr.and_u64 rfl rfl rfl rfl ?_
      refine Tr.move rfl rfl rfl ?_
      refine Tr.move rfl rfl rfl ?_
      refine Tr.and_u64 rfl rfl rfl rfl ?_
      refine Tr.xor_u64 rfl rfl rfl rfl ?_
      refine Tr.move rfl rfl rfl ?_
      refine Tr.move rfl rfl rfl ?_
      refine Tr.and_u64 rfl rfl rfl rfl ?_
      refine Tr.xor_u64 rfl rfl rfl rfl ?_
      refine Tr.add_u64 rfl rfl rfl rfl ?_
      refine Tr.assign rfl rfl rfl ?_
      refine Tr.nil ?_
      refine at_n ?_
      refine Sat.region ?_
      refine Tr.move rfl rfl rfl ?_
      refine Tr.move rfl rfl rfl ?_
      refine Tr.add_u64 rfl rfl rfl rfl ?_
      refine Tr.move rfl rfl rfl ?_
      refine Tr.move rfl rfl rfl ?_
      refine Tr.move rfl rfl rfl ?_
      refine Tr.move rfl rfl rfl ?_
      refine Tr.move rfl rfl rfl ?_
      refine Tr.add_u64 rfl rfl rfl rfl ?_
      refine Tr.move rfl rfl rfl ?_
      refine Tr.move rfl rfl rfl ?_
      refine Tr.move rfl rfl rfl ?_
      refine Tr.assign rfl rfl rfl ?_
      refine Tr.assign rfl rfl rfl ?_
      refine Tr.assign rfl rfl rfl ?_
      refine Tr.assign rfl rfl rfl ?_
      refine Tr.assign rfl rfl rfl ?_
      refine Tr.assign rfl rfl rfl ?_
      refine Tr.assign rfl rfl rfl ?_
      refine Tr.assign rfl rfl rfl ?_
      refine Tr.nil ?_
      refine bl_n ?_
      refine at_n ?_
      refine Sat.region ?_
      refine Tr.add_i64 rfl rfl rfl rfl oM ?_
      refine Tr.move rfl rfl rfl ?_
      refine Tr.nil ?_
      refine at_n ?_
      exact ⟨t + 1, by omega, by omega, weak_of (wk1 rfl (wk1 rfl (wk1 rfl (wk1 rfl (wk1 rfl (wk1 rfl (wk1 rfl (wk1 rfl (wk1 rfl (wk1 rfl (wk1 rfl (wk1 rfl (wk1 rfl wk0))))))))))))) (wh1 mM (wh1 mM (wh1 mM (wh1 mM wh0)))) nD⟩
    ·
      obtain rfl : t = 80 := by omega
      rw [hR.out]
      refine Sat.exit ?_
      refine at_x ?_
      refine at_x ?_
      refine bl_h ?_
      refine at_n ?_
      refine Sat.seq ?_
      refine Sat.seq ?_
      refine Sat.region ?_
      refine Tr.move rfl rfl rfl ?_
      refine Tr.move rfl rfl rfl ?_
      refine Tr.move rfl rfl rfl ?_
      refine Tr.move rfl rfl rfl ?_
      refine Tr.move rfl rfl rfl ?_
      refine Tr.move rfl rfl rfl ?_
      refine Tr.move rfl rfl rfl ?_
      refine Tr.move rfl rfl rfl ?_
      refine Tr.build (cs := wordsV R.l) rfl rfl rfl (fun w => by kernel_rfl) ?_
      refine Tr.move rfl rfl rfl ?_
      refine Tr.nil ?_
      refine at_n ?_
      refine Sat.block ?_
      refine Sat.loop (ι := Nat) (fun i => ⟨[(2, ptr n2 0), (4, ptr n4 0), (114, agg (wordsV R.l)), (115, i64 (i : Int))], [⟨n4, wordsV (List.replicate 8 0), 148, 8⟩, ⟨n2, wordsV (addUp st R.l i), 148, (wordsV st).length⟩]⟩) (fun i => i ≤ 8) (fun i => 8 - i) (0) ?_ ?_ ?_
      · omega
      · exact weak_of (wk1 rfl (wk1 rfl (wk1 rfl (wk1 rfl wk0)))) (wh1 mM (wh1 mM wh0)) nD
      ·
        rintro i hi
        have hli := addUp_length st R.l i
        have hRl := W8.l_length R
        refine Sat.seq ?_
        refine Sat.region ?_
        refine Tr.lss rfl rfl rfl rfl rfl ?_
        refine Tr.nil ?_
        refine at_n ?_
        refine Sat.seq ?_
        first
          | refine Sat.condP rfl (fun hc1 => ?_) (fun hc1 => ?_)
          | refine Sat.condNP rfl (fun hc1 => ?_) (fun hc1 => ?_)
          | refine Sat.cond rfl (fun hc1 => ?_) (fun hc1 => ?_)
        ·
          refine Sat.skip ?_
          refine at_n ?_
          refine Sat.seq ?_
          refine Sat.block ?_
          refine Sat.seq ?_
          refine Sat.region ?_
          refine Tr.move rfl rfl rfl ?_
          refine Tr.idxA1 rfl rfl rfl rfl Try.underlying148 Sz24 Try.underlying24 rfl _ rfl oM (by first | rfl | exact get_words (by first | omega | (simp [hst, hp, hw, hk80, addUp_length, W8.l_length]; done) | (simp [hst, hp, hw, hk80, addUp_length, W8.l_length]; omega)) | exact get_bytes (by first | omega | (simp [hst, hp, hw, hk80, addUp_length, W8.l_length]; done) | (simp [hst, hp, hw, hk80, addUp_length, W8.l_length]; omega)) | exact get_ints (by first | omega | (simp [hst, hp, hw, hk80, addUp_length, W8.l_length]; done) | (simp [hst, hp, hw, hk80, addUp_length, W8.l_length]; omega))) ?_
          refine Tr.assign rfl rfl rfl ?_
          refine Tr.assign rfl rfl rfl ?_
          refine Tr.nil ?_
          refine at_n ?_
          refine Sat.region ?_
          refine Tr.move rfl rfl rfl ?_
          first
            | refine Tr.idxArr1 rfl rfl rfl rfl Try.underlying148 Sz24 _ rfl oM ?_
            | refine Tr.idxArrO rfl rfl rfl rfl Try.underlying148 Sz24 _ rfl oM ?_
            | refine Tr.idxArr1 rfl rfl rfl rfl Try.underlying148 Sz24 _ (toNat_back oM) oM ?_
            | refine Tr.idxArrO rfl rfl rfl rfl Try.underlying148 Sz24 _ (toNat_back oM) oM ?_
          refine Tr.load1 rfl rfl rfl Try.underlying24 rfl mM (by first | rfl | exact get_words (by first | omega | (simp [hst, hp, hw, hk80, addUp_length, W8.l_length]; done) | (simp [hst, hp, hw, hk80, addUp_length, W8.l_length]; omega)) | exact get_bytes (by first | omega | (simp [hst, hp, hw, hk80, addUp_length, W8.l_length]; done) | (simp [hst, hp, hw, hk80, addUp_length, W8.l_length]; omega)) | exact get_ints (by first | omega | (simp [hst, hp, hw, hk80, addUp_length, W8.l_length]; done) | (simp [hst, hp, hw, hk80, addUp_length, W8.l_length]; omega))) ?_
          refine Tr.move rfl rfl rfl ?_
          refine Tr.add_u64 rfl rfl rfl rfl ?_
          first
            | refine Tr.idxArr1 rfl rfl rfl rfl Try.underlying148 Sz24 _ rfl oM ?_
            | refine Tr.idxArrO rfl rfl rfl rfl Try.underlying148 Sz24 _ rfl oM ?_
            | refine Tr.idxArr1 rfl rfl rfl rfl Try.underlying148 Sz24 _ (toNat_back oM) oM ?_
            | refine Tr.idxArrO rfl rfl rfl rfl Try.underlying148 Sz24 _ (toNat_back oM) oM ?_
          refine Tr.store1 rfl rfl rfl rfl rfl Sz24 mM (by first | (simp [hst, hp, hw, hk80, addUp_length, W8.l_length]; done) | (simp [hst, hp, hw, hk80, addUp_length, W8.l_length]; omega)) sT uU ?_
          refine Tr.nil ?_
          refine bl_n ?_
          refine at_n ?_
          refine Sat.region ?_
          refine Tr.add_i64 rfl rfl rfl rfl oM ?_
          refine Tr.move rfl rfl rfl ?_
          refine Tr.nil ?_
          refine at_n ?_
          exact ⟨i + 1, by omega, by omega, weak_of (wk1 rfl (wk1 rfl (wk1 rfl (wk1 rfl wk0)))) (wh1 mM (wh1 mM wh0)) nD⟩
        ·
          obtain rfl : i = 8 := by omega
          refine Sat.exit ?_
          refine at_x ?_
          refine at_x ?_
          refine bl_h ?_
          refine at_n ?_
          refine Sat.seq ?_
          refine Sat.region ?_
          first
            | refine Tr.loadAll rfl rfl rfl Try.underlying148 rfl Sz148 mM (by first | assumption | (simp [hst, hp, hw, hk80, addUp_length, W8.l_length]; done) | (rw [bytesV, List.length_map]; assumption)) ?_
            | refine Tr.loadN _ rfl rfl rfl Try.underlying148 rfl Sz148 mM (by exact rfl) (by first | assumption | (simp [hst, hp, hw, hk80, addUp_length, W8.l_length]; done) | (rw [bytesV, List.length_map]; assumption)) ?_
          first
            | refine Tr.storeAll rfl rfl rfl rfl cB Sz148 (by first | assumption | (simp [hst, hp, hw, hk80, addUp_length, W8.l_length]; done) | (rw [bytesV, List.length_map]; assumption)) mM (by first | assumption | (simp [hst, hp, hw, hk80, addUp_length, W8.l_length]; done) | (rw [bytesV, List.length_map]; assumption)) uU ?_
            | refine Tr.storeN _ rfl rfl rfl rfl rfl cB Sz148 (by first | assumption | (simp [hst, hp, hw, hk80, addUp_length, W8.l_length]; done) | (rw [bytesV, List.length_map]; assumption)) mM (by first | assumption | (simp [hst, hp, hw, hk80, addUp_length, W8.l_length]; done) | (rw [bytesV, List.length_map]; assumption)) (by exact rfl) uU ?_
          refine Tr.nil ?_
          refine at_n ?_
          refine Sat.ret ?_
          refine en_r ?_
          refine ⟨_, [], res_cell rfl rfl Try.underlying148 rfl Sz148 mM (by simp [hst, hp, hw, hk80, addUp_length, W8.l_length]), sP, sP, ?_, rfl⟩
          rfl

set_option maxRecDepth 100000 in
set_option maxHeartbeats 2000000 in
theorem sha_sum (st : List UInt64) (hst : st.length = 8) (s : List UInt8) (hs : Hid (sumUp st 64 = s)) : Meets Try.prog 91 [agg (wordsV st)] [] (fun _ => True) (fun v out => v = agg (bytesV s) ∧ out = []) := by
  intro W hW
  have hs64 : s.length = 64 := by rw [← hs.out]; exact sumUp_length st 64
  refine calls_of (hp0 := []) Try.func91 rfl 22 Try.ntmps91 rfl (HRep.nil _) ?_
  refine Sat.seq ?_
  refine Sat.region ?_
  refine Tr.boxA rfl rfl ?_
  intro n1 hn1 hf1
  refine Tr.alloc (cs := (bytesV (List.replicate 64 0))) rfl Zr28 rfl ?_
  intro n2 hn2 hf2
  refine Tr.nil ?_
  refine at_n ?_
  refine Sat.seq ?_
  refine Sat.region ?_
  refine Tr.alloc (cs := (bytesV (List.replicate 64 0))) rfl Zr28 rfl ?_
  intro n3 hn3 hf3
  refine Tr.nil ?_
  refine at_n ?_
  refine Sat.seq ?_
  refine Sat.seq ?_
  refine Sat.region ?_
  refine Tr.move rfl rfl rfl ?_
  refine Tr.nil ?_
  refine at_n ?_
  refine Sat.block ?_
  refine Sat.loop (ι := Nat) (fun k => ⟨[(1, ptr n1 0), (2, ptr n2 0), (3, ptr n3 0), (5, i64 (k : Int))], [⟨n3, bytesV (sumUp st k), 28, 64⟩, ⟨n2, bytesV (List.replicate 64 0), 28, 64⟩, ⟨n1, wordsV st, 148, (wordsV st).length⟩]⟩) (fun k => k ≤ 64) (fun k => 64 - k) (0) ?_ ?_ ?_
  · omega
  · exact weak_of (wk1 rfl (wk1 rfl (wk1 rfl (wk1 rfl wk0)))) (wh1 mM (wh1 mM (wh1 mM wh0))) nD
  ·
    rintro k hi
    have hlk := sumUp_length st k
    refine Sat.seq ?_
    refine Sat.region ?_
    refine Tr.lss rfl rfl rfl rfl rfl ?_
    refine Tr.nil ?_
    refine at_n ?_
    refine Sat.seq ?_
    first
      | refine Sat.condP rfl (fun hc0 => ?_) (fun hc0 => ?_)
      | refine Sat.condNP rfl (fun hc0 => ?_) (fun hc0 => ?_)
      | refine Sat.cond rfl (fun hc0 => ?_) (fun hc0 => ?_)
    ·
      refine Sat.skip ?_
      refine at_n ?_
      refine Sat.seq ?_
      refine Sat.block ?_
      refine Sat.seq ?_
      refine Sat.region ?_
      refine Tr.move rfl rfl rfl ?_
      refine Tr.assign rfl rfl rfl ?_
      refine Tr.nil ?_
      refine at_n ?_
      refine Sat.region ?_
      refine Tr.move rfl rfl rfl ?_
      refine Tr.move rfl rfl rfl ?_
      refine Tr.quo_i64 rfl rfl rfl rfl oM ?_
      first
        | refine Tr.idxArr1 rfl rfl rfl rfl Try.underlying148 Sz24 (k / 8) oM oM ?_
        | refine Tr.idxArrO rfl rfl rfl rfl Try.underlying148 Sz24 (k / 8) oM oM ?_
      refine Tr.load1 rfl rfl rfl Try.underlying24 rfl mM (by first | rfl | exact get_words (by first | omega | (simp [hst, sumUp_length, hs64]; done) | (simp [hst, sumUp_length, hs64]; omega)) | exact get_bytes (by first | omega | (simp [hst, sumUp_length, hs64]; done) | (simp [hst, sumUp_length, hs64]; omega)) | exact get_ints (by first | omega | (simp [hst, sumUp_length, hs64]; done) | (simp [hst, sumUp_length, hs64]; omega))) ?_
      refine Tr.move rfl rfl rfl ?_
      refine Tr.rem_i64 rfl rfl rfl rfl oM ?_
      refine Tr.mul_i64 rfl rfl rfl rfl oM ?_
      refine Tr.sub_i64 rfl rfl rfl rfl oM ?_
      refine Tr.shr_u64 rfl rfl rfl rfl (56 - 8 * (k % 8)) oM oM ?_
      refine Tr.conv rfl rfl rfl Try.underlying24 Try.underlying5 (cv_u64_u8 _) ?_
      first
        | refine Tr.idxArr1 rfl rfl rfl rfl Try.underlying28 Sz5 _ rfl oM ?_
        | refine Tr.idxArrO rfl rfl rfl rfl Try.underlying28 Sz5 _ rfl oM ?_
        | refine Tr.idxArr1 rfl rfl rfl rfl Try.underlying28 Sz5 _ (toNat_back oM) oM ?_
        | refine Tr.idxArrO rfl rfl rfl rfl Try.underlying28 Sz5 _ (toNat_back oM) oM ?_
      refine Tr.store1 rfl rfl rfl rfl rfl Sz5 mM (by first | (simp [hst, sumUp_length, hs64]; done) | (simp [hst, sumUp_length, hs64]; omega)) sT uU ?_
      refine Tr.nil ?_
      refine bl_n ?_
      refine at_n ?_
      refine Sat.region ?_
      refine Tr.add_i64 rfl rfl rfl rfl oM ?_
      refine Tr.move rfl rfl rfl ?_
      refine Tr.nil ?_
      refine at_n ?_
      exact ⟨k + 1, by omega, by omega, weak_of (wk1 rfl (wk1 rfl (wk1 rfl (wk1 rfl wk0)))) (wh1 mM (wh1 mM (wh1 mM wh0))) nD⟩
    ·
      obtain rfl : k = 64 := by omega
      rw [hs.out]
      clear hlk
      refine Sat.exit ?_
      refine at_x ?_
      refine at_x ?_
      refine bl_h ?_
      refine at_n ?_
      refine Sat.seq ?_
      refine Sat.region ?_
      first
        | refine Tr.loadAll rfl rfl rfl Try.underlying28 rfl Sz28 mM (by first | assumption | (simp [hst, sumUp_length, hs64]; done) | (rw [bytesV, List.length_map]; assumption)) ?_
        | refine Tr.loadN _ rfl rfl rfl Try.underlying28 rfl Sz28 mM (by exact rfl) (by first | assumption | (simp [hst, sumUp_length, hs64]; done) | (rw [bytesV, List.length_map]; assumption)) ?_
      first
        | refine Tr.storeAll rfl rfl rfl rfl cB Sz28 (by first | assumption | (simp [hst, sumUp_length, hs64]; done) | (rw [bytesV, List.length_map]; assumption)) mM (by first | assumption | (simp [hst, sumUp_length, hs64]; done) | (rw [bytesV, List.length_map]; assumption)) uU ?_
        | refine Tr.storeN _ rfl rfl rfl rfl rfl cB Sz28 (by first | assumption | (simp [hst, sumUp_length, hs64]; done) | (rw [bytesV, List.length_map]; assumption)) mM (by first | assumption | (simp [hst, sumUp_length, hs64]; done) | (rw [bytesV, List.length_map]; assumption)) (by exact rfl) uU ?_
      refine Tr.nil ?_
      refine at_n ?_
      refine Sat.ret ?_
      refine en_r ?_
      refine ⟨_, [], res_cell rfl rfl Try.underlying28 rfl Sz28 mM (by simp [hst, sumUp_length, hs64]), sP, sP, ?_, rfl⟩
      rfl

end Go.Proofs.Ytlgbmfokgnoocaa
end

section
namespace Go.Proofs.Ytlgbmfokgnoocaa
open Go Hw
set_option linter.unusedVariables false
set_option linter.unusedSimpArgs false

theorem and_low {x : UInt64} (h : x.toNat < 4294967296) : x &&& 4294967295 = x := by
  apply UInt64.toNat_inj.1
  rw [UInt64.toNat_and]
  show x.toNat &&& (2 ^ 32 - 1) = x.toNat
  rw [Nat.and_two_pow_sub_one_eq_mod, Nat.mod_eq_of_lt oM]
theorem shr_small {x : UInt64} {n : Nat} (h : x.toNat < 2 ^ n) : shr64 x n = 0 := by
  apply UInt64.toNat_inj.1
  rw [shr64_nat, Nat.div_eq_of_lt h]; rfl
theorem mul8_nat {x : UInt64} (h : x.toNat < 536870912) : (x * 8).toNat = x.toNat * 8 := by
  rw [UInt64.toNat_mul]; show x.toNat * 8 % 18446744073709551616 = _; omega

set_option maxRecDepth 100000 in
set_option maxHeartbeats 1000000 in
theorem bits_mul8 (x : UInt64) (hx : x.toNat < 536870912) : Meets Try.prog 99 [u64 x, u64 8] [] (fun _ => True) (fun v out => v = .tuple #[u64 0, u64 (x * 8)] ∧ out = []) := by
  intro W hW
  have h1 := and_low (x := x) oM
  have h2 := shr_small (x := x) (n := 32) oM
  have h3 := mul8_nat hx
  have h4 := shr_small (x := x * 8) (n := 32) oM
  refine calls_of (hp0 := []) Try.func99 rfl 51 Try.ntmps99 rfl (HRep.nil _) ?_
  refine Sat.seq ?_
  refine Sat.region ?_
  refine Tr.assign rfl rfl (show evIn _ _ = some (u64 0) from rfl) ?_
  refine Tr.assign rfl rfl (show evIn _ _ = some (u64 0) from rfl) ?_
  refine Tr.nil ?_
  refine at_n ?_
  refine Sat.seq ?_
  refine Sat.region ?_
  refine Tr.move rfl rfl rfl ?_
  refine Tr.and_u64 rfl rfl rfl (show evIn _ _ = some (u64 4294967295) from rfl) ?_
  refine Tr.assign rfl rfl rfl ?_
  refine Tr.nil ?_
  refine at_n ?_
  refine Sat.seq ?_
  refine Sat.region ?_
  refine Tr.move rfl rfl rfl ?_
  refine Tr.shr_u64 rfl rfl rfl rfl 32 oM oM ?_
  refine Tr.assign rfl rfl rfl ?_
  refine Tr.nil ?_
  refine at_n ?_
  refine Sat.seq ?_
  refine Sat.region ?_
  refine Tr.move rfl rfl rfl ?_
  refine Tr.and_u64 rfl rfl rfl (show evIn _ _ = some (u64 4294967295) from rfl) ?_
  refine Tr.assign rfl rfl rfl ?_
  refine Tr.nil ?_
  refine at_n ?_
  refine Sat.seq ?_
  refine Sat.region ?_
  refine Tr.move rfl rfl rfl ?_
  refine Tr.shr_u64 rfl rfl (show evIn _ _ = some (u64 8) from rfl) rfl 32 oM oM ?_
  refine Tr.assign rfl rfl rfl ?_
  refine Tr.nil ?_
  refine at_n ?_
  refine Sat.seq ?_
  refine Sat.region ?_
  refine Tr.move rfl rfl rfl ?_
  refine Tr.move rfl rfl rfl ?_
  refine Tr.mul_u64 rfl rfl rfl rfl ?_
  refine Tr.assign rfl rfl rfl ?_
  refine Tr.nil ?_
  refine at_n ?_
  refine Sat.seq ?_
  refine Sat.region ?_
  refine Tr.move rfl rfl rfl ?_
  refine Tr.move rfl rfl rfl ?_
  refine Tr.mul_u64 rfl rfl rfl rfl ?_
  refine Tr.move rfl rfl rfl ?_
  refine Tr.shr_u64 rfl rfl rfl rfl 32 rfl dE ?_
  refine Tr.add_u64 rfl rfl rfl rfl ?_
  refine Tr.assign rfl rfl rfl ?_
  refine Tr.nil ?_
  refine at_n ?_
  refine Sat.seq ?_
  refine Sat.region ?_
  refine Tr.move rfl rfl rfl ?_
  refine Tr.and_u64 rfl rfl rfl (show evIn _ _ = some (u64 4294967295) from rfl) ?_
  refine Tr.assign rfl rfl rfl ?_
  refine Tr.nil ?_
  refine at_n ?_
  refine Sat.seq ?_
  refine Sat.region ?_
  refine Tr.move rfl rfl rfl ?_
  refine Tr.shr_u64 rfl rfl rfl rfl 32 rfl dE ?_
  refine Tr.assign rfl rfl rfl ?_
  refine Tr.nil ?_
  refine at_n ?_
  refine Sat.seq ?_
  refine Sat.region ?_
  refine Tr.move rfl rfl rfl ?_
  refine Tr.move rfl rfl rfl ?_
  refine Tr.move rfl rfl rfl ?_
  refine Tr.mul_u64 rfl rfl rfl rfl ?_
  refine Tr.add_u64 rfl rfl rfl rfl ?_
  refine Tr.assign rfl rfl rfl ?_
  refine Tr.nil ?_
  refine at_n ?_
  refine Sat.seq ?_
  refine Sat.region ?_
  refine Tr.move rfl rfl rfl ?_
  refine Tr.move rfl rfl rfl ?_
  refine Tr.mul_u64 rfl rfl rfl rfl ?_
  refine Tr.move rfl rfl rfl ?_
  refine Tr.add_u64 rfl rfl rfl rfl ?_
  refine Tr.move rfl rfl rfl ?_
  refine Tr.shr_u64 rfl rfl rfl rfl 32 rfl dE ?_
  refine Tr.add_u64 rfl rfl rfl rfl ?_
  refine Tr.assign rfl rfl rfl ?_
  refine Tr.nil ?_
  refine at_n ?_
  refine Sat.seq ?_
  refine Sat.region ?_
  refine Tr.move rfl rfl rfl ?_
  refine Tr.move rfl rfl rfl ?_
  refine Tr.mul_u64 rfl rfl rfl rfl ?_
  refine Tr.assign rfl rfl rfl ?_
  refine Tr.nil ?_
  refine at_n ?_
  refine Sat.ret ?_
  refine en_r ?_
  refine ⟨_, [], res_tmp2 rfl rfl rfl, sP, sP, ?_, rfl⟩
  simp only [h1, h2, show shr64 8 32 = 0 from rfl, show (8 : UInt64) &&& 4294967295 = 8 from rfl]
  rw [h4, UInt64.mul_zero (a := x)]
  rfl

theorem bytesV_app (a b : List UInt8) : bytesV (a ++ b) = bytesV a ++ bytesV b := List.map_append
theorem sl_get {ss : List Sl} {j : Nat} (h : j < ss.length) : (ss.map Sl.v)[j]? = some (ss.getD j Sl.nil).v := by simp [List.getElem?_eq_getElem h, List.getD]
theorem take_flat {ls : List (List UInt8)} {j : Nat} (h : j < ls.length) : (ls.take (j + 1)).flatten = (ls.take j).flatten ++ ls.getD j [] := by
  rw [List.take_succ_eq_append_getElem h, List.flatten_append]
  simp [List.getD, h]
theorem take_flat_le (ls : List (List UInt8)) (j : Nat) : (ls.take j).flatten.length ≤ ls.flatten.length := by
  have : ls.flatten = (ls.take j).flatten ++ (ls.drop j).flatten := by rw [← List.flatten_append, List.take_append_drop]
  rw [this, List.length_append]; omega

set_option maxRecDepth 100000 in
set_option maxHeartbeats 4000000 in
theorem sha_padded (p : Option Addr) (n c : Nat) (ss : List Sl) (ls : List (List UInt8)) (hss : ss.length = n) (hls : ls.length = n) (hsl : ∀ j, j < n → (ss.getD j Sl.nil).n = (ls.getD j []).length ∧ ((ss.getD j Sl.nil).p = none → (ss.getD j Sl.nil).n = 0)) (F : List UInt8) (hF : ls.flatten = F) (htot : F.length ≤ 90000) (hn : n ≤ 1000000) : Meets Try.prog 95 [.slice p n c] [] (fun W => SeesP W p (ss.map Sl.v) ∧ ∀ j, j < n → SeesP W (ss.getD j Sl.nil).p (bytesV (ls.getD j []))) (fun v out => ∃ s, v = s.v ∧ Acc s out (bytesV (padB F)) 5 (padB F).length 1) := by
  intro W hW
  have hz := padZ_lt F.length
  have hle := take_flat_le ls
  rw [hF] at hle
  refine calls_of (hp0 := []) Try.func95 rfl 76 Try.ntmps95 rfl (HRep.nil _) ?_
  refine Sat.seq ?_
  refine Sat.region ?_
  refine Tr.assign rfl rfl rfl ?_
  refine Tr.nil ?_
  refine at_n ?_
  refine Sat.seq ?_
  refine Sat.region ?_
  refine Tr.assign rfl rfl rfl ?_
  refine Tr.nil ?_
  refine at_n ?_
  refine Sat.seq ?_
  refine Sat.seq ?_
  refine Sat.region ?_
  refine Tr.move rfl rfl rfl ?_
  refine Tr.lenSl rfl rfl rfl Try.underlying146 ?_
  refine Tr.move rfl rfl rfl ?_
  refine Tr.nil ?_
  refine at_n ?_
  refine Sat.block ?_
  refine Sat.loop (ι := Nat) (fun k => ⟨[(0, .slice p n c), (3, i64 ((ls.take k).flatten.length : Int)), (14, .slice p n c), (15, i64 (n : Int)), (16, i64 (k : Int))], []⟩) (fun k => k ≤ n) (fun k => n - k) (0) ?_ ?_ ?_
  · omega
  · exact weak_perm (wk1 rfl (wk1 rfl (wk1 rfl (wk1 rfl (wk1 rfl wk0))))) pm_nil
  ·
    rintro k hi
    refine Sat.seq ?_
    refine Sat.region ?_
    refine Tr.lss rfl rfl rfl rfl rfl ?_
    refine Tr.nil ?_
    refine at_n ?_
    refine Sat.seq ?_
    first
      | refine Sat.condP rfl (fun hc0 => ?_) (fun hc0 => ?_)
      | refine Sat.condNP rfl (fun hc0 => ?_) (fun hc0 => ?_)
      | refine Sat.cond rfl (fun hc0 => ?_) (fun hc0 => ?_)
    ·
      have hk3 : k < n := by omega
      obtain ⟨b, o, hbp, hbs⟩ := hW.1.at (by rw [List.length_map]; omega)
      have hv : W.cell? ⟨b, o + k * 1, none⟩ = some (ss.getD k Sl.nil).v := by rw [Nat.mul_one]; exact hbs k _ (sl_get oM)
      have hstep := hle (k + 1)
      rw [take_flat oM, List.length_append, ← (hsl k oM).1] at hstep
      refine Sat.skip ?_
      refine at_n ?_
      refine Sat.seq ?_
      refine Sat.block ?_
      refine Sat.seq ?_
      refine Sat.region ?_
      refine Tr.idxSlP 1 rfl rfl rfl hbp rfl Try.underlying146 Sz27 k rfl oM ?_
      refine Tr.loadE rfl rfl rfl Try.underlying27 rfl (by first | (simp; done) | (simp; exact hW.2.2) | (simp [Cx.with]; done) | (simp [Cx.with]; omega)) (hv) ?_
      refine Tr.assign rfl rfl rfl ?_
      refine Tr.nil ?_
      refine at_n ?_
      refine Sat.region ?_
      refine Tr.move rfl rfl rfl ?_
      refine Tr.move rfl rfl rfl ?_
      refine Tr.lenSl rfl rfl rfl Try.underlying27 ?_
      refine Tr.add_i64 rfl rfl rfl rfl oM ?_
      refine Tr.assign rfl rfl rfl ?_
      refine Tr.nil ?_
      refine bl_n ?_
      refine at_n ?_
      refine Sat.region ?_
      refine Tr.add_i64 rfl rfl rfl rfl oM ?_
      refine Tr.move rfl rfl rfl ?_
      refine Tr.nil ?_
      refine at_n ?_
      exact ⟨k + 1, by omega, by omega, weak_perm (wk1 rfl (wk1 (congrArg (fun z => some (i64 z)) (by rw [take_flat oM, List.length_append, (hsl k oM).1]; simp)) (wk1 rfl (wk1 rfl (wk1 rfl wk0))))) pm_nil⟩
    ·
      have hk3 : k = n := by omega
      rw [hk3, List.take_of_length_le oM, hF]
      refine Sat.exit ?_
      refine at_x ?_
      refine at_x ?_
      refine bl_h ?_
      refine at_n ?_
      refine Sat.seq ?_
      refine Sat.region ?_
      refine Tr.move rfl rfl rfl ?_
      refine Tr.add_i64 rfl rfl rfl rfl oM ?_
      refine Tr.quo_i64 rfl rfl rfl rfl oM ?_
      refine Tr.mul_i64 rfl rfl rfl rfl oM ?_
      refine Tr.add_i64 rfl rfl rfl rfl oM ?_
      refine Tr.mkRoom (z := u8 0) (by' := 1) ((F.length + 16) / 128 * 128 + 128) rfl rfl rfl rfl oM Try.underlying27 Sz5 Zr5 (by unfold By; kernel_rfl) rfl oM oM ?_
      intro q30
      refine Tr.assign rfl rfl rfl ?_
      refine Tr.nil ?_
      refine at_n ?_
      refine Sat.seq ?_
      refine Sat.seq ?_
      refine Sat.region ?_
      refine Tr.move rfl rfl rfl ?_
      refine Tr.lenSl rfl rfl rfl Try.underlying146 ?_
      refine Tr.move rfl rfl rfl ?_
      refine Tr.nil ?_
      refine at_n ?_
      refine Sat.block ?_
      refine Sat.loop (ι := Nat × Sl × List Blk) (fun x => ⟨[(3, i64 (F.length : Int)), (6, x.2.1.v), (31, .slice p n c), (32, i64 (n : Int)), (33, i64 (x.1 : Int))], (x.2.2 ++ [])⟩) (fun x => x.1 ≤ n ∧ Acc x.2.1 x.2.2 (bytesV (ls.take x.1).flatten) 5 (ls.take x.1).flatten.length 1) (fun x => n - x.1) ((0, ⟨some ⟨q30, 0, none⟩, 0, (F.length + 16) / 128 * 128 + 128⟩, [⟨q30, [], 5, ((F.length + 16) / 128 * 128 + 128) * 1⟩])) ?_ ?_ ?_
      · exact ⟨Nat.zero_le _, Acc.some (Nat.zero_le _) rfl⟩
      · exact weak_perm (wk1 rfl (wk1 rfl (wk1 rfl (wk1 rfl (wk1 rfl wk0))))) (pm_consE rM rfl (Nat.mul_one _).symm pm_nil)
      ·
        rintro x ⟨hx, hax⟩
        refine Sat.seq ?_
        refine Sat.region ?_
        refine Tr.lss rfl rfl rfl rfl rfl ?_
        refine Tr.nil ?_
        refine at_n ?_
        refine Sat.seq ?_
        first
          | refine Sat.condP rfl (fun hc1 => ?_) (fun hc1 => ?_)
          | refine Sat.condNP rfl (fun hc1 => ?_) (fun hc1 => ?_)
          | refine Sat.cond rfl (fun hc1 => ?_) (fun hc1 => ?_)
        ·
          have hx3 : x.1 < n := by omega
          obtain ⟨b, o, hbp, hbs⟩ := hW.1.at (by rw [List.length_map]; omega)
          have hv : W.cell? ⟨b, o + x.1 * 1, none⟩ = some (ss.getD x.1 Sl.nil).v := by rw [Nat.mul_one]; exact hbs x.1 _ (sl_get oM)
          have hstep := hle (x.1 + 1)
          rw [take_flat oM, List.length_append, ← (hsl x.1 oM).1] at hstep
          refine Sat.skip ?_
          refine at_n ?_
          refine Sat.seq ?_
          refine Sat.block ?_
          refine Sat.seq ?_
          refine Sat.region ?_
          refine Tr.idxSlP 1 rfl rfl rfl hbp rfl Try.underlying146 Sz27 x.1 rfl oM ?_
          refine Tr.loadE rfl rfl rfl Try.underlying27 rfl (by first | (simp; done) | (simp; exact hW.2.2) | (simp [Cx.with]; done) | (simp [Cx.with]; omega)) (hv) ?_
          refine Tr.assign rfl rfl rfl ?_
          refine Tr.nil ?_
          refine at_n ?_
          refine Sat.region ?_
          refine Tr.move rfl rfl rfl ?_
          refine Tr.move rfl rfl rfl ?_
          refine Tr.appendAcc (z := u8 0) (by' := 1) (bytesV (ls.getD x.1 [])) rfl rfl rfl rfl rfl Try.underlying27 Try.underlying27 Sz5 Zr5 (by unfold By; kernel_rfl) rfl hax sG (fun w h => seesP_ext h rfl (hW.2 x.1 oM)) (hsl x.1 oM).2 (bytesV_cell _) oM oM (by rw [bytesV, List.length_map, Nat.mul_one]; exact (hsl x.1 oM).1.symm) ?_
          intro s39 bl39 hac39
          refine Tr.assign rfl rfl rfl ?_
          refine Tr.nil ?_
          refine bl_n ?_
          refine at_n ?_
          refine Sat.region ?_
          refine Tr.add_i64 rfl rfl rfl rfl oM ?_
          refine Tr.move rfl rfl rfl ?_
          refine Tr.nil ?_
          refine at_n ?_
          refine ⟨(x.1 + 1, s39, bl39), ⟨by simp only []; omega, ?_⟩, by simp only []; omega, weak_perm (wk1 rfl (wk1 rfl (wk1 rfl (wk1 rfl (wk1 rfl wk0))))) (pm_seg sG pm_nil)⟩
          rw [take_flat oM, List.length_append, ← (hsl x.1 oM).1]
          simpa [bytesV] using hac39
        ·
          have hx3 : x.1 = n := by omega
          rw [hx3, List.take_of_length_le oM, hF] at hax
          refine Sat.exit ?_
          refine at_x ?_
          refine at_x ?_
          refine bl_h ?_
          refine at_n ?_
          refine Sat.seq ?_
          refine Sat.region ?_
          refine Tr.move rfl rfl rfl ?_
          refine Tr.mkRow (z := u8 0) [u8 (128)] (bytesV [128]) rfl rfl rfl Try.underlying27 Sz5 Zr5 rfl rfl (by intro v hv; rw [List.mem_singleton.1 hv]; rfl) dE rfl ?_
          intro q42
          refine Tr.appendAcc (z := u8 0) (by' := 1) (bytesV [128]) rfl rfl rfl rfl rfl Try.underlying27 Try.underlying27 Sz5 Zr5 (by unfold By; kernel_rfl) rfl hax sG (fun w h => SeesP.of (sees_own h mM)) (fun e => by cases e) (bytesV_cell _) oM oM (by rfl) ?_
          intro s43 bl43 hac43
          refine Tr.assign rfl rfl rfl ?_
          refine Tr.nil ?_
          refine at_n ?_
          refine Sat.seq ?_
          refine Sat.block ?_
          refine Sat.loop (ι := Nat × Sl × List Blk) (fun z => ⟨[(3, i64 (F.length : Int)), (6, z.2.1.v)], (z.2.2 ++ [])⟩) (fun z => z.1 ≤ padZ F.length ∧ Acc z.2.1 z.2.2 (bytesV (F ++ [128] ++ List.replicate z.1 0)) 5 (F.length + 1 + z.1) 1) (fun z => padZ F.length - z.1) ((0, s43, bl43)) ?_ ?_ ?_
          · exact ⟨Nat.zero_le _, by simpa [bytesV] using hac43⟩
          · exact weak_perm (wk1 rfl (wk1 rfl wk0)) (pm_seg sG pm_nil)
          ·
            rintro z ⟨hz1, haz⟩
            have hzn := haz.num
            have hpz := padZ_at F.length z.1 hz1
            refine Sat.seq ?_
            refine Sat.seq ?_
            refine Sat.region ?_
            refine Tr.move rfl rfl rfl ?_
            refine Tr.lenSl rfl rfl rfl Try.underlying27 ?_
            refine Tr.rem_i64 rfl rfl rfl rfl oM ?_
            refine Tr.nei rfl rfl rfl rfl rfl ?_
            refine Tr.nil ?_
            refine at_n ?_
            first
              | refine Sat.condP rfl (fun hc2 => ?_) (fun hc2 => ?_)
              | refine Sat.condNP rfl (fun hc2 => ?_) (fun hc2 => ?_)
              | refine Sat.cond rfl (fun hc2 => ?_) (fun hc2 => ?_)
            ·
              have hz3 : z.1 < padZ F.length := by omega
              refine Sat.skip ?_
              refine at_n ?_
              refine Sat.block ?_
              refine Sat.region ?_
              refine Tr.move rfl rfl rfl ?_
              refine Tr.mkRow (z := u8 0) [u8 (0)] (bytesV [0]) rfl rfl rfl Try.underlying27 Sz5 Zr5 rfl rfl (by intro v hv; rw [List.mem_singleton.1 hv]; rfl) dE rfl ?_
              intro q49
              refine Tr.appendAcc (z := u8 0) (by' := 1) (bytesV [0]) rfl rfl rfl rfl rfl Try.underlying27 Try.underlying27 Sz5 Zr5 (by unfold By; kernel_rfl) rfl haz sG (fun w h => SeesP.of (sees_own h mM)) (fun e => by cases e) (bytesV_cell _) oM oM (by rfl) ?_
              intro s50 bl50 hac50
              refine Tr.assign rfl rfl rfl ?_
              refine Tr.nil ?_
              refine bl_n ?_
              refine at_n ?_
              refine ⟨(z.1 + 1, s50, bl50), ⟨by simp only []; omega, ?_⟩, by simp only []; omega, weak_perm (wk1 rfl (wk1 rfl wk0)) (pm_seg sG pm_nil)⟩
              rw [List.replicate_succ', ← List.append_assoc]
              simpa [bytesV, Nat.add_assoc] using hac50
            ·
              have hz3 : z.1 = padZ F.length := by omega
              rw [hz3] at haz
              refine Sat.exit ?_
              refine at_x ?_
              refine at_x ?_
              refine bl_h ?_
              refine at_n ?_
              refine Sat.seq ?_
              refine Sat.region ?_
              refine Tr.move rfl rfl rfl ?_
              refine Tr.conv rfl rfl rfl Try.underlying3 Try.underlying24 (cv_i64_u64 _) ?_
              rw [word_nat (n := F.length) oM]
              refine Tr.callV rfl rfl rfl rfl Body99 (bits_mul8 (UInt64.ofNat F.length) (by rw [ofNat_nat oM]; omega)) (fun _ _ => trivial) ?_
              refine Tr.move rfl rfl rfl ?_
              refine Tr.extract rfl rfl rfl rfl ?_
              refine Tr.extract rfl rfl rfl rfl ?_
              refine Tr.assign rfl rfl rfl ?_
              refine Tr.assign rfl rfl rfl ?_
              refine Tr.nil ?_
              refine at_n ?_
              refine Sat.seq ?_
              refine Sat.seq ?_
              refine Sat.region ?_
              refine Tr.move rfl rfl rfl ?_
              refine Tr.move rfl rfl rfl ?_
              refine Tr.build (cs := [u64 0, u64 (UInt64.ofNat F.length * 8)]) rfl rfl rfl (fun w => by kernel_rfl) ?_
              refine Tr.move rfl rfl rfl ?_
              refine Tr.nil ?_
              refine at_n ?_
              refine Sat.block ?_
              refine Sat.rounds 3 (SRounds.more ?_)
              refine Sat.seq ?_
              refine Sat.region ?_
              refine Tr.lss rfl rfl rfl rfl rfl ?_
              refine Tr.nil ?_
              refine at_n ?_
              refine Sat.seq ?_
              refine Sat.cond_t rfl (rfl) ?_
              refine Sat.skip ?_
              refine at_n ?_
              refine Sat.seq ?_
              refine Sat.block ?_
              refine Sat.seq ?_
              refine Sat.region ?_
              refine Tr.idxA1 rfl rfl rfl rfl Try.underlying160 Sz24 Try.underlying24 rfl 0 rfl oM rfl ?_
              refine Tr.assign rfl rfl rfl ?_
              refine Tr.nil ?_
              refine at_n ?_
              refine Sat.seq ?_
              refine Sat.region ?_
              refine Tr.assign rfl rfl rfl ?_
              refine Tr.nil ?_
              refine at_n ?_
              refine Sat.block ?_
              refine Sat.loop (ι := Nat × Sl × List Blk) (fun y => ⟨[(3, i64 (F.length : Int)), (6, y.2.1.v), (12, u64 (0)), (13, i64 (56 - 8 * (y.1 : Int))), (59, agg [u64 0, u64 (UInt64.ofNat F.length * 8)]), (60, i64 0)], (y.2.2 ++ [])⟩) (fun y => y.1 ≤ 8 ∧ Acc y.2.1 y.2.2 (bytesV (F ++ [128] ++ List.replicate (padZ F.length) 0 ++ beUp (0) y.1)) 5 ((F.length + 1 + padZ F.length) + y.1) 1) (fun y => 8 - y.1) ((0, z.2.1, z.2.2)) ?_ ?_ ?_
              · exact ⟨Nat.zero_le _, by simpa [beUp] using haz⟩
              · exact weak_perm (wk1 rfl (wk1 rfl (wk1 rfl (wk1 rfl (wk1 rfl (wk1 rfl wk0)))))) (pm_seg sG pm_nil)
              ·
                rintro y ⟨hy, hay⟩
                refine Sat.seq ?_
                refine Sat.seq ?_
                refine Sat.region ?_
                refine Tr.move rfl rfl rfl ?_
                refine Tr.geq rfl rfl rfl rfl rfl ?_
                refine Tr.nil ?_
                refine at_n ?_
                first
                  | refine Sat.condP rfl (fun hc4 => ?_) (fun hc4 => ?_)
                  | refine Sat.condNP rfl (fun hc4 => ?_) (fun hc4 => ?_)
                  | refine Sat.cond rfl (fun hc4 => ?_) (fun hc4 => ?_)
                ·
                  have hy3 : y.1 ≤ 7 := by omega
                  refine Sat.skip ?_
                  refine at_n ?_
                  refine Sat.seq ?_
                  refine Sat.block ?_
                  refine Sat.region ?_
                  refine Tr.move rfl rfl rfl ?_
                  refine Tr.move rfl rfl rfl ?_
                  refine Tr.move rfl rfl rfl ?_
                  refine Tr.shr_u64 rfl rfl rfl rfl (56 - 8 * y.1) oM oM ?_
                  refine Tr.conv rfl rfl rfl Try.underlying24 Try.underlying5 (cv_u64_u8 _) ?_
                  refine Tr.mkRow (z := u8 0) [u8 ((shr64 0 (56 - 8 * y.1)).toUInt8)] (bytesV [(shr64 0 (56 - 8 * y.1)).toUInt8]) rfl rfl rfl Try.underlying27 Sz5 Zr5 rfl rfl (by intro v hv; rw [List.mem_singleton.1 hv]; rfl) dE rfl ?_
                  intro q72
                  refine Tr.appendAcc (z := u8 0) (by' := 1) (bytesV [(shr64 0 (56 - 8 * y.1)).toUInt8]) rfl rfl rfl rfl rfl Try.underlying27 Try.underlying27 Sz5 Zr5 (by unfold By; kernel_rfl) rfl hay sG (fun w h => SeesP.of (sees_own h mM)) (fun e => by cases e) (bytesV_cell _) oM oM (by rfl) ?_
                  intro s73 bl73 hac73
                  refine Tr.assign rfl rfl rfl ?_
                  refine Tr.nil ?_
                  refine bl_n ?_
                  refine at_n ?_
                  refine Sat.region ?_
                  refine Tr.move rfl rfl rfl ?_
                  refine Tr.sub_i64 rfl rfl rfl rfl oM ?_
                  refine Tr.assign rfl rfl rfl ?_
                  refine Tr.nil ?_
                  refine at_n ?_
                  refine ⟨(y.1 + 1, s73, bl73), ⟨by simp only []; omega, ?_⟩, by simp only []; omega, weak_perm (wk1 rfl (wk1 rfl (wk1 rfl (wk1 (congrArg (fun z => some (i64 z)) oM) (wk1 rfl (wk1 rfl wk0)))))) (pm_seg sG pm_nil)⟩
                  rw [show beUp (0) (y.1 + 1) = beUp (0) y.1 ++ [(shr64 (0) (56 - 8 * y.1)).toUInt8] from rfl, ← List.append_assoc, bytesV_app]
                  exact hac73
                ·
                  have hy3 : y.1 = 8 := by omega
                  rw [hy3] at hay
                  refine Sat.exit ?_
                  refine at_x ?_
                  refine at_x ?_
                  refine bl_h ?_
                  refine bl_n ?_
                  refine at_n ?_
                  refine Sat.region ?_
                  refine Tr.add_i64 rfl rfl rfl rfl oM ?_
                  refine Tr.move rfl rfl rfl ?_
                  refine Tr.nil ?_
                  refine at_n (SRounds.more ?_)
                  refine Sat.seq ?_
                  refine Sat.region ?_
                  refine Tr.lss rfl rfl rfl rfl rfl ?_
                  refine Tr.nil ?_
                  refine at_n ?_
                  refine Sat.seq ?_
                  refine Sat.cond_t rfl (rfl) ?_
                  refine Sat.skip ?_
                  refine at_n ?_
                  refine Sat.seq ?_
                  refine Sat.block ?_
                  refine Sat.seq ?_
                  refine Sat.region ?_
                  refine Tr.idxA1 rfl rfl rfl rfl Try.underlying160 Sz24 Try.underlying24 rfl 1 rfl oM rfl ?_
                  refine Tr.assign rfl rfl rfl ?_
                  refine Tr.nil ?_
                  refine at_n ?_
                  refine Sat.seq ?_
                  refine Sat.region ?_
                  refine Tr.assign rfl rfl rfl ?_
                  refine Tr.nil ?_
                  refine at_n ?_
                  refine Sat.block ?_
                  refine Sat.loop (ι := Nat × Sl × List Blk) (fun y => ⟨[(3, i64 (F.length : Int)), (6, y.2.1.v), (12, u64 (UInt64.ofNat F.length * 8)), (13, i64 (56 - 8 * (y.1 : Int))), (59, agg [u64 0, u64 (UInt64.ofNat F.length * 8)]), (60, i64 (0 + 1))], (y.2.2 ++ [])⟩) (fun y => y.1 ≤ 8 ∧ Acc y.2.1 y.2.2 (bytesV (F ++ [128] ++ List.replicate (padZ F.length) 0 ++ beUp 0 8 ++ beUp (UInt64.ofNat F.length * 8) y.1)) 5 ((F.length + 1 + padZ F.length + 8) + y.1) 1) (fun y => 8 - y.1) ((0, y.2.1, y.2.2)) ?_ ?_ ?_
                  · exact ⟨Nat.zero_le _, by simpa [beUp] using hay⟩
                  · exact weak_perm (wk1 rfl (wk1 rfl (wk1 rfl (wk1 rfl (wk1 rfl (wk1 rfl wk0)))))) (pm_seg sG pm_nil)
                  ·
                    rintro y ⟨hy, hay⟩
                    refine Sat.seq ?_
                    refine Sat.seq ?_
                    refine Sat.region ?_
                    refine Tr.move rfl rfl rfl ?_
                    refine Tr.geq rfl rfl rfl rfl rfl ?_
                    refine Tr.nil ?_
                    refine at_n ?_
                    first
                      | refine Sat.condP rfl (fun hc4 => ?_) (fun hc4 => ?_)
                      | refine Sat.condNP rfl (fun hc4 => ?_) (fun hc4 => ?_)
                      | refine Sat.cond rfl (fun hc4 => ?_) (fun hc4 => ?_)
                    ·
                      have hy3 : y.1 ≤ 7 := by omega
                      refine Sat.skip ?_
                      refine at_n ?_
                      refine Sat.seq ?_
                      refine Sat.block ?_
                      refine Sat.region ?_
                      refine Tr.move rfl rfl rfl ?_
                      refine Tr.move rfl rfl rfl ?_
                      refine Tr.move rfl rfl rfl ?_
                      refine Tr.shr_u64 rfl rfl rfl rfl (56 - 8 * y.1) oM oM ?_
                      refine Tr.conv rfl rfl rfl Try.underlying24 Try.underlying5 (cv_u64_u8 _) ?_
                      refine Tr.mkRow (z := u8 0) [u8 ((shr64 (UInt64.ofNat F.length * 8) (56 - 8 * y.1)).toUInt8)] (bytesV [(shr64 (UInt64.ofNat F.length * 8) (56 - 8 * y.1)).toUInt8]) rfl rfl rfl Try.underlying27 Sz5 Zr5 rfl rfl (by intro v hv; rw [List.mem_singleton.1 hv]; rfl) dE rfl ?_
                      intro q72
                      refine Tr.appendAcc (z := u8 0) (by' := 1) (bytesV [(shr64 (UInt64.ofNat F.length * 8) (56 - 8 * y.1)).toUInt8]) rfl rfl rfl rfl rfl Try.underlying27 Try.underlying27 Sz5 Zr5 (by unfold By; kernel_rfl) rfl hay sG (fun w h => SeesP.of (sees_own h mM)) (fun e => by cases e) (bytesV_cell _) oM oM (by rfl) ?_
                      intro s73 bl73 hac73
                      refine Tr.assign rfl rfl rfl ?_
                      refine Tr.nil ?_
                      refine bl_n ?_
                      refine at_n ?_
                      refine Sat.region ?_
                      refine Tr.move rfl rfl rfl ?_
                      refine Tr.sub_i64 rfl rfl rfl rfl oM ?_
                      refine Tr.assign rfl rfl rfl ?_
                      refine Tr.nil ?_
                      refine at_n ?_
                      refine ⟨(y.1 + 1, s73, bl73), ⟨by simp only []; omega, ?_⟩, by simp only []; omega, weak_perm (wk1 rfl (wk1 rfl (wk1 rfl (wk1 (congrArg (fun z => some (i64 z)) oM) (wk1 rfl (wk1 rfl wk0)))))) (pm_seg sG pm_nil)⟩
                      rw [show beUp (UInt64.ofNat F.length * 8) (y.1 + 1) = beUp (UInt64.ofNat F.length * 8) y.1 ++ [(shr64 (UInt64.ofNat F.length * 8) (56 - 8 * y.1)).toUInt8] from rfl, ← List.append_assoc, bytesV_app]
                      exact hac73
                    ·
                      have hy3 : y.1 = 8 := by omega
                      rw [hy3] at hay
                      refine Sat.exit ?_
                      refine at_x ?_
                      refine at_x ?_
                      refine bl_h ?_
                      refine bl_n ?_
                      refine at_n ?_
                      refine Sat.region ?_
                      refine Tr.add_i64 rfl rfl rfl rfl oM ?_
                      refine Tr.move rfl rfl rfl ?_
                      refine Tr.nil ?_
                      refine at_n (SRounds.more ?_)
                      refine Sat.seq ?_
                      refine Sat.region ?_
                      refine Tr.lss rfl rfl rfl rfl rfl ?_
                      refine Tr.nil ?_
                      refine at_n ?_
                      refine Sat.seq ?_
                      refine Sat.cond_f rfl (rfl) ?_
                      refine Sat.exit ?_
                      refine at_x ?_
                      refine at_x ?_
                      refine bl_h ?_
                      refine at_n ?_
                      refine Sat.seq ?_
                      refine Sat.region ?_
                      refine Tr.move rfl rfl rfl ?_
                      refine Tr.assign rfl rfl rfl ?_
                      refine Tr.nil ?_
                      refine at_n ?_
                      refine Sat.ret ?_
                      refine en_r ?_
                      refine end_perm (out := (y.2.2 ++ [])) (res_tmp rfl rfl) (pm_seg sG pm_nil) ?_
                      refine ⟨y.2.1, rfl, ?_⟩
                      have e8 : UInt64.ofNat F.length * 8 = UInt64.ofNat (8 * F.length) := by
                        apply UInt64.toNat_inj.1
                        rw [mul8_nat (by rw [ofNat_nat oM]; omega), ofNat_nat oM, ofNat_nat oM]; omega
                      rw [e8] at hay
                      rw [padB_length, padB]
                      simpa [Nat.add_assoc, Nat.add_comm, Nat.add_left_comm] using hay

end Go.Proofs.Ytlgbmfokgnoocaa
end

section
namespace Go.Proofs.Ytlgbmfokgnoocaa
open Go Hw
set_option linter.unusedVariables false
set_option linter.unusedSimpArgs false

set_option maxRecDepth 100000 in
set_option maxHeartbeats 1000000 in
theorem mk_chunk (p : Option Addr) (n c : Nat) : Meets Try.prog 94 [.slice p n c, i64 128] [] (fun _ => True) (fun v out => ∃ b1 b2, v = .func (.func 98) #[] #[ptr b1 0, ptr b2 0] ∧ out = [⟨b1, [.slice p n c], 27, 1⟩, ⟨b2, [i64 128], 3, 1⟩]) := by
  intro W hW
  refine calls_of (hp0 := []) Try.func94 rfl 9 Try.ntmps94 rfl (HRep.nil _) ?_
  refine Sat.seq ?_
  refine Sat.region ?_
  refine Tr.box1 rfl rfl rfl ?_
  intro n2 hn2 hf2
  refine Tr.box1 rfl rfl rfl ?_
  intro n3 hn3 hf3
  refine Tr.assign rfl rfl rfl ?_
  refine Tr.nil ?_
  refine at_n ?_
  refine Sat.seq ?_
  refine Sat.seq ?_
  refine Sat.region ?_
  refine Tr.load1 rfl rfl rfl Try.underlying3 rfl mM vL ?_
  refine Tr.lss rfl rfl rfl rfl rfl ?_
  refine Tr.nil ?_
  refine at_n ?_
  refine Sat.cond_f rfl dE ?_
  refine Sat.skip ?_
  refine at_n ?_
  refine Sat.seq ?_
  refine Sat.region ?_
  refine Tr.makeFunc rfl rfl rfl rfl ?_
  refine Tr.assign rfl rfl rfl ?_
  refine Tr.nil ?_
  refine at_n ?_
  refine Sat.ret ?_
  refine en_r ?_
  refine end_perm (out := (⟨n2, [.slice p n c], 27, 1⟩ :: (⟨n3, [i64 128], 3, 1⟩ :: []))) (res_tmp rfl rfl) (pm_cons rM (pm_cons rM pm_nil)) ?_
  exact ⟨n2, n3, rfl, by simp⟩

/-- a chunk of 128 bytes -/
def encC (q i : Nat) : Value := .slice (some ⟨q, 128 * i, none⟩) 128 128
theorem encC_eq (q i : Nat) : (.slice (some ⟨q, if 128 * i + 128 = 128 * i then 0 else 0 + 128 * i * 1, none⟩) (128 * i + 128 - 128 * i) (128 * i + 128 - 128 * i) : Value) = encC q i := by
  have e1 : 128 * i + 128 - 128 * i = 128 := by omega
  have e2 : 0 + 128 * i * 1 = 128 * i := by omega
  rw [if_neg oM, e1, e2]; rfl

set_option maxRecDepth 100000 in
set_option maxHeartbeats 2000000 in
theorem chunk_iter (l b1 b2 q n c K : Nat) (X : Nat → List Blk) (names : List Nat) (hnk : n = 128 * K) (hnc : n ≤ c) (hbig : n ≤ 1000000) : Meets Try.prog 98 [.func (.yield l) #[] #[], ptr b1 0, ptr b2 0] names (fun W => HRep ⟨Try.prog, W, 0, names, [], []⟩ (⟨b1, [.slice (some ⟨q, 0, none⟩) n c], 27, 1⟩ :: ⟨b2, [i64 128], 3, 1⟩ :: X 0) W ∧ ∀ i, i < K → ∀ W2, HRep ⟨Try.prog, W, 0, names, [], []⟩ (⟨b1, [.slice (some ⟨q, 0, none⟩) n c], 27, 1⟩ :: ⟨b2, [i64 128], 3, 1⟩ :: X i) W2 → YieldAt Fence.wide 0 Try.prog l #[encC q i] W2 fun e W3 => e = .returned (.bool true) ∧ HRep ⟨Try.prog, W, 0, names, [], []⟩ (⟨b1, [.slice (some ⟨q, 0, none⟩) n c], 27, 1⟩ :: ⟨b2, [i64 128], 3, 1⟩ :: X (i + 1)) W3) (fun v out => v = .tuple #[] ∧ out = ⟨b1, [.slice (some ⟨q, 0, none⟩) n c], 27, 1⟩ :: ⟨b2, [i64 128], 3, 1⟩ :: X K) := by
  intro W hW
  refine calls_of (hp0 := ⟨b1, [.slice (some ⟨q, 0, none⟩) n c], 27, 1⟩ :: ⟨b2, [i64 128], 3, 1⟩ :: X 0) Try.func98 rfl 31 Try.ntmps98 rfl (HRep.reN hW.1) ?_
  refine Sat.seq ?_
  refine Sat.region ?_
  refine Tr.assign rfl rfl rfl ?_
  refine Tr.nil ?_
  refine at_n ?_
  refine Sat.block ?_
  refine Sat.loop (ι := Nat) (fun i => ⟨[(0, .func (.yield l) #[] #[]), (1, ptr b1 0), (2, ptr b2 0), (4, i64 (128 * (i : Int)))], (⟨b1, [.slice (some ⟨q, 0, none⟩) n c], 27, 1⟩ :: (⟨b2, [i64 128], 3, 1⟩ :: (X i ++ [])))⟩) (fun i => i ≤ K) (fun i => K - i) (0) ?_ ?_ ?_
  · exact Nat.zero_le _
  · exact weak_perm (wk1 rfl (wk1 rfl (wk1 rfl (wk1 rfl wk0)))) (pm_cons rM (pm_cons rM (pm_seg sG pm_nil)))
  ·
    rintro i hi
    refine Sat.seq ?_
    refine Sat.seq ?_
    refine Sat.region ?_
    refine Tr.move rfl rfl rfl ?_
    refine Tr.load1 rfl rfl rfl Try.underlying27 rfl mM vL ?_
    refine Tr.lenSl rfl rfl rfl Try.underlying27 ?_
    refine Tr.lss rfl rfl rfl rfl rfl ?_
    refine Tr.nil ?_
    refine at_n ?_
    first
      | refine Sat.condP rfl (fun hc0 => ?_) (fun hc0 => ?_)
      | refine Sat.condNP rfl (fun hc0 => ?_) (fun hc0 => ?_)
      | refine Sat.cond rfl (fun hc0 => ?_) (fun hc0 => ?_)
    ·
      have hi3 : i < K := by omega
      refine Sat.skip ?_
      refine at_n ?_
      refine Sat.seq ?_
      refine Sat.block ?_
      refine Sat.seq ?_
      refine Sat.draw [(1, 0), (1, 1), (0, 2), (0, 3), (0, 4), (0, 5), (0, 6)] Mixed (by kernel_rfl) ?_
      refine Tr.load1 rfl rfl rfl Try.underlying3 rfl mM vL ?_
      refine Tr.load1 rfl rfl rfl Try.underlying27 rfl mM vL ?_
      refine Tr.move rfl rfl rfl ?_
      refine Tr.sliceLoN (128*i) rfl rfl rfl rfl oM oM oM Try.underlying27 Sz5 ?_
      refine Tr.lenSl rfl rfl rfl Try.underlying27 ?_
      refine Tr.min2 rfl rfl rfl rfl (show Value.int .i64 (if ((n - 128 * i : Nat) : Int) < (128 : Int) then ((n - 128 * i : Nat) : Int) else (128 : Int)) = i64 128 from by rw [if_neg oM]) ?_
      refine Tr.assign rfl rfl rfl ?_
      refine Tr.nil ?_
      refine at_n ?_
      refine Sat.seq ?_
      refine Sat.regionY 10 rfl (by kernel_rfl) ?_
      refine Tr.move rfl rfl rfl ?_
      refine Tr.load1 rfl rfl rfl Try.underlying27 rfl mM vL ?_
      refine Tr.move rfl rfl rfl ?_
      refine Tr.move rfl rfl rfl ?_
      refine Tr.move rfl rfl rfl ?_
      refine Tr.add_i64 rfl rfl rfl rfl oM ?_
      refine Tr.move rfl rfl rfl ?_
      refine Tr.move rfl rfl rfl ?_
      refine Tr.add_i64 rfl rfl rfl rfl oM ?_
      refine Tr.slice3 (128*i) (128*i+128) (128*i+128) rfl rfl rfl rfl rfl rfl oM oM oM oM oM oM Try.underlying27 Sz5 ?_
      refine Tr.nil ?_
      refine yop rfl rfl (congrArg some (encC_eq q i)) (fun w h => hW.2 i hi3 w (by rw [List.append_nil] at h; exact h)) ?_
      refine Tr.not rfl rfl rfl ?_
      refine Tr.nil ?_
      refine at_n ?_
      refine Sat.cond_f rfl (rfl) ?_
      refine Sat.skip ?_
      refine bl_n ?_
      refine at_n ?_
      refine Sat.region ?_
      refine Tr.move rfl rfl rfl ?_
      refine Tr.load1 rfl rfl rfl Try.underlying3 rfl mM vL ?_
      refine Tr.add_i64 rfl rfl rfl rfl oM ?_
      refine Tr.assign rfl rfl rfl ?_
      refine Tr.nil ?_
      refine at_n ?_
      exact ⟨i + 1, by omega, by omega, weak_perm (wk1 rfl (wk1 rfl (wk1 rfl (wk1 (congrArg (fun z => some (i64 z)) oM) wk0)))) (pm_cons rM (pm_cons rM (pm_seg sG pm_nil)))⟩
    ·
      have hi3 : i = K := by omega
      refine Sat.exit ?_
      refine at_x ?_
      refine at_x ?_
      refine bl_h ?_
      refine en_n ?_
      refine end_perm (out := (⟨b1, [.slice (some ⟨q, 0, none⟩) n c], 27, 1⟩ :: (⟨b2, [i64 128], 3, 1⟩ :: (X i ++ [])))) (res_none rfl) (pm_cons rM (pm_cons rM (pm_seg sG pm_nil))) ?_
      rw [hi3]; exact ⟨rfl, by simp⟩

theorem chunk_seq {l b1 b2 q n c K : Nat} {X : Nat → List Blk} {names : List Nat} (hnk : n = 128 * K) (hnc : n ≤ c) (hbig : n ≤ 1000000) (hnm : ∀ i, (⟨b1, [.slice (some ⟨q, 0, none⟩) n c], 27, 1⟩ :: ⟨b2, [i64 128], 3, 1⟩ :: X i).map (·.n) = names) (w1 : World) (hh : HRep ⟨Try.prog, w1, 0, names, [], []⟩ (⟨b1, [.slice (some ⟨q, 0, none⟩) n c], 27, 1⟩ :: ⟨b2, [i64 128], 3, 1⟩ :: X 0) w1)
    (hy : ∀ i, i < K → ∀ W2, HRep ⟨Try.prog, w1, 0, names, [], []⟩ (⟨b1, [.slice (some ⟨q, 0, none⟩) n c], 27, 1⟩ :: ⟨b2, [i64 128], 3, 1⟩ :: X i) W2 → YieldAt Fence.wide 0 Try.prog l #[encC q i] W2 fun e W3 => e = .returned (.bool true) ∧ HRep ⟨Try.prog, w1, 0, names, [], []⟩ (⟨b1, [.slice (some ⟨q, 0, none⟩) n c], 27, 1⟩ :: ⟨b2, [i64 128], 3, 1⟩ :: X (i + 1)) W3) :
    CallsIn Fence.wide 0 Try.prog 98 (#[.func (.yield l) #[] #[]] ++ #[ptr b1 0, ptr b2 0]) w1 fun e W' => (∃ v, e = .returned v) ∧ HRep ⟨Try.prog, w1, 0, names, [], []⟩ (⟨b1, [.slice (some ⟨q, 0, none⟩) n c], 27, 1⟩ :: ⟨b2, [i64 128], 3, 1⟩ :: X K) W' :=
  callsIn_wide.2 ((chunk_iter l b1 b2 q n c K X names hnk hnc hbig w1 ⟨hh, hy⟩).mono fun e W' ⟨v, out, he, ⟨_, ho⟩, hr⟩ => ⟨⟨v, he⟩, by subst ho; exact HRep.ofRet hr (hnm K)⟩)
theorem take_len {xs : List UInt8} {i K : Nat} (h : xs.length = 128 * K) (hi : i < K) : ((xs.drop (128 * i)).take 128).length = 128 := by simp; omega

set_option maxRecDepth 100000 in
set_option maxHeartbeats 4000000 in
theorem sha_whole (st : List UInt64) (hst : st.length = 8) (k : List UInt64) (hk : Hid (kW = k)) (hk80 : k.length = 80) (p : Option Addr) (n c : Nat) (ss : List Sl) (ls : List (List UInt8)) (hss : ss.length = n) (hls : ls.length = n) (hsl : ∀ j, j < n → (ss.getD j Sl.nil).n = (ls.getD j []).length ∧ ((ss.getD j Sl.nil).p = none → (ss.getD j Sl.nil).n = 0)) (F : List UInt8) (hF : ls.flatten = F) (htot : F.length ≤ 90000) (hn : n ≤ 1000000)  : Meets Try.prog 92 [agg (wordsV st), .slice p n c] [] (fun W => SeesP W p (ss.map Sl.v) ∧ ∀ j, j < n → SeesP W (ss.getD j Sl.nil).p (bytesV (ls.getD j []))) (fun v out => v = agg (wordsV (allW k st F)) ∧ out = []) := by
  intro W hW
  have hpl := padB_length F
  have hpz := padZ_lt F.length
  have hpm := padB_mod F
  have hst2 : (runW k st (padB F) ((padB F).length / 128)).length = 8 := by rw [runW_length]; exact hst
  refine calls_range Try.func92 rfl 16 Try.ntmps92 rfl ?_
  refine Sat.region ?_
  refine Tr.boxA rfl rfl ?_
  intro n2 hn2 hf2
  refine Tr.alloc (cs := (wordsV (List.replicate 8 0))) rfl Zr148 rfl ?_
  intro n4 hn4 hf4
  refine Tr.nil ?_
  refine at_n ?_
  refine Sat.region ?_
  refine Tr.move rfl rfl rfl ?_
  refine Tr.call4 rfl rfl rfl rfl rfl Body95 (sha_padded p n c ss ls hss hls hsl F hF htot hn) (fun w h => ⟨seesP_ext h rfl hW.1, fun j hj => seesP_ext h rfl (hW.2 j hj)⟩) ?_
  rintro v7 out7 ⟨s7, rfl, hac7⟩
  obtain ⟨q7, c7, rfl, hc7, rfl⟩ := acc_pos hac7 oM
  refine Tr.call4 rfl rfl rfl rfl rfl Body94 (mk_chunk (some ⟨q7, 0, none⟩) (padB F).length c7) (fun _ _ => trivial) ?_
  rintro v8 out8 ⟨b1, b2, rfl, rfl⟩
  refine Tr.nil ?_
  refine at_n ?_
  refine ⟨_, _, fun i => ⟨b1, [.slice (some ⟨q7, 0, none⟩) (padB F).length c7], 27, 1⟩ :: ⟨b2, [i64 128], 3, 1⟩ :: [⟨q7, bytesV (padB F), 5, c7 * 1⟩, ⟨n4, wordsV (List.replicate 8 0), 148, (wordsV (List.replicate 8 0)).length⟩, ⟨n2, wordsV (runW k st (padB F) i), 148, (wordsV st).length⟩], [b1, b2, q7, n4, n2], encC q7, ((padB F).length / 128), fun sl i => (5, encC q7 i) :: (9, encC q7 i) :: sl, rfl, rfl, Body98, dE, fun _ => rfl, ?_, ?_, ?_, ?_⟩
  ·
    intro l w1 hh hy
    exact chunk_seq (X := fun i => [⟨q7, bytesV (padB F), 5, c7 * 1⟩, ⟨n4, wordsV (List.replicate 8 0), 148, (wordsV (List.replicate 8 0)).length⟩, ⟨n2, wordsV (runW k st (padB F) i), 148, (wordsV st).length⟩]) hpm hc7 oM (fun _ => rfl) w1 hh hy
  ·
    intro i hi l W2 hh
    refine SatI.region (by kernel_rfl) ?_
    refine Tr.assign rfl rfl rfl ?_
    refine Tr.nil ?_
    exact ⟨rfl, rfl⟩
  ·
    intro i hi l W2 hh
    obtain ⟨A, hA⟩ : ∃ A, Hid (schA ((padB F).drop (128 * i) |>.take 128) 128 = A) := ⟨_, ⟨rfl⟩⟩
    obtain ⟨w, hwp⟩ : ∃ w, Hid (schB A 64 = w) := ⟨_, ⟨rfl⟩⟩
    obtain ⟨R, hR⟩ : ∃ R, Hid (rnds k w (W8.of (runW k st (padB F) i)) 80 = R) := ⟨_, ⟨rfl⟩⟩
    have hw : w.length = 80 := by rw [← hwp.out, schB_length, ← hA.out]; exact schA_length _ 128
    have e1 : addUp (runW k st (padB F) i) R.l 8 = runW k st (padB F) (i + 1) := by rw [runW, pieceW, schW, hA.out, hwp.out, hR.out]
    refine SatI.block ?_
    refine SatI.draw [(1, 0), (0, 1), (0, 2), (1, 3), (3, 4), (4, 5)] Mixed (by kernel_rfl) (by kernel_rfl) ?_
    refine Tr.loadAll rfl rfl rfl Try.underlying148 rfl Sz148 mM (by rw [List.length_map, runW_length]; exact hst) ?_
    refine Tr.move rfl rfl rfl ?_
    refine Tr.s2a rfl rfl rfl Try.underlying156 oM ?_
    refine Tr.loadN (bytesV ((padB F).drop (128 * i) |>.take 128)) rfl rfl rfl Try.underlying156 rfl Sz156 mM (by rw [← List.map_drop, ← List.map_take]) (by rw [List.length_map]; exact take_len hpm hi) ?_
    refine Tr.callV rfl rfl rfl rfl Body96 (sha_Piece (runW k st (padB F) i) (by rw [runW_length]; exact hst) ((padB F).drop (128 * i) |>.take 128) (take_len hpm hi) A w k R hA hwp hw hk hk80 hR) (fun _ _ => trivial) ?_
    refine Tr.storeAll rfl rfl rfl rfl (by simp [isCell]) Sz148 (by first | (rw [List.length_map, addUp_length, runW_length]; exact hst) | (rw [List.length_map, runW_length]; exact hst) | (rw [runW_length]; exact hst)) mM (by first | (rw [List.length_map, addUp_length, runW_length]; exact hst) | (rw [List.length_map, runW_length]; exact hst)) uU ?_
    refine Tr.nil ?_
    rw [e1]
  ·
    intro D W2
    refine Sat.seq ?_
    refine Sat.region ?_
    first
      | refine Tr.loadAll rfl rfl rfl Try.underlying148 rfl Sz148 mM (by first | assumption | (simp [hst, hst2]; done) | (rw [bytesV, List.length_map]; assumption)) ?_
      | refine Tr.loadN _ rfl rfl rfl Try.underlying148 rfl Sz148 mM (by exact rfl) (by first | assumption | (simp [hst, hst2]; done) | (rw [bytesV, List.length_map]; assumption)) ?_
    first
      | refine Tr.storeAll rfl rfl rfl rfl cB Sz148 (by first | assumption | (simp [hst, hst2]; done) | (rw [bytesV, List.length_map]; assumption)) mM (by first | assumption | (simp [hst, hst2]; done) | (rw [bytesV, List.length_map]; assumption)) uU ?_
      | refine Tr.storeN _ rfl rfl rfl rfl rfl cB Sz148 (by first | assumption | (simp [hst, hst2]; done) | (rw [bytesV, List.length_map]; assumption)) mM (by first | assumption | (simp [hst, hst2]; done) | (rw [bytesV, List.length_map]; assumption)) (by exact rfl) uU ?_
    refine Tr.nil ?_
    refine at_n ?_
    refine Sat.ret ?_
    refine enA_r ?_
    refine ⟨_, [], fun W names => res_cell rfl rfl Try.underlying148 rfl Sz148 mM (by simp [hst, hst2]), sP, sP, ?_⟩
    exact ⟨rfl, rfl⟩

theorem startW_length : startW.length = 8 := rfl
def xorUp : Nat → List UInt64
  | 0 => startW
  | i + 1 => (xorUp i).set i ((xorUp i).getD i 0 ^^^ 11936128518282651045)
theorem xorUp_length : ∀ i, (xorUp i).length = 8
  | 0 => rfl
  | i + 1 => by rw [xorUp, List.length_set, xorUp_length i]
/-- the bytes of 'SHA-512/256' -/
def shaTag : List UInt8 := [83, 72, 65, 45, 53, 49, 50, 47, 50, 53, 54]
def shaI : List UInt64 := allW kW (xorUp 8) shaTag
/-- SHA-512/256 -/
def sha256 (l : List UInt8) : List UInt8 := (sumUp (allW kW shaI l) 64).take 32
theorem sha256_length (l : List UInt8) : (sha256 l).length = 32 := by rw [sha256, List.length_take, sumUp_length]; rfl

set_option maxRecDepth 100000 in
set_option maxHeartbeats 4000000 in
theorem sha_StartShort (k s0 i0 : List UInt64) (G : List UInt8) (hk : Hid (kW = k)) (hk80 : k.length = 80) (hs0 : Hid (xorUp 8 = s0)) (hs8 : s0.length = 8) (hG : Hid (shaTag = G)) (hGl : G.length = 11) (hi0 : Hid (allW k s0 G = i0)) (hi8 : i0.length = 8)  : Meets Try.prog 93 [] [] (fun _ => True) (fun v out => v = agg (wordsV i0) ∧ out = []) := by
  intro W hW
  refine calls_of (hp0 := []) Try.func93 rfl 18 Try.ntmps93 rfl (HRep.nil _) ?_
  refine Sat.seq ?_
  refine Sat.region ?_
  refine Tr.alloc (cs := (wordsV (List.replicate 8 0))) rfl Zr148 rfl ?_
  intro n0 hn0 hf0
  refine Tr.nil ?_
  refine at_n ?_
  refine Sat.seq ?_
  refine Sat.region ?_
  refine Tr.callV rfl rfl rfl rfl Body97 (sha_Start) (fun _ _ => trivial) ?_
  refine Tr.alloc (cs := (wordsV (List.replicate 8 0))) rfl Zr148 rfl ?_
  intro n1 hn1 hf1
  first
    | refine Tr.storeAll rfl rfl rfl rfl cB Sz148 (by first | assumption | (simp [xorUp_length, hs8, hi8, startW_length]; done) | (rw [bytesV, List.length_map]; assumption)) mM (by first | assumption | (simp [xorUp_length, hs8, hi8, startW_length]; done) | (rw [bytesV, List.length_map]; assumption)) uU ?_
    | refine Tr.storeN _ rfl rfl rfl rfl rfl cB Sz148 (by first | assumption | (simp [xorUp_length, hs8, hi8, startW_length]; done) | (rw [bytesV, List.length_map]; assumption)) mM (by first | assumption | (simp [xorUp_length, hs8, hi8, startW_length]; done) | (rw [bytesV, List.length_map]; assumption)) (by exact rfl) uU ?_
  refine Tr.nil ?_
  refine at_n ?_
  refine Sat.seq ?_
  refine Sat.seq ?_
  refine Sat.region ?_
  refine Tr.move rfl rfl rfl ?_
  refine Tr.nil ?_
  refine at_n ?_
  refine Sat.block ?_
  refine Sat.loop (ι := Nat) (fun j => ⟨[(0, ptr n0 0), (1, ptr n1 0), (4, i64 (j : Int))], [⟨n1, wordsV (xorUp j), 148, 8⟩, ⟨n0, wordsV (List.replicate 8 0), 148, 8⟩]⟩) (fun j => j ≤ 8) (fun j => 8 - j) (0) ?_ ?_ ?_
  · omega
  · exact weak_perm (wk1 rfl (wk1 rfl (wk1 rfl wk0))) (pm_cons rM (pm_cons rM pm_nil))
  ·
    rintro j hi
    have hlj := xorUp_length j
    refine Sat.seq ?_
    refine Sat.region ?_
    refine Tr.lss rfl rfl rfl rfl rfl ?_
    refine Tr.nil ?_
    refine at_n ?_
    refine Sat.seq ?_
    first
      | refine Sat.condP rfl (fun hc0 => ?_) (fun hc0 => ?_)
      | refine Sat.condNP rfl (fun hc0 => ?_) (fun hc0 => ?_)
      | refine Sat.cond rfl (fun hc0 => ?_) (fun hc0 => ?_)
    ·
      refine Sat.skip ?_
      refine at_n ?_
      refine Sat.seq ?_
      refine Sat.block ?_
      refine Sat.seq ?_
      refine Sat.region ?_
      refine Tr.move rfl rfl rfl ?_
      refine Tr.assign rfl rfl rfl ?_
      refine Tr.nil ?_
      refine at_n ?_
      refine Sat.region ?_
      refine Tr.move rfl rfl rfl ?_
      first
        | refine Tr.idxArr1 rfl rfl rfl rfl Try.underlying148 Sz24 _ rfl oM ?_
        | refine Tr.idxArrO rfl rfl rfl rfl Try.underlying148 Sz24 _ rfl oM ?_
        | refine Tr.idxArr1 rfl rfl rfl rfl Try.underlying148 Sz24 _ (toNat_back oM) oM ?_
        | refine Tr.idxArrO rfl rfl rfl rfl Try.underlying148 Sz24 _ (toNat_back oM) oM ?_
      refine Tr.load1 rfl rfl rfl Try.underlying24 rfl mM (by first | rfl | exact get_words (by first | omega | (simp [xorUp_length, hs8, hi8, startW_length]; done) | (simp [xorUp_length, hs8, hi8, startW_length]; omega)) | exact get_bytes (by first | omega | (simp [xorUp_length, hs8, hi8, startW_length]; done) | (simp [xorUp_length, hs8, hi8, startW_length]; omega)) | exact get_ints (by first | omega | (simp [xorUp_length, hs8, hi8, startW_length]; done) | (simp [xorUp_length, hs8, hi8, startW_length]; omega))) ?_
      refine Tr.xor_u64 rfl rfl rfl (show evIn _ _ = some (u64 11936128518282651045) from rfl) ?_
      first
        | refine Tr.idxArr1 rfl rfl rfl rfl Try.underlying148 Sz24 _ rfl oM ?_
        | refine Tr.idxArrO rfl rfl rfl rfl Try.underlying148 Sz24 _ rfl oM ?_
        | refine Tr.idxArr1 rfl rfl rfl rfl Try.underlying148 Sz24 _ (toNat_back oM) oM ?_
        | refine Tr.idxArrO rfl rfl rfl rfl Try.underlying148 Sz24 _ (toNat_back oM) oM ?_
      refine Tr.store1 rfl rfl rfl rfl rfl Sz24 mM (by first | (simp [xorUp_length, hs8, hi8, startW_length]; done) | (simp [xorUp_length, hs8, hi8, startW_length]; omega)) sT uU ?_
      refine Tr.nil ?_
      refine bl_n ?_
      refine at_n ?_
      refine Sat.region ?_
      refine Tr.add_i64 rfl rfl rfl rfl oM ?_
      refine Tr.move rfl rfl rfl ?_
      refine Tr.nil ?_
      refine at_n ?_
      exact ⟨j + 1, by omega, by omega, weak_perm (wk1 rfl (wk1 rfl (wk1 rfl wk0))) (pm_cons rM (pm_cons rM pm_nil))⟩
    ·
      obtain rfl : j = 8 := by omega
      rw [hs0.out]
      clear hlj
      refine Sat.exit ?_
      refine at_x ?_
      refine at_x ?_
      refine bl_h ?_
      refine at_n ?_
      refine Sat.seq ?_
      refine Sat.region ?_
      first
        | refine Tr.loadAll rfl rfl rfl Try.underlying148 rfl Sz148 mM (by first | assumption | (simp [xorUp_length, hs8, hi8, startW_length]; done) | (rw [bytesV, List.length_map]; assumption)) ?_
        | refine Tr.loadN _ rfl rfl rfl Try.underlying148 rfl Sz148 mM (by exact rfl) (by first | assumption | (simp [xorUp_length, hs8, hi8, startW_length]; done) | (rw [bytesV, List.length_map]; assumption)) ?_
      refine Tr.mkRow (z := u8 0) [u8 83, u8 72, u8 65, u8 45, u8 53, u8 49, u8 50, u8 47, u8 50, u8 53, u8 54] (bytesV shaTag) rfl rfl rfl Try.underlying27 Sz5 Zr5 rfl rfl (by intro v hv; simp only [List.mem_cons, List.not_mem_nil, or_false] at hv; rcases hv with rfl | rfl | rfl | rfl | rfl | rfl | rfl | rfl | rfl | rfl | rfl <;> rfl) dE rfl ?_
      intro q14
      rw [hG.out]
      refine Tr.constB rfl rfl rfl rfl Try.underlying27 Try.underlying5 mM ?_
      refine Tr.mkRow (z := .slice none 0 0) [.slice (some ⟨q14, 0, none⟩) 11 11] [.slice (some ⟨q14, 0, none⟩) 11 11] rfl rfl rfl Try.underlying146 Sz27 Zr27 rfl rfl (by intro v hv; rw [List.mem_singleton.1 hv]; rfl) dE rfl ?_
      intro q16
      refine Tr.callV rfl rfl rfl rfl Body92 (sha_whole s0 hs8 k hk hk80 (some ⟨q16, 0, none⟩) 1 1 [⟨some ⟨q14, 0, none⟩, 11, 11⟩] [G] rfl rfl (fun j hj => (by obtain rfl : j = 0 := oM; exact ⟨by simp [hGl], fun e => by cases e⟩)) G sP oM dE) (fun w h => ⟨SeesP.of (sees_own h mM), fun j hj => (by obtain rfl : j = 0 := oM; exact SeesP.of (sees_own h mM))⟩) ?_
      rw [hi0.out]
      first
        | refine Tr.storeAll rfl rfl rfl rfl cB Sz148 (by first | assumption | (simp [xorUp_length, hs8, hi8, startW_length]; done) | (rw [bytesV, List.length_map]; assumption)) mM (by first | assumption | (simp [xorUp_length, hs8, hi8, startW_length]; done) | (rw [bytesV, List.length_map]; assumption)) uU ?_
        | refine Tr.storeN _ rfl rfl rfl rfl rfl cB Sz148 (by first | assumption | (simp [xorUp_length, hs8, hi8, startW_length]; done) | (rw [bytesV, List.length_map]; assumption)) mM (by first | assumption | (simp [xorUp_length, hs8, hi8, startW_length]; done) | (rw [bytesV, List.length_map]; assumption)) (by exact rfl) uU ?_
      refine Tr.nil ?_
      refine at_n ?_
      refine Sat.ret ?_
      refine en_r ?_
      refine ⟨_, [], res_cell rfl rfl Try.underlying148 rfl Sz148 mM (by simp [xorUp_length, hs8, hi8, startW_length]), sP, sP, ?_, rfl⟩
      rfl

set_option maxRecDepth 100000 in
set_option maxHeartbeats 4000000 in
theorem sha_Sum (k s0 i0 : List UInt64) (G : List UInt8) (hk : Hid (kW = k)) (hk80 : k.length = 80) (hs0 : Hid (xorUp 8 = s0)) (hs8 : s0.length = 8) (hG : Hid (shaTag = G)) (hGl : G.length = 11) (hi0 : Hid (allW k s0 G = i0)) (hi8 : i0.length = 8) (p : Option Addr) (n c : Nat) (ss : List Sl) (ls : List (List UInt8)) (hss : ss.length = n) (hls : ls.length = n) (hsl : ∀ j, j < n → (ss.getD j Sl.nil).n = (ls.getD j []).length ∧ ((ss.getD j Sl.nil).p = none → (ss.getD j Sl.nil).n = 0)) (F : List UInt8) (hF : ls.flatten = F) (htot : F.length ≤ 90000) (hn : n ≤ 1000000) (r : List UInt64) (hr : Hid (allW k i0 F = r)) (s : List UInt8) (hs : Hid (sumUp r 64 = s))  : Meets Try.prog 87 [.slice p n c] [] (fun W => SeesP W p (ss.map Sl.v) ∧ ∀ j, j < n → SeesP W (ss.getD j Sl.nil).p (bytesV (ls.getD j []))) (fun v out => v = agg (bytesV (s.take 32)) ∧ out = []) := by
  intro W hW
  have hr8 : r.length = 8 := by rw [← hr.out, allW_length]; exact hi8
  have hs64 : s.length = 64 := by rw [← hs.out]; exact sumUp_length r 64
  have hs32 : (s.take 32).length = 32 := by rw [List.length_take, hs64]; rfl
  refine calls_of (hp0 := []) Try.func87 rfl 11 Try.ntmps87 rfl (HRep.nil _) ?_
  refine Sat.seq ?_
  refine Sat.region ?_
  refine Tr.alloc (cs := (bytesV (List.replicate 32 0))) rfl Zr25 rfl ?_
  intro n2 hn2 hf2
  refine Tr.nil ?_
  refine at_n ?_
  refine Sat.seq ?_
  refine Sat.region ?_
  refine Tr.callV rfl rfl rfl rfl Body93 (sha_StartShort k s0 i0 G hk hk80 hs0 hs8 hG hGl hi0 hi8) (fun _ _ => trivial) ?_
  refine Tr.move rfl rfl rfl ?_
  refine Tr.callV rfl rfl rfl rfl Body92 (sha_whole i0 hi8 k hk hk80 p n c ss ls hss hls hsl F hF htot hn) (fun w h => ⟨seesP_ext h rfl hW.1, fun j hj => seesP_ext h rfl (hW.2 j hj)⟩) ?_
  rw [hr.out]
  refine Tr.callV rfl rfl rfl rfl Body91 (sha_sum r hr8 s hs) (fun _ _ => trivial) ?_
  refine Tr.alloc (cs := (bytesV (List.replicate 64 0))) rfl Zr28 rfl ?_
  intro n3 hn3 hf3
  first
    | refine Tr.storeAll rfl rfl rfl rfl cB Sz28 (by first | assumption | (simp [hs64, hs32]; done) | (rw [bytesV, List.length_map]; assumption)) mM (by first | assumption | (simp [hs64, hs32]; done) | (rw [bytesV, List.length_map]; assumption)) uU ?_
    | refine Tr.storeN _ rfl rfl rfl rfl rfl cB Sz28 (by first | assumption | (simp [hs64, hs32]; done) | (rw [bytesV, List.length_map]; assumption)) mM (by first | assumption | (simp [hs64, hs32]; done) | (rw [bytesV, List.length_map]; assumption)) (by exact rfl) uU ?_
  refine Tr.nil ?_
  refine at_n ?_
  refine Sat.seq ?_
  refine Sat.region ?_
  refine Tr.sliceArrHi 32 rfl rfl rfl rfl rfl dE dE Try.underlying28 Sz5 ?_
  refine Tr.s2a rfl rfl rfl Try.underlying25 oM ?_
  refine Tr.loadN (bytesV (s.take 32)) rfl rfl rfl Try.underlying25 rfl Sz25 mM (by rw [List.drop_zero, ← List.map_take]) (by rw [List.length_map]; exact hs32) ?_
  first
    | refine Tr.storeAll rfl rfl rfl rfl cB Sz25 (by first | assumption | (simp [hs64, hs32]; done) | (rw [bytesV, List.length_map]; assumption)) mM (by first | assumption | (simp [hs64, hs32]; done) | (rw [bytesV, List.length_map]; assumption)) uU ?_
    | refine Tr.storeN _ rfl rfl rfl rfl rfl cB Sz25 (by first | assumption | (simp [hs64, hs32]; done) | (rw [bytesV, List.length_map]; assumption)) mM (by first | assumption | (simp [hs64, hs32]; done) | (rw [bytesV, List.length_map]; assumption)) (by exact rfl) uU ?_
  refine Tr.nil ?_
  refine at_n ?_
  refine Sat.ret ?_
  refine en_r ?_
  refine ⟨_, [], res_cell rfl rfl Try.underlying25 rfl Sz25 mM (by simp [hs64, hs32]), sP, sP, ?_, rfl⟩
  rfl

end Go.Proofs.Ytlgbmfokgnoocaa
end

section
namespace Go.Proofs.Ytlgbmfokgnoocaa
open Go Hw
set_option linter.unusedVariables false
set_option linter.unusedSimpArgs false

theorem DB.head_small {D : DB} (h : D.check = 0) : D.ls.length ≤ 16 ∧ D.ds.length ≤ 512 := by
  unfold DB.check at h
  by_cases h1 : D.head = true
  · rw [if_pos h1] at h; cases h
  · unfold DB.head at h1
    simp at h1
    omega
theorem DB.bytes_small {D : DB} (h : D.check = 0) (hd : D.ok) : D.bytes.length ≤ 5000 := by
  have hs := D.head_small h
  have hz1 := szN_pos D.seq.toNat
  have hz2 := szN_pos (UInt64.ofNat D.ls.length).toNat
  have hz3 := szN_pos (UInt64.ofNat D.ds.length).toNat
  have hfl := flatten_take_len hd.ls (Nat.le_refl D.ls.length)
  rw [List.take_length] at hfl
  simp only [DB.bytes, DB.body, List.length_append, numB_length, hd.w, hd.prev, hd.sg, hfl]
  omega
theorem BlockIs.ext {C : Cx} {hp : List Blk} {w : World} {B : Block} {D : DB} (hh : HRep C hp w) (hl : C.lent = []) (h : BlockIs C.W0 B D) : BlockIs w B D :=
  ⟨h.ok, h.w, h.seq, h.prev, rows_ext hh hl h.ls, bytes_ext hh hl h.ds, h.sg⟩

end Go.Proofs.Ytlgbmfokgnoocaa
end

section
namespace Go.Proofs.Ytlgbmfokgnoocaa
open Go Hw
set_option linter.unusedSimpArgs false
set_option linter.unusedVariables false
set_option maxRecDepth 100000
/-- a vote is its own data -/
structure VoteIs (W : World) (x : Vote) (d : Vote) : Prop where
  ok : x.ok
  eq : x = d
  wf : (Lit.int .i64 d.fPhase).wf = true
theorem VoteIs.ext {C : Cx} {hp : List Blk} {w : World} {x d : Vote} (h : VoteIs C.W0 x d) (hh : HRep C hp w) (hl : C.lent = []) : VoteIs w x d := ⟨h.ok, h.eq, h.wf⟩
section
variable {H : Type} {enc : TypeId × Value → H} {P : Program} {W : World} {base : Nat} {sp : Nat → Bool} {held : Bool}
end
section
variable {H : Type} {enc : TypeId × Value → H} {W : World} {base : Nat} {sp : Nat → Bool} {held : Bool}
theorem Vote.openD {fuel : Nat} {cs : List Value} {y : DataW H × List MemPlace} (h : DataW.trod enc Try.prog W base sp held fuel 38 cs = some y) : ∃ (x : Vote) (d : Vote), cs = x.cells ∧ VoteIs W x d := by
  obtain ⟨x, h1, h2, h3⟩ := Vote.openT h
  exact ⟨x, x, h2, h1, rfl, h3⟩
theorem Block.openD {fuel : Nat} {cs : List Value} {y : DataW H × List MemPlace} (h : DataW.trod enc Try.prog W base sp held fuel 31 cs = some y) : ∃ (x : Block) (d : DB), cs = x.cells ∧ BlockIs W x d := by
  obtain ⟨x, h1, h2, ⟨ls, h3⟩, ⟨l, h4⟩⟩ := Block.openT h
  exact ⟨x, ⟨x.fWriter, x.fSeq, x.fPrev, ls, l, x.fSig⟩, h2, h1, rfl, rfl, rfl, h3, h4, rfl⟩
end
section
variable {H : Type} {enc : TypeId × Value → H} {W : World} {base : Nat} {sp : Nat → Bool} {held : Bool}
theorem Vote.openW {r : Reach} {b0 : Nat} {v : Value} {d : DataW H} {ps : List MemPlace} (hval : Value.okWide Try.prog W r b0 38 v) (hd : DataW.Trod enc Try.prog W base sp held 38 v d ps) : ∃ (x : Vote) (D : Vote), v = agg x.cells ∧ VoteIs W x D := by
  simp only [Value.okWide, Try.underlying38] at hval
  obtain ⟨cs, rfl, _⟩ := hval
  obtain ⟨fuel, hf⟩ := hd
  obtain ⟨x, D, h2, h3⟩ := Vote.openD hf
  refine ⟨x, D, ?_, h3⟩
  simp only [Value.cells] at h2
  rw [agg, ← h2]
end
/-- a slice of them -/
def VotesAt (W : World) (s : Sl) (ds : List Vote) : Prop := ∃ rs, SeqIs Vote.cells 132 VoteIs W s rs ds
theorem Votes_ext {C : Cx} {hp : List Blk} {w : World} {s : Sl} {ds : List Vote} (hh : HRep C hp w) (hl : C.lent = []) (h : VotesAt C.W0 s ds) : VotesAt w s ds := by
  obtain ⟨rs, h⟩ := h
  exact ⟨rs, h.ext hh hl fun r d hd => hd.ext hh hl⟩
section
variable {H : Type} {enc : TypeId × Value → H} {W : World} {base : Nat} {sp : Nat → Bool} {held : Bool}
theorem Vote.openS {t : TypeId} (hu : Try.prog.underlying t = some (.slice 38)) (hc : Try.prog.cellsOf 38 = 132) {fuel : Nat} {cs : List Value} {y : DataW H × List MemPlace} (h : DataW.trod enc Try.prog W base sp held fuel t cs = some y) : ∃ s ds, cs = [Sl.v s] ∧ VotesAt W s ds := by
  obtain ⟨s, rs, ds, e, hs⟩ := open_seqS (cells := Vote.cells) (Is := VoteIs) hu hc dE (fun ht => by
    obtain ⟨r, d, e, hi⟩ := Vote.openD ht
    exact ⟨r, d, e, hi, Vote.length hi.ok⟩) h
  exact ⟨s, ds, e, rs, hs⟩
end
section
variable {H : Type} {enc : TypeId × Value → H} {W : World} {base : Nat} {sp : Nat → Bool} {held : Bool}
theorem Block.openW {r : Reach} {b0 : Nat} {v : Value} {d : DataW H} {ps : List MemPlace} (hval : Value.okWide Try.prog W r b0 31 v) (hd : DataW.Trod enc Try.prog W base sp held 31 v d ps) : ∃ (x : Block) (D : DB), v = agg x.cells ∧ BlockIs W x D := by
  simp only [Value.okWide, Try.underlying31] at hval
  obtain ⟨cs, rfl, _⟩ := hval
  obtain ⟨fuel, hf⟩ := hd
  obtain ⟨x, D, h2, h3⟩ := Block.openD hf
  refine ⟨x, D, ?_, h3⟩
  simp only [Value.cells] at h2
  rw [agg, ← h2]
end
/-- a slice of them -/
def BlocksAt (W : World) (s : Sl) (ds : List DB) : Prop := ∃ rs, SeqIs Block.cells 131 BlockIs W s rs ds
theorem Blocks_ext {C : Cx} {hp : List Blk} {w : World} {s : Sl} {ds : List DB} (hh : HRep C hp w) (hl : C.lent = []) (h : BlocksAt C.W0 s ds) : BlocksAt w s ds := by
  obtain ⟨rs, h⟩ := h
  exact ⟨rs, h.ext hh hl fun r d hd => hd.ext hh hl⟩
section
variable {H : Type} {enc : TypeId × Value → H} {W : World} {base : Nat} {sp : Nat → Bool} {held : Bool}
theorem Block.openS {t : TypeId} (hu : Try.prog.underlying t = some (.slice 31)) (hc : Try.prog.cellsOf 31 = 131) {fuel : Nat} {cs : List Value} {y : DataW H × List MemPlace} (h : DataW.trod enc Try.prog W base sp held fuel t cs = some y) : ∃ s ds, cs = [Sl.v s] ∧ BlocksAt W s ds := by
  obtain ⟨s, rs, ds, e, hs⟩ := open_seqS (cells := Block.cells) (Is := BlockIs) hu hc dE (fun ht => by
    obtain ⟨r, d, e, hi⟩ := Block.openD ht
    exact ⟨r, d, e, hi, Block.length hi.ok⟩) h
  exact ⟨s, ds, e, rs, hs⟩
end
structure DCut where
  dHeight : UInt64
  dPrev : List UInt8
  dHeads : List (List UInt8)
structure CutIs (W : World) (x : Cut) (d : DCut) : Prop where
  ok : x.ok
  fHeight : x.fHeight = d.dHeight
  fPrev : x.fPrev = d.dPrev
  fHeads : RowsAt W x.fHeads 32 d.dHeads
theorem CutIs.ext {C : Cx} {hp : List Blk} {w : World} {x : Cut} {d : DCut} (h : CutIs C.W0 x d) (hh : HRep C hp w) (hl : C.lent = []) : CutIs w x d := ⟨h.ok, h.fHeight, h.fPrev, rows_ext hh hl h.fHeads⟩
section
variable {H : Type} {enc : TypeId × Value → H} {W : World} {base : Nat} {sp : Nat → Bool} {held : Bool}
theorem Cut.openD {fuel : Nat} {cs : List Value} {y : DataW H × List MemPlace} (h : DataW.trod enc Try.prog W base sp held fuel 33 cs = some y) : ∃ (x : Cut) (d : DCut), cs = x.cells ∧ CutIs W x d := by
  obtain ⟨xs, n, _, _, h4, h5, h6⟩ := DataW.trod_struct Try.underlying33 h
  rw [show Try.prog.cellsOf 33 = 34 by kernel_rfl] at h4
  have c0 : Try.prog.cellsOf 24 = 1 := by kernel_rfl
  have c1 : Try.prog.cellsOf 25 = 32 := by kernel_rfl
  have c2 : Try.prog.cellsOf 26 = 1 := by kernel_rfl
  have g0 : DataW.trod enc Try.prog W base sp held n 24 ((cs.drop 0).take (Try.prog.cellsOf 24)) = some (xs[0]'(by rw [h5]; decide)) := by rw [← List.getElem?_eq_getElem]; exact h6 0 _ rfl
  rw [c0] at g0
  obtain ⟨a0, e0, _, w0⟩ := DataW.trod_int Try.underlying24 g0
  obtain ⟨v0, rfl⟩ := Hw.u64_back w0
  have g1 : DataW.trod enc Try.prog W base sp held n 25 ((cs.drop 1).take (Try.prog.cellsOf 25)) = some (xs[1]'(by rw [h5]; decide)) := by rw [← List.getElem?_eq_getElem]; exact h6 1 _ rfl
  rw [c1] at g1
  obtain ⟨v1, e1, l1⟩ := Hw.open_bytesT Try.underlying25 Try.underlying5 (by kernel_rfl) (by kernel_rfl) g1
  have g2 : DataW.trod enc Try.prog W base sp held n 26 ((cs.drop 33).take (Try.prog.cellsOf 26)) = some (xs[2]'(by rw [h5]; decide)) := by rw [← List.getElem?_eq_getElem]; exact h6 2 _ rfl
  rw [c2] at g2
  obtain ⟨v2, b2, e2, q2⟩ := Hw.open_rowsS Try.underlying26 Try.underlying25 Try.underlying5 (by kernel_rfl) (by kernel_rfl) dE g2
  refine ⟨⟨v0, v1, v2⟩, ⟨v0, v1, b2⟩, ?_, ⟨⟨l1⟩, rfl, rfl, q2⟩⟩
  rw [← List.drop_zero (l := cs)]
  exact (Hw.cat 1 e0 rfl (Hw.cat 33 e1 rfl (Hw.cat_last e2 h4)))
end
section
variable {H : Type} {enc : TypeId × Value → H} {W : World} {base : Nat} {sp : Nat → Bool} {held : Bool}
theorem Cut.openW {r : Reach} {b0 : Nat} {v : Value} {d : DataW H} {ps : List MemPlace} (hval : Value.okWide Try.prog W r b0 33 v) (hd : DataW.Trod enc Try.prog W base sp held 33 v d ps) : ∃ (x : Cut) (D : DCut), v = agg x.cells ∧ CutIs W x D := by
  simp only [Value.okWide, Try.underlying33] at hval
  obtain ⟨cs, rfl, _⟩ := hval
  obtain ⟨fuel, hf⟩ := hd
  obtain ⟨x, D, h2, h3⟩ := Cut.openD hf
  refine ⟨x, D, ?_, h3⟩
  simp only [Value.cells] at h2
  rw [agg, ← h2]
end
/-- a slice of them -/
def CutsAt (W : World) (s : Sl) (ds : List DCut) : Prop := ∃ rs, SeqIs Cut.cells 34 CutIs W s rs ds
theorem Cuts_ext {C : Cx} {hp : List Blk} {w : World} {s : Sl} {ds : List DCut} (hh : HRep C hp w) (hl : C.lent = []) (h : CutsAt C.W0 s ds) : CutsAt w s ds := by
  obtain ⟨rs, h⟩ := h
  exact ⟨rs, h.ext hh hl fun r d hd => hd.ext hh hl⟩
section
variable {H : Type} {enc : TypeId × Value → H} {W : World} {base : Nat} {sp : Nat → Bool} {held : Bool}
theorem Cut.openS {t : TypeId} (hu : Try.prog.underlying t = some (.slice 33)) (hc : Try.prog.cellsOf 33 = 34) {fuel : Nat} {cs : List Value} {y : DataW H × List MemPlace} (h : DataW.trod enc Try.prog W base sp held fuel t cs = some y) : ∃ s ds, cs = [Sl.v s] ∧ CutsAt W s ds := by
  obtain ⟨s, rs, ds, e, hs⟩ := open_seqS (cells := Cut.cells) (Is := CutIs) hu hc dE (fun ht => by
    obtain ⟨r, d, e, hi⟩ := Cut.openD ht
    exact ⟨r, d, e, hi, Cut.length hi.ok⟩) h
  exact ⟨s, ds, e, rs, hs⟩
end
structure DCert where
  dCut : DCut
  dVotes : List Vote
structure CertIs (W : World) (x : Cert) (d : DCert) : Prop where
  ok : x.ok
  fCut : CutIs W x.fCut d.dCut
  fVotes : VotesAt W x.fVotes d.dVotes
theorem CertIs.ext {C : Cx} {hp : List Blk} {w : World} {x : Cert} {d : DCert} (h : CertIs C.W0 x d) (hh : HRep C hp w) (hl : C.lent = []) : CertIs w x d := ⟨h.ok, (h.fCut.ext hh hl), Votes_ext hh hl h.fVotes⟩
section
variable {H : Type} {enc : TypeId × Value → H} {W : World} {base : Nat} {sp : Nat → Bool} {held : Bool}
theorem Cert.openD {fuel : Nat} {cs : List Value} {y : DataW H × List MemPlace} (h : DataW.trod enc Try.prog W base sp held fuel 36 cs = some y) : ∃ (x : Cert) (d : DCert), cs = x.cells ∧ CertIs W x d := by
  obtain ⟨xs, n, _, _, h4, h5, h6⟩ := DataW.trod_struct Try.underlying36 h
  rw [show Try.prog.cellsOf 36 = 35 by kernel_rfl] at h4
  have c0 : Try.prog.cellsOf 33 = 34 := by kernel_rfl
  have c1 : Try.prog.cellsOf 34 = 1 := by kernel_rfl
  have g0 : DataW.trod enc Try.prog W base sp held n 33 ((cs.drop 0).take (Try.prog.cellsOf 33)) = some (xs[0]'(by rw [h5]; decide)) := by rw [← List.getElem?_eq_getElem]; exact h6 0 _ rfl
  rw [c0] at g0
  obtain ⟨v0, d0, e0, q0⟩ := Cut.openD g0
  have g1 : DataW.trod enc Try.prog W base sp held n 34 ((cs.drop 34).take (Try.prog.cellsOf 34)) = some (xs[1]'(by rw [h5]; decide)) := by rw [← List.getElem?_eq_getElem]; exact h6 1 _ rfl
  rw [c1] at g1
  obtain ⟨v1, b1, e1, q1⟩ := Vote.openS Try.underlying34 (by kernel_rfl) g1
  refine ⟨⟨v0, v1⟩, ⟨d0, b1⟩, ?_, ⟨⟨q0.ok⟩, q0, q1⟩⟩
  rw [← List.drop_zero (l := cs)]
  exact (Hw.cat 34 e0 rfl (Hw.cat_last e1 h4))
end
section
variable {H : Type} {enc : TypeId × Value → H} {W : World} {base : Nat} {sp : Nat → Bool} {held : Bool}
theorem Cert.openW {r : Reach} {b0 : Nat} {v : Value} {d : DataW H} {ps : List MemPlace} (hval : Value.okWide Try.prog W r b0 36 v) (hd : DataW.Trod enc Try.prog W base sp held 36 v d ps) : ∃ (x : Cert) (D : DCert), v = agg x.cells ∧ CertIs W x D := by
  simp only [Value.okWide, Try.underlying36] at hval
  obtain ⟨cs, rfl, _⟩ := hval
  obtain ⟨fuel, hf⟩ := hd
  obtain ⟨x, D, h2, h3⟩ := Cert.openD hf
  refine ⟨x, D, ?_, h3⟩
  simp only [Value.cells] at h2
  rw [agg, ← h2]
end
/-- a slice of them -/
def CertsAt (W : World) (s : Sl) (ds : List DCert) : Prop := ∃ rs, SeqIs Cert.cells 35 CertIs W s rs ds
theorem Certs_ext {C : Cx} {hp : List Blk} {w : World} {s : Sl} {ds : List DCert} (hh : HRep C hp w) (hl : C.lent = []) (h : CertsAt C.W0 s ds) : CertsAt w s ds := by
  obtain ⟨rs, h⟩ := h
  exact ⟨rs, h.ext hh hl fun r d hd => hd.ext hh hl⟩
section
variable {H : Type} {enc : TypeId × Value → H} {W : World} {base : Nat} {sp : Nat → Bool} {held : Bool}
theorem Cert.openS {t : TypeId} (hu : Try.prog.underlying t = some (.slice 36)) (hc : Try.prog.cellsOf 36 = 35) {fuel : Nat} {cs : List Value} {y : DataW H × List MemPlace} (h : DataW.trod enc Try.prog W base sp held fuel t cs = some y) : ∃ s ds, cs = [Sl.v s] ∧ CertsAt W s ds := by
  obtain ⟨s, rs, ds, e, hs⟩ := open_seqS (cells := Cert.cells) (Is := CertIs) hu hc dE (fun ht => by
    obtain ⟨r, d, e, hi⟩ := Cert.openD ht
    exact ⟨r, d, e, hi, Cert.length hi.ok⟩) h
  exact ⟨s, ds, e, rs, hs⟩
end
structure DRecord where
  dKind : UInt8
  dData : List UInt8
structure RecordIs (W : World) (x : Record) (d : DRecord) : Prop where
  ok : x.ok
  fKind : x.fKind = d.dKind
  fData : BytesAt W x.fData d.dData
theorem RecordIs.ext {C : Cx} {hp : List Blk} {w : World} {x : Record} {d : DRecord} (h : RecordIs C.W0 x d) (hh : HRep C hp w) (hl : C.lent = []) : RecordIs w x d := ⟨h.ok, h.fKind, bytes_ext hh hl h.fData⟩
section
variable {H : Type} {enc : TypeId × Value → H} {W : World} {base : Nat} {sp : Nat → Bool} {held : Bool}
theorem Record.openD {fuel : Nat} {cs : List Value} {y : DataW H × List MemPlace} (h : DataW.trod enc Try.prog W base sp held fuel 47 cs = some y) : ∃ (x : Record) (d : DRecord), cs = x.cells ∧ RecordIs W x d := by
  obtain ⟨xs, n, _, _, h4, h5, h6⟩ := DataW.trod_struct Try.underlying47 h
  rw [show Try.prog.cellsOf 47 = 2 by kernel_rfl] at h4
  have c0 : Try.prog.cellsOf 5 = 1 := by kernel_rfl
  have c1 : Try.prog.cellsOf 27 = 1 := by kernel_rfl
  have g0 : DataW.trod enc Try.prog W base sp held n 5 ((cs.drop 0).take (Try.prog.cellsOf 5)) = some (xs[0]'(by rw [h5]; decide)) := by rw [← List.getElem?_eq_getElem]; exact h6 0 _ rfl
  rw [c0] at g0
  obtain ⟨a0, e0, _, w0⟩ := DataW.trod_int Try.underlying5 g0
  obtain ⟨v0, rfl⟩ := Hw.u8_back w0
  have g1 : DataW.trod enc Try.prog W base sp held n 27 ((cs.drop 1).take (Try.prog.cellsOf 27)) = some (xs[1]'(by rw [h5]; decide)) := by rw [← List.getElem?_eq_getElem]; exact h6 1 _ rfl
  rw [c1] at g1
  obtain ⟨v1, b1, e1, q1⟩ := Hw.open_bytesS Try.underlying27 Try.underlying5 (by kernel_rfl) g1
  refine ⟨⟨v0, v1⟩, ⟨v0, b1⟩, ?_, ⟨⟨trivial⟩, rfl, q1⟩⟩
  rw [← List.drop_zero (l := cs)]
  exact (Hw.cat 1 e0 rfl (Hw.cat_last e1 h4))
end
section
variable {H : Type} {enc : TypeId × Value → H} {W : World} {base : Nat} {sp : Nat → Bool} {held : Bool}
theorem Record.openW {r : Reach} {b0 : Nat} {v : Value} {d : DataW H} {ps : List MemPlace} (hval : Value.okWide Try.prog W r b0 47 v) (hd : DataW.Trod enc Try.prog W base sp held 47 v d ps) : ∃ (x : Record) (D : DRecord), v = agg x.cells ∧ RecordIs W x D := by
  simp only [Value.okWide, Try.underlying47] at hval
  obtain ⟨cs, rfl, _⟩ := hval
  obtain ⟨fuel, hf⟩ := hd
  obtain ⟨x, D, h2, h3⟩ := Record.openD hf
  refine ⟨x, D, ?_, h3⟩
  simp only [Value.cells] at h2
  rw [agg, ← h2]
end
/-- a slice of them -/
def RecordsAt (W : World) (s : Sl) (ds : List DRecord) : Prop := ∃ rs, SeqIs Record.cells 2 RecordIs W s rs ds
section
variable {H : Type} {enc : TypeId × Value → H} {W : World} {base : Nat} {sp : Nat → Bool} {held : Bool}
theorem Record.openS {t : TypeId} (hu : Try.prog.underlying t = some (.slice 47)) (hc : Try.prog.cellsOf 47 = 2) {fuel : Nat} {cs : List Value} {y : DataW H × List MemPlace} (h : DataW.trod enc Try.prog W base sp held fuel t cs = some y) : ∃ s ds, cs = [Sl.v s] ∧ RecordsAt W s ds := by
  obtain ⟨s, rs, ds, e, hs⟩ := open_seqS (cells := Record.cells) (Is := RecordIs) hu hc dE (fun ht => by
    obtain ⟨r, d, e, hi⟩ := Record.openD ht
    exact ⟨r, d, e, hi, Record.length hi.ok⟩) h
  exact ⟨s, ds, e, rs, hs⟩
end
structure DKept where
  dBlocks : List DB
  dCerts : List DCert
  dVotes : List Vote
  dCuts : List DCut
structure KeptIs (W : World) (x : Kept) (d : DKept) : Prop where
  ok : x.ok
  fBlocks : BlocksAt W x.fBlocks d.dBlocks
  fCerts : CertsAt W x.fCerts d.dCerts
  fVotes : VotesAt W x.fVotes d.dVotes
  fCuts : CutsAt W x.fCuts d.dCuts
theorem KeptIs.ext {C : Cx} {hp : List Blk} {w : World} {x : Kept} {d : DKept} (h : KeptIs C.W0 x d) (hh : HRep C hp w) (hl : C.lent = []) : KeptIs w x d := ⟨h.ok, Blocks_ext hh hl h.fBlocks, Certs_ext hh hl h.fCerts, Votes_ext hh hl h.fVotes, Cuts_ext hh hl h.fCuts⟩
section
variable {H : Type} {enc : TypeId × Value → H} {W : World} {base : Nat} {sp : Nat → Bool} {held : Bool}
theorem Kept.openD {fuel : Nat} {cs : List Value} {y : DataW H × List MemPlace} (h : DataW.trod enc Try.prog W base sp held fuel 57 cs = some y) : ∃ (x : Kept) (d : DKept), cs = x.cells ∧ KeptIs W x d := by
  obtain ⟨xs, n, _, _, h4, h5, h6⟩ := DataW.trod_struct Try.underlying57 h
  rw [show Try.prog.cellsOf 57 = 4 by kernel_rfl] at h4
  have c0 : Try.prog.cellsOf 41 = 1 := by kernel_rfl
  have c1 : Try.prog.cellsOf 43 = 1 := by kernel_rfl
  have c2 : Try.prog.cellsOf 34 = 1 := by kernel_rfl
  have c3 : Try.prog.cellsOf 45 = 1 := by kernel_rfl
  have g0 : DataW.trod enc Try.prog W base sp held n 41 ((cs.drop 0).take (Try.prog.cellsOf 41)) = some (xs[0]'(by rw [h5]; decide)) := by rw [← List.getElem?_eq_getElem]; exact h6 0 _ rfl
  rw [c0] at g0
  obtain ⟨v0, b0, e0, q0⟩ := Block.openS Try.underlying41 (by kernel_rfl) g0
  have g1 : DataW.trod enc Try.prog W base sp held n 43 ((cs.drop 1).take (Try.prog.cellsOf 43)) = some (xs[1]'(by rw [h5]; decide)) := by rw [← List.getElem?_eq_getElem]; exact h6 1 _ rfl
  rw [c1] at g1
  obtain ⟨v1, b1, e1, q1⟩ := Cert.openS Try.underlying43 (by kernel_rfl) g1
  have g2 : DataW.trod enc Try.prog W base sp held n 34 ((cs.drop 2).take (Try.prog.cellsOf 34)) = some (xs[2]'(by rw [h5]; decide)) := by rw [← List.getElem?_eq_getElem]; exact h6 2 _ rfl
  rw [c2] at g2
  obtain ⟨v2, b2, e2, q2⟩ := Vote.openS Try.underlying34 (by kernel_rfl) g2
  have g3 : DataW.trod enc Try.prog W base sp held n 45 ((cs.drop 3).take (Try.prog.cellsOf 45)) = some (xs[3]'(by rw [h5]; decide)) := by rw [← List.getElem?_eq_getElem]; exact h6 3 _ rfl
  rw [c3] at g3
  obtain ⟨v3, b3, e3, q3⟩ := Cut.openS Try.underlying45 (by kernel_rfl) g3
  refine ⟨⟨v0, v1, v2, v3⟩, ⟨b0, b1, b2, b3⟩, ?_, ⟨⟨trivial⟩, q0, q1, q2, q3⟩⟩
  rw [← List.drop_zero (l := cs)]
  exact (Hw.cat 1 e0 rfl (Hw.cat 2 e1 rfl (Hw.cat 3 e2 rfl (Hw.cat_last e3 h4))))
end
section
variable {H : Type} {enc : TypeId × Value → H} {W : World} {base : Nat} {sp : Nat → Bool} {held : Bool}
theorem Kept.openW {r : Reach} {b0 : Nat} {v : Value} {d : DataW H} {ps : List MemPlace} (hval : Value.okWide Try.prog W r b0 57 v) (hd : DataW.Trod enc Try.prog W base sp held 57 v d ps) : ∃ (x : Kept) (D : DKept), v = agg x.cells ∧ KeptIs W x D := by
  simp only [Value.okWide, Try.underlying57] at hval
  obtain ⟨cs, rfl, _⟩ := hval
  obtain ⟨fuel, hf⟩ := hd
  obtain ⟨x, D, h2, h3⟩ := Kept.openD hf
  refine ⟨x, D, ?_, h3⟩
  simp only [Value.cells] at h2
  rw [agg, ← h2]
end
/-- a slice of them -/
def KeptsAt (W : World) (s : Sl) (ds : List DKept) : Prop := ∃ rs, SeqIs Kept.cells 4 KeptIs W s rs ds
section
variable {H : Type} {enc : TypeId × Value → H} {W : World} {base : Nat} {sp : Nat → Bool} {held : Bool}
theorem Kept.openS {t : TypeId} (hu : Try.prog.underlying t = some (.slice 57)) (hc : Try.prog.cellsOf 57 = 4) {fuel : Nat} {cs : List Value} {y : DataW H × List MemPlace} (h : DataW.trod enc Try.prog W base sp held fuel t cs = some y) : ∃ s ds, cs = [Sl.v s] ∧ KeptsAt W s ds := by
  obtain ⟨s, rs, ds, e, hs⟩ := open_seqS (cells := Kept.cells) (Is := KeptIs) hu hc dE (fun ht => by
    obtain ⟨r, d, e, hi⟩ := Kept.openD ht
    exact ⟨r, d, e, hi, Kept.length hi.ok⟩) h
  exact ⟨s, ds, e, rs, hs⟩
end
end Go.Proofs.Ytlgbmfokgnoocaa
end

section
namespace Go.Proofs.Ytlgbmfokgnoocaa
open Go Hw
set_option linter.unusedVariables false
set_option linter.unusedSimpArgs false

def vheadB (V : Vote) : Bool := decide ((V.fHeight.toNat : Int) < 1) || (decide ((4294967295 : Int) < (V.fHeight.toNat : Int)) || decide ((20 : Int) < (V.fRound.toNat : Int)))
def vokB (V : Vote) : Bool := if V.fPhase = 1 then (!decide (V.fValue = List.replicate 32 0)) && decide ((V.fProof.toNat : Int) ≤ (V.fRound.toNat : Int)) else if V.fPhase = 2 ∨ V.fPhase = 3 then decide ((V.fProof.toNat : Int) = 0) else false
def vcheck (V : Vote) : Int := if vheadB V = true then 2 else if vokB V = true then 0 else 2

set_option maxRecDepth 100000 in
set_option maxHeartbeats 4000000 in
theorem vote_check (V : Vote) (hV : V.ok) : Meets Try.prog 46 [agg V.cells] [] (fun _ => True) (fun v out => v = i64 (vcheck V) ∧ out = []) := by
  intro W hW
  refine calls_of (hp0 := []) Try.func46 rfl 40 Try.ntmps46 rfl (HRep.nil _) ?_
  refine Sat.seq ?_
  refine Sat.region ?_
  refine Tr.boxA rfl rfl ?_
  intro n1 hn1 hf1
  refine Tr.assign rfl rfl rfl ?_
  refine Tr.nil ?_
  refine at_n ?_
  refine Sat.seq ?_
  refine Sat.seq ?_
  refine Sat.region ?_
  refine Tr.fld rfl rfl rfl Try.underlying38 rfl Sz24 dE _ rfl ?_
  refine Tr.load1 rfl rfl rfl Try.underlying24 rfl mM (by first | exact Vote.get_fHeight (by first | (simp [hV.l_fValue]; done) | exact oK  | exact hV) | exact (by first | rfl | exact get_words (by first | omega | (simp [hV.l_fValue]; done) | (simp [hV.l_fValue]; omega)) | exact get_bytes (by first | omega | (simp [hV.l_fValue]; done) | (simp [hV.l_fValue]; omega)) | exact get_ints (by first | omega | (simp [hV.l_fValue]; done) | (simp [hV.l_fValue]; omega)))) ?_
  refine two (fun r hr k => Tr.lss rfl rfl rfl rfl hr k) (fun hs1_20 => ?_) (fun hs1_20 => ?_)
  ·
    first | have hs1_2 := of_decide_eq_true hs1_20 | have hs1_2 := of_decide_eq_false hs1_20 | have hs1_2 := nd_t hs1_20 | have hs1_2 := nd_f hs1_20 | have hs1_2 := hs1_20
    refine Tr.move rfl rfl rfl ?_
    refine Tr.skp rfl rfl ?_
    refine Tr.skp rfl rfl ?_
    refine Tr.skp rfl rfl ?_
    refine Tr.pick rfl rfl rfl rfl rfl rfl ?_
    refine Tr.move rfl rfl rfl ?_
    refine Tr.skp rfl rfl ?_
    refine Tr.skp rfl rfl ?_
    refine Tr.skp rfl rfl ?_
    refine Tr.pick rfl rfl rfl rfl rfl rfl ?_
    refine Tr.nil ?_
    refine at_n ?_
    refine Sat.cond_t rfl rfl ?_
    refine Sat.seq ?_
    refine Sat.region ?_
    refine Tr.assign rfl rfl rfl ?_
    refine Tr.nil ?_
    refine at_n ?_
    refine Sat.ret ?_
    refine at_r ?_
    refine en_r ?_
    refine ⟨_, [], res_tmp rfl rfl, sP, sP, ?_, rfl⟩
    first
      | (unfold vcheck vheadB vokB; simp_all; done)
      | (unfold vcheck vheadB vokB; simp_all; omega)
  ·
    first | have hs1_2 := of_decide_eq_true hs1_20 | have hs1_2 := of_decide_eq_false hs1_20 | have hs1_2 := nd_t hs1_20 | have hs1_2 := nd_f hs1_20 | have hs1_2 := hs1_20
    refine Tr.move rfl rfl rfl ?_
    refine Tr.fld rfl rfl rfl Try.underlying38 rfl Sz24 dE _ rfl ?_
    refine Tr.load1 rfl rfl rfl Try.underlying24 rfl mM (by first | exact Vote.get_fHeight (by first | (simp [hV.l_fValue]; done) | exact oK  | exact hV) | exact (by first | rfl | exact get_words (by first | omega | (simp [hV.l_fValue]; done) | (simp [hV.l_fValue]; omega)) | exact get_bytes (by first | omega | (simp [hV.l_fValue]; done) | (simp [hV.l_fValue]; omega)) | exact get_ints (by first | omega | (simp [hV.l_fValue]; done) | (simp [hV.l_fValue]; omega)))) ?_
    refine two (fun r hr k => Tr.gtr rfl rfl rfl rfl hr k) (fun hs1_60 => ?_) (fun hs1_60 => ?_)
    ·
      first | have hs1_6 := of_decide_eq_true hs1_60 | have hs1_6 := of_decide_eq_false hs1_60 | have hs1_6 := nd_t hs1_60 | have hs1_6 := nd_f hs1_60 | have hs1_6 := hs1_60
      refine Tr.pick rfl rfl rfl rfl rfl rfl ?_
      refine Tr.move rfl rfl rfl ?_
      refine Tr.skp rfl rfl ?_
      refine Tr.skp rfl rfl ?_
      refine Tr.skp rfl rfl ?_
      refine Tr.pick rfl rfl rfl rfl rfl rfl ?_
      refine Tr.nil ?_
      refine at_n ?_
      refine Sat.cond_t rfl rfl ?_
      refine Sat.seq ?_
      refine Sat.region ?_
      refine Tr.assign rfl rfl rfl ?_
      refine Tr.nil ?_
      refine at_n ?_
      refine Sat.ret ?_
      refine at_r ?_
      refine en_r ?_
      refine ⟨_, [], res_tmp rfl rfl, sP, sP, ?_, rfl⟩
      first
        | (unfold vcheck vheadB vokB; simp_all; done)
        | (unfold vcheck vheadB vokB; simp_all; omega)
    ·
      first | have hs1_6 := of_decide_eq_true hs1_60 | have hs1_6 := of_decide_eq_false hs1_60 | have hs1_6 := nd_t hs1_60 | have hs1_6 := nd_f hs1_60 | have hs1_6 := hs1_60
      refine Tr.pick rfl rfl rfl rfl rfl rfl ?_
      refine Tr.move rfl rfl rfl ?_
      refine Tr.fld rfl rfl rfl Try.underlying38 rfl Sz24 dE _ rfl ?_
      refine Tr.load1 rfl rfl rfl Try.underlying24 rfl mM (by first | exact Vote.get_fRound (by first | (simp [hV.l_fValue]; done) | exact oK  | exact hV) | exact (by first | rfl | exact get_words (by first | omega | (simp [hV.l_fValue]; done) | (simp [hV.l_fValue]; omega)) | exact get_bytes (by first | omega | (simp [hV.l_fValue]; done) | (simp [hV.l_fValue]; omega)) | exact get_ints (by first | omega | (simp [hV.l_fValue]; done) | (simp [hV.l_fValue]; omega)))) ?_
      refine Tr.gtr rfl rfl rfl rfl rfl ?_
      refine Tr.pick rfl rfl rfl rfl rfl rfl ?_
      refine Tr.nil ?_
      refine at_n ?_
      first
        | refine Sat.condP rfl (fun hc0 => ?_) (fun hc0 => ?_)
        | refine Sat.condNP rfl (fun hc0 => ?_) (fun hc0 => ?_)
        | refine Sat.cond rfl (fun hc0 => ?_) (fun hc0 => ?_)
      ·
        refine Sat.seq ?_
        refine Sat.region ?_
        refine Tr.assign rfl rfl rfl ?_
        refine Tr.nil ?_
        refine at_n ?_
        refine Sat.ret ?_
        refine at_r ?_
        refine en_r ?_
        refine ⟨_, [], res_tmp rfl rfl, sP, sP, ?_, rfl⟩
        first
          | (unfold vcheck vheadB vokB; simp_all; done)
          | (unfold vcheck vheadB vokB; simp_all; omega)
      ·
        refine Sat.skip ?_
        refine at_n ?_
        refine Sat.seq ?_
        refine Sat.region ?_
        refine Tr.assign rfl rfl rfl ?_
        refine Tr.nil ?_
        refine at_n ?_
        refine Sat.seq ?_
        refine Sat.seq ?_
        refine Sat.region ?_
        refine Tr.fld rfl rfl rfl Try.underlying38 rfl Sz3 dE _ rfl ?_
        refine Tr.load1 rfl rfl rfl Try.underlying3 rfl mM (by first | exact Vote.get_fPhase (by first | (simp [hV.l_fValue]; done) | exact oK  | exact hV) | exact (by first | rfl | exact get_words (by first | omega | (simp [hV.l_fValue]; done) | (simp [hV.l_fValue]; omega)) | exact get_bytes (by first | omega | (simp [hV.l_fValue]; done) | (simp [hV.l_fValue]; omega)) | exact get_ints (by first | omega | (simp [hV.l_fValue]; done) | (simp [hV.l_fValue]; omega)))) ?_
        refine Tr.nil ?_
        refine at_n ?_
        refine Sat.block ?_
        refine Sat.seq ?_
        refine Sat.region ?_
        refine Tr.eqi rfl rfl rfl rfl rfl ?_
        refine Tr.assign rfl rfl rfl ?_
        refine Tr.nil ?_
        refine at_n ?_
        first
          | refine Sat.condP rfl (fun hc1 => ?_) (fun hc1 => ?_)
          | refine Sat.condNP rfl (fun hc1 => ?_) (fun hc1 => ?_)
          | refine Sat.cond rfl (fun hc1 => ?_) (fun hc1 => ?_)
        ·
          refine Sat.region ?_
          refine Tr.fld rfl rfl rfl Try.underlying38 rfl Sz25 dE _ rfl ?_
          first
            | refine Tr.loadN (bytesV _) rfl rfl rfl Try.underlying25 rfl Sz25 mM (Vote.row_fValue (by first | (simp [hV.l_fValue]; done) | exact oK  | exact hV)) (Vote.rl_fValue (by first | (simp [hV.l_fValue]; done) | exact oK  | exact hV)) ?_
          refine Tr.build (cs := bytesV (List.replicate 32 0)) rfl rfl rfl (fun w => by kernel_rfl) ?_
          refine two (fun r hr k => Tr.neq_bytes rfl rfl rfl rfl Try.eqGuardType25 Try.underlying25 Try.underlying5 Sz5 (by first | assumption | (simp [hV.l_fValue]; done) | (rw [bytesV, List.length_map]; assumption)) (by first | assumption | (simp [hV.l_fValue]; done) | (rw [bytesV, List.length_map]; assumption)) hr k) (fun hs6_30 => ?_) (fun hs6_30 => ?_)
          ·
            first | have hs6_3 := of_decide_eq_true hs6_30 | have hs6_3 := of_decide_eq_false hs6_30 | have hs6_3 := nd_t hs6_30 | have hs6_3 := nd_f hs6_30 | have hs6_3 := hs6_30
            refine Tr.move rfl rfl rfl ?_
            refine Tr.fld rfl rfl rfl Try.underlying38 rfl Sz24 dE _ rfl ?_
            refine Tr.load1 rfl rfl rfl Try.underlying24 rfl mM (by first | exact Vote.get_fProof (by first | (simp [hV.l_fValue]; done) | exact oK  | exact hV) | exact (by first | rfl | exact get_words (by first | omega | (simp [hV.l_fValue]; done) | (simp [hV.l_fValue]; omega)) | exact get_bytes (by first | omega | (simp [hV.l_fValue]; done) | (simp [hV.l_fValue]; omega)) | exact get_ints (by first | omega | (simp [hV.l_fValue]; done) | (simp [hV.l_fValue]; omega)))) ?_
            refine Tr.fld rfl rfl rfl Try.underlying38 rfl Sz24 dE _ rfl ?_
            refine Tr.load1 rfl rfl rfl Try.underlying24 rfl mM (by first | exact Vote.get_fRound (by first | (simp [hV.l_fValue]; done) | exact oK  | exact hV) | exact (by first | rfl | exact get_words (by first | omega | (simp [hV.l_fValue]; done) | (simp [hV.l_fValue]; omega)) | exact get_bytes (by first | omega | (simp [hV.l_fValue]; done) | (simp [hV.l_fValue]; omega)) | exact get_ints (by first | omega | (simp [hV.l_fValue]; done) | (simp [hV.l_fValue]; omega)))) ?_
            refine Tr.leq rfl rfl rfl rfl rfl ?_
            refine Tr.pick rfl rfl rfl rfl rfl rfl ?_
            refine Tr.assign rfl rfl rfl ?_
            refine Tr.nil ?_
            refine bl_n ?_
            refine at_n ?_
            refine Sat.seq ?_
            refine Sat.seq ?_
            refine Sat.region ?_
            refine Tr.move rfl rfl rfl ?_
            refine Tr.not rfl rfl rfl ?_
            refine Tr.nil ?_
            refine at_n ?_
            first
              | refine Sat.condP rfl (fun hc4 => ?_) (fun hc4 => ?_)
              | refine Sat.condNP rfl (fun hc4 => ?_) (fun hc4 => ?_)
              | refine Sat.cond rfl (fun hc4 => ?_) (fun hc4 => ?_)
            ·
              refine Sat.seq ?_
              refine Sat.region ?_
              refine Tr.assign rfl rfl rfl ?_
              refine Tr.nil ?_
              refine at_n ?_
              refine Sat.ret ?_
              refine at_r ?_
              refine en_r ?_
              refine ⟨_, [], res_tmp rfl rfl, sP, sP, ?_, rfl⟩
              first
                | (unfold vcheck vheadB vokB; simp_all; done)
                | (unfold vcheck vheadB vokB; simp_all; omega)
            ·
              refine Sat.skip ?_
              refine at_n ?_
              refine Sat.seq ?_
              refine Sat.region ?_
              refine Tr.assign rfl rfl rfl ?_
              refine Tr.nil ?_
              refine at_n ?_
              refine Sat.ret ?_
              refine en_r ?_
              refine ⟨_, [], res_tmp rfl rfl, sP, sP, ?_, rfl⟩
              first
                | (unfold vcheck vheadB vokB; simp_all; done)
                | (unfold vcheck vheadB vokB; simp_all; omega)
          ·
            first | have hs6_3 := of_decide_eq_true hs6_30 | have hs6_3 := of_decide_eq_false hs6_30 | have hs6_3 := nd_t hs6_30 | have hs6_3 := nd_f hs6_30 | have hs6_3 := hs6_30
            refine Tr.move rfl rfl rfl ?_
            refine Tr.skp rfl rfl ?_
            refine Tr.skp rfl rfl ?_
            refine Tr.skp rfl rfl ?_
            refine Tr.skp rfl rfl ?_
            refine Tr.skp rfl rfl ?_
            refine Tr.pick rfl rfl rfl rfl rfl rfl ?_
            refine Tr.assign rfl rfl rfl ?_
            refine Tr.nil ?_
            refine bl_n ?_
            refine at_n ?_
            refine Sat.seq ?_
            refine Sat.seq ?_
            refine Sat.region ?_
            refine Tr.move rfl rfl rfl ?_
            refine Tr.not rfl rfl rfl ?_
            refine Tr.nil ?_
            refine at_n ?_
            refine Sat.cond_t rfl rfl ?_
            refine Sat.seq ?_
            refine Sat.region ?_
            refine Tr.assign rfl rfl rfl ?_
            refine Tr.nil ?_
            refine at_n ?_
            refine Sat.ret ?_
            refine at_r ?_
            refine en_r ?_
            refine ⟨_, [], res_tmp rfl rfl, sP, sP, ?_, rfl⟩
            first
              | (unfold vcheck vheadB vokB; simp_all; done)
              | (unfold vcheck vheadB vokB; simp_all; omega)
        ·
          refine Sat.seq ?_
          refine Sat.seq ?_
          refine Sat.region ?_
          refine Tr.eqi rfl rfl rfl rfl rfl ?_
          refine Tr.assign rfl rfl rfl ?_
          refine Tr.nil ?_
          refine at_n ?_
          first
            | refine Sat.condP rfl (fun hc2 => ?_) (fun hc2 => ?_)
            | refine Sat.condNP rfl (fun hc2 => ?_) (fun hc2 => ?_)
            | refine Sat.cond rfl (fun hc2 => ?_) (fun hc2 => ?_)
          ·
            refine Sat.skip ?_
            refine at_n ?_
            first
              | refine Sat.condP rfl (fun hc3 => ?_) (fun hc3 => ?_)
              | refine Sat.condNP rfl (fun hc3 => ?_) (fun hc3 => ?_)
              | refine Sat.cond rfl (fun hc3 => ?_) (fun hc3 => ?_)
            ·
              refine Sat.region ?_
              refine Tr.fld rfl rfl rfl Try.underlying38 rfl Sz24 dE _ rfl ?_
              refine Tr.load1 rfl rfl rfl Try.underlying24 rfl mM (by first | exact Vote.get_fProof (by first | (simp [hV.l_fValue]; done) | exact oK  | exact hV) | exact (by first | rfl | exact get_words (by first | omega | (simp [hV.l_fValue]; done) | (simp [hV.l_fValue]; omega)) | exact get_bytes (by first | omega | (simp [hV.l_fValue]; done) | (simp [hV.l_fValue]; omega)) | exact get_ints (by first | omega | (simp [hV.l_fValue]; done) | (simp [hV.l_fValue]; omega)))) ?_
              refine Tr.eqi rfl rfl rfl rfl rfl ?_
              refine Tr.assign rfl rfl rfl ?_
              refine Tr.nil ?_
              refine bl_n ?_
              refine at_n ?_
              refine Sat.seq ?_
              refine Sat.seq ?_
              refine Sat.region ?_
              refine Tr.move rfl rfl rfl ?_
              refine Tr.not rfl rfl rfl ?_
              refine Tr.nil ?_
              refine at_n ?_
              first
                | refine Sat.condP rfl (fun hc4 => ?_) (fun hc4 => ?_)
                | refine Sat.condNP rfl (fun hc4 => ?_) (fun hc4 => ?_)
                | refine Sat.cond rfl (fun hc4 => ?_) (fun hc4 => ?_)
              ·
                refine Sat.seq ?_
                refine Sat.region ?_
                refine Tr.assign rfl rfl rfl ?_
                refine Tr.nil ?_
                refine at_n ?_
                refine Sat.ret ?_
                refine at_r ?_
                refine en_r ?_
                refine ⟨_, [], res_tmp rfl rfl, sP, sP, ?_, rfl⟩
                first
                  | (unfold vcheck vheadB vokB; simp_all; done)
                  | (unfold vcheck vheadB vokB; simp_all; omega)
              ·
                refine Sat.skip ?_
                refine at_n ?_
                refine Sat.seq ?_
                refine Sat.region ?_
                refine Tr.assign rfl rfl rfl ?_
                refine Tr.nil ?_
                refine at_n ?_
                refine Sat.ret ?_
                refine en_r ?_
                refine ⟨_, [], res_tmp rfl rfl, sP, sP, ?_, rfl⟩
                first
                  | (unfold vcheck vheadB vokB; simp_all; done)
                  | (unfold vcheck vheadB vokB; simp_all; omega)
            ·
              refine Sat.skip ?_
              refine bl_n ?_
              refine at_n ?_
              refine Sat.seq ?_
              refine Sat.seq ?_
              refine Sat.region ?_
              refine Tr.move rfl rfl rfl ?_
              refine Tr.not rfl rfl rfl ?_
              refine Tr.nil ?_
              refine at_n ?_
              refine Sat.cond_t rfl rfl ?_
              refine Sat.seq ?_
              refine Sat.region ?_
              refine Tr.assign rfl rfl rfl ?_
              refine Tr.nil ?_
              refine at_n ?_
              refine Sat.ret ?_
              refine at_r ?_
              refine en_r ?_
              refine ⟨_, [], res_tmp rfl rfl, sP, sP, ?_, rfl⟩
              first
                | (unfold vcheck vheadB vokB; simp_all; done)
                | (unfold vcheck vheadB vokB; simp_all; omega)
          ·
            refine Sat.region ?_
            refine Tr.eqi rfl rfl rfl rfl rfl ?_
            refine Tr.assign rfl rfl rfl ?_
            refine Tr.nil ?_
            refine at_n ?_
            first
              | refine Sat.condP rfl (fun hc3 => ?_) (fun hc3 => ?_)
              | refine Sat.condNP rfl (fun hc3 => ?_) (fun hc3 => ?_)
              | refine Sat.cond rfl (fun hc3 => ?_) (fun hc3 => ?_)
            ·
              refine Sat.region ?_
              refine Tr.fld rfl rfl rfl Try.underlying38 rfl Sz24 dE _ rfl ?_
              refine Tr.load1 rfl rfl rfl Try.underlying24 rfl mM (by first | exact Vote.get_fProof (by first | (simp [hV.l_fValue]; done) | exact oK  | exact hV) | exact (by first | rfl | exact get_words (by first | omega | (simp [hV.l_fValue]; done) | (simp [hV.l_fValue]; omega)) | exact get_bytes (by first | omega | (simp [hV.l_fValue]; done) | (simp [hV.l_fValue]; omega)) | exact get_ints (by first | omega | (simp [hV.l_fValue]; done) | (simp [hV.l_fValue]; omega)))) ?_
              refine Tr.eqi rfl rfl rfl rfl rfl ?_
              refine Tr.assign rfl rfl rfl ?_
              refine Tr.nil ?_
              refine bl_n ?_
              refine at_n ?_
              refine Sat.seq ?_
              refine Sat.seq ?_
              refine Sat.region ?_
              refine Tr.move rfl rfl rfl ?_
              refine Tr.not rfl rfl rfl ?_
              refine Tr.nil ?_
              refine at_n ?_
              first
                | refine Sat.condP rfl (fun hc4 => ?_) (fun hc4 => ?_)
                | refine Sat.condNP rfl (fun hc4 => ?_) (fun hc4 => ?_)
                | refine Sat.cond rfl (fun hc4 => ?_) (fun hc4 => ?_)
              ·
                refine Sat.seq ?_
                refine Sat.region ?_
                refine Tr.assign rfl rfl rfl ?_
                refine Tr.nil ?_
                refine at_n ?_
                refine Sat.ret ?_
                refine at_r ?_
                refine en_r ?_
                refine ⟨_, [], res_tmp rfl rfl, sP, sP, ?_, rfl⟩
                first
                  | (unfold vcheck vheadB vokB; simp_all; done)
                  | (unfold vcheck vheadB vokB; simp_all; omega)
              ·
                refine Sat.skip ?_
                refine at_n ?_
                refine Sat.seq ?_
                refine Sat.region ?_
                refine Tr.assign rfl rfl rfl ?_
                refine Tr.nil ?_
                refine at_n ?_
                refine Sat.ret ?_
                refine en_r ?_
                refine ⟨_, [], res_tmp rfl rfl, sP, sP, ?_, rfl⟩
                first
                  | (unfold vcheck vheadB vokB; simp_all; done)
                  | (unfold vcheck vheadB vokB; simp_all; omega)
            ·
              refine Sat.skip ?_
              refine bl_n ?_
              refine at_n ?_
              refine Sat.seq ?_
              refine Sat.seq ?_
              refine Sat.region ?_
              refine Tr.move rfl rfl rfl ?_
              refine Tr.not rfl rfl rfl ?_
              refine Tr.nil ?_
              refine at_n ?_
              refine Sat.cond_t rfl rfl ?_
              refine Sat.seq ?_
              refine Sat.region ?_
              refine Tr.assign rfl rfl rfl ?_
              refine Tr.nil ?_
              refine at_n ?_
              refine Sat.ret ?_
              refine at_r ?_
              refine en_r ?_
              refine ⟨_, [], res_tmp rfl rfl, sP, sP, ?_, rfl⟩
              first
                | (unfold vcheck vheadB vokB; simp_all; done)
                | (unfold vcheck vheadB vokB; simp_all; omega)

end Go.Proofs.Ytlgbmfokgnoocaa
end

section
namespace Go.Proofs.Ytlgbmfokgnoocaa
open Go Hw
set_option linter.unusedVariables false
set_option linter.unusedSimpArgs false

/-- the head before -/
def lastH (ls : List (List UInt8)) (k : Nat) : List UInt8 := if k = 0 then List.replicate 32 0 else ls.getD (k - 1) []
theorem lastH_succ (ls : List (List UInt8)) (k : Nat) : lastH ls (k + 1) = ls.getD k [] := by simp [lastH]
def headBad (ls : List (List UInt8)) (k : Nat) : Bool := decide ((0 : Int) ≤ cmpB (lastH ls k) (ls.getD k []))
def headsBad (ls : List (List UInt8)) : Bool := (List.range ls.length).any (headBad ls)
theorem headsBad_at {ls : List (List UInt8)} {k : Nat} (hk : k < ls.length) (h : headBad ls k = true) : headsBad ls = true := by
  rw [headsBad, List.any_eq_true]; exact ⟨k, List.mem_range.2 hk, h⟩
theorem headsBad_not {ls : List (List UInt8)} (h : ∀ j, j < ls.length → headBad ls j = false) : headsBad ls = false := by
  rw [headsBad, List.any_eq_false]; intro x hx; rw [h x (List.mem_range.1 hx)]; simp
def cheadB (h : UInt64) (prev : List UInt8) (n : Nat) : Bool := decide ((h.toNat : Int) < 1) || (decide ((4294967295 : Int) < (h.toNat : Int)) || (!decide (decide (prev = List.replicate 32 0) = decide ((h.toNat : Int) = 1)) || (decide ((n : Int) < 1) || decide ((32 : Int) < (n : Int)))))
def DCut.check (D : DCut) : Int := if cheadB D.dHeight D.dPrev D.dHeads.length = true then 2 else if headsBad D.dHeads = true then 2 else 0
theorem cut_bad1 {D : DCut} (h : cheadB D.dHeight D.dPrev D.dHeads.length = true) : D.check = 2 := if_pos h
theorem cut_bad2 {D : DCut} (h : ¬ cheadB D.dHeight D.dPrev D.dHeads.length = true) (hb : headsBad D.dHeads = true) : D.check = 2 := by unfold DCut.check; rw [if_neg h, if_pos hb]
theorem cut_good {D : DCut} (h : ¬ cheadB D.dHeight D.dPrev D.dHeads.length = true) (hb : headsBad D.dHeads = false) : D.check = 0 := by unfold DCut.check; rw [if_neg h, if_neg (by rw [hb]; simp)]

set_option maxRecDepth 100000 in
set_option maxHeartbeats 4000000 in
theorem cut_check (C : Cut) (D : DCut) : Meets Try.prog 49 [agg C.cells] [] (fun W => CutIs W C D) (fun v out => v = i64 D.check ∧ out = []) := by
  intro W hW
  have hB := hW.ok
  have hcx : C.fHeads.n ≤ maxLen := hW.fHeads.max
  simp only [maxLen] at hcx
  have hcn := hW.fHeads.cap
  have hll := hW.fHeads.len
  have eH := hW.fHeight
  have eP := hW.fPrev
  have hlst : True := trivial
  refine calls_of (hp0 := []) Try.func49 rfl 52 Try.ntmps49 rfl (HRep.nil _) ?_
  refine Sat.seq ?_
  refine Sat.region ?_
  refine Tr.boxA rfl rfl ?_
  intro n1 hn1 hf1
  refine Tr.assign rfl rfl rfl ?_
  refine Tr.nil ?_
  refine at_n ?_
  refine Sat.seq ?_
  refine Sat.region ?_
  refine Tr.build (cs := bytesV (List.replicate 32 0)) rfl rfl rfl (fun w => by kernel_rfl) ?_
  refine Tr.alloc (cs := (bytesV (List.replicate 32 0))) rfl Zr25 rfl ?_
  intro n3 hn3 hf3
  first
    | refine Tr.storeAll rfl rfl rfl rfl cB Sz25 (by first | assumption | (simp [hB.l_fPrev, hlst]; done) | (rw [bytesV, List.length_map]; assumption)) mM (by first | assumption | (simp [hB.l_fPrev, hlst]; done) | (rw [bytesV, List.length_map]; assumption)) uU ?_
    | refine Tr.storeN _ rfl rfl rfl rfl rfl cB Sz25 (by first | assumption | (simp [hB.l_fPrev, hlst]; done) | (rw [bytesV, List.length_map]; assumption)) mM (by first | assumption | (simp [hB.l_fPrev, hlst]; done) | (rw [bytesV, List.length_map]; assumption)) (by exact rfl) uU ?_
  refine Tr.nil ?_
  refine at_n ?_
  refine Sat.seq ?_
  refine Sat.seq ?_
  refine Sat.draw [(0, 0), (1, 1), (0, 2), (0, 3), (0, 4), (1, 5), (0, 6), (0, 7), (0, 8), (0, 9), (1, 10), (1, 11), (0, 12), (0, 13), (1, 14), (0, 15), (0, 16), (0, 17), (0, 18), (0, 19), (1, 20), (0, 21), (0, 22), (0, 23), (0, 24), (0, 25), (1, 26), (0, 27), (0, 28), (0, 29)] Mixed (by kernel_rfl) ?_
  refine Tr.fld rfl rfl rfl Try.underlying33 rfl Sz24 dE _ rfl ?_
  refine Tr.load1 rfl rfl rfl Try.underlying24 rfl mM (by first | exact Cut.get_fHeight (by first | (simp [hB.l_fPrev, hlst]; done) | exact oK  | exact hW.ok) | exact (by first | rfl | exact get_words (by first | omega | (simp [hB.l_fPrev, hlst]; done) | (simp [hB.l_fPrev, hlst]; omega)) | exact get_bytes (by first | omega | (simp [hB.l_fPrev, hlst]; done) | (simp [hB.l_fPrev, hlst]; omega)) | exact get_ints (by first | omega | (simp [hB.l_fPrev, hlst]; done) | (simp [hB.l_fPrev, hlst]; omega)))) ?_
  refine two (fun r hr k => Tr.lss rfl rfl rfl rfl hr k) (fun hs2_20 => ?_) (fun hs2_20 => ?_)
  ·
    first | have hs2_2 := of_decide_eq_true hs2_20 | have hs2_2 := of_decide_eq_false hs2_20 | have hs2_2 := nd_t hs2_20 | have hs2_2 := nd_f hs2_20 | have hs2_2 := hs2_20
    refine Tr.move rfl rfl rfl ?_
    refine Tr.skp rfl rfl ?_
    refine Tr.skp rfl rfl ?_
    refine Tr.skp rfl rfl ?_
    refine Tr.pick rfl rfl rfl rfl rfl rfl ?_
    refine Tr.move rfl rfl rfl ?_
    refine Tr.skp rfl rfl ?_
    refine Tr.skp rfl rfl ?_
    refine Tr.skp rfl rfl ?_
    refine Tr.skp rfl rfl ?_
    refine Tr.skp rfl rfl ?_
    refine Tr.skp rfl rfl ?_
    refine Tr.skp rfl rfl ?_
    refine Tr.skp rfl rfl ?_
    refine Tr.pick rfl rfl rfl rfl rfl rfl ?_
    refine Tr.move rfl rfl rfl ?_
    refine Tr.skp rfl rfl ?_
    refine Tr.skp rfl rfl ?_
    refine Tr.skp rfl rfl ?_
    refine Tr.skp rfl rfl ?_
    refine Tr.pick rfl rfl rfl rfl rfl rfl ?_
    refine Tr.move rfl rfl rfl ?_
    refine Tr.skp rfl rfl ?_
    refine Tr.skp rfl rfl ?_
    refine Tr.skp rfl rfl ?_
    refine Tr.skp rfl rfl ?_
    refine Tr.pick rfl rfl rfl rfl rfl rfl ?_
    refine Tr.nil ?_
    refine at_n ?_
    refine Sat.cond_t rfl rfl ?_
    refine Sat.seq ?_
    refine Sat.region ?_
    refine Tr.assign rfl rfl rfl ?_
    refine Tr.nil ?_
    refine at_n ?_
    refine Sat.ret ?_
    refine at_r ?_
    refine en_r ?_
    refine ⟨_, [], res_tmp rfl rfl, sP, sP, ?_, rfl⟩
    first
      | exact congrArg i64 (cut_good hnb (headsBad_not (by rw [hll]; exact hg))).symm
      | exact congrArg i64 (cut_bad2 hnb (headsBad_at (k := p.1) oM (by unfold headBad; rw [← hle]; exact decide_eq_true hc2))).symm
      | exact congrArg i64 (cut_bad1 (by unfold cheadB; simp_all)).symm
  ·
    first | have hs2_2 := of_decide_eq_true hs2_20 | have hs2_2 := of_decide_eq_false hs2_20 | have hs2_2 := nd_t hs2_20 | have hs2_2 := nd_f hs2_20 | have hs2_2 := hs2_20
    refine Tr.move rfl rfl rfl ?_
    refine Tr.fld rfl rfl rfl Try.underlying33 rfl Sz24 dE _ rfl ?_
    refine Tr.load1 rfl rfl rfl Try.underlying24 rfl mM (by first | exact Cut.get_fHeight (by first | (simp [hB.l_fPrev, hlst]; done) | exact oK  | exact hW.ok) | exact (by first | rfl | exact get_words (by first | omega | (simp [hB.l_fPrev, hlst]; done) | (simp [hB.l_fPrev, hlst]; omega)) | exact get_bytes (by first | omega | (simp [hB.l_fPrev, hlst]; done) | (simp [hB.l_fPrev, hlst]; omega)) | exact get_ints (by first | omega | (simp [hB.l_fPrev, hlst]; done) | (simp [hB.l_fPrev, hlst]; omega)))) ?_
    refine two (fun r hr k => Tr.gtr rfl rfl rfl rfl hr k) (fun hs2_60 => ?_) (fun hs2_60 => ?_)
    ·
      first | have hs2_6 := of_decide_eq_true hs2_60 | have hs2_6 := of_decide_eq_false hs2_60 | have hs2_6 := nd_t hs2_60 | have hs2_6 := nd_f hs2_60 | have hs2_6 := hs2_60
      refine Tr.pick rfl rfl rfl rfl rfl rfl ?_
      refine Tr.move rfl rfl rfl ?_
      refine Tr.skp rfl rfl ?_
      refine Tr.skp rfl rfl ?_
      refine Tr.skp rfl rfl ?_
      refine Tr.skp rfl rfl ?_
      refine Tr.skp rfl rfl ?_
      refine Tr.skp rfl rfl ?_
      refine Tr.skp rfl rfl ?_
      refine Tr.skp rfl rfl ?_
      refine Tr.pick rfl rfl rfl rfl rfl rfl ?_
      refine Tr.move rfl rfl rfl ?_
      refine Tr.skp rfl rfl ?_
      refine Tr.skp rfl rfl ?_
      refine Tr.skp rfl rfl ?_
      refine Tr.skp rfl rfl ?_
      refine Tr.pick rfl rfl rfl rfl rfl rfl ?_
      refine Tr.move rfl rfl rfl ?_
      refine Tr.skp rfl rfl ?_
      refine Tr.skp rfl rfl ?_
      refine Tr.skp rfl rfl ?_
      refine Tr.skp rfl rfl ?_
      refine Tr.pick rfl rfl rfl rfl rfl rfl ?_
      refine Tr.nil ?_
      refine at_n ?_
      refine Sat.cond_t rfl rfl ?_
      refine Sat.seq ?_
      refine Sat.region ?_
      refine Tr.assign rfl rfl rfl ?_
      refine Tr.nil ?_
      refine at_n ?_
      refine Sat.ret ?_
      refine at_r ?_
      refine en_r ?_
      refine ⟨_, [], res_tmp rfl rfl, sP, sP, ?_, rfl⟩
      first
        | exact congrArg i64 (cut_good hnb (headsBad_not (by rw [hll]; exact hg))).symm
        | exact congrArg i64 (cut_bad2 hnb (headsBad_at (k := p.1) oM (by unfold headBad; rw [← hle]; exact decide_eq_true hc2))).symm
        | exact congrArg i64 (cut_bad1 (by unfold cheadB; simp_all)).symm
    ·
      first | have hs2_6 := of_decide_eq_true hs2_60 | have hs2_6 := of_decide_eq_false hs2_60 | have hs2_6 := nd_t hs2_60 | have hs2_6 := nd_f hs2_60 | have hs2_6 := hs2_60
      refine Tr.pick rfl rfl rfl rfl rfl rfl ?_
      refine Tr.move rfl rfl rfl ?_
      refine Tr.fld rfl rfl rfl Try.underlying33 rfl Sz25 dE _ rfl ?_
      first
        | refine Tr.loadN (bytesV _) rfl rfl rfl Try.underlying25 rfl Sz25 mM (Cut.row_fPrev (by first | (simp [hB.l_fPrev, hlst]; done) | exact oK  | exact hW.ok)) (Cut.rl_fPrev (by first | (simp [hB.l_fPrev, hlst]; done) | exact oK  | exact hW.ok)) ?_
      first
        | refine Tr.loadAll rfl rfl rfl Try.underlying25 rfl Sz25 mM (by first | assumption | (simp [hB.l_fPrev, hlst]; done) | (rw [bytesV, List.length_map]; assumption)) ?_
        | refine Tr.loadN _ rfl rfl rfl Try.underlying25 rfl Sz25 mM (by exact rfl) (by first | assumption | (simp [hB.l_fPrev, hlst]; done) | (rw [bytesV, List.length_map]; assumption)) ?_
      refine Tr.eql_bytes rfl rfl rfl rfl Try.eqGuardType25 Try.underlying25 Try.underlying5 Sz5 (by first | assumption | (simp [hB.l_fPrev, hlst]; done) | (rw [bytesV, List.length_map]; assumption)) (by first | assumption | (simp [hB.l_fPrev, hlst]; done) | (rw [bytesV, List.length_map]; assumption)) rfl ?_
      refine Tr.fld rfl rfl rfl Try.underlying33 rfl Sz24 dE _ rfl ?_
      refine Tr.load1 rfl rfl rfl Try.underlying24 rfl mM (by first | exact Cut.get_fHeight (by first | (simp [hB.l_fPrev, hlst]; done) | exact oK  | exact hW.ok) | exact (by first | rfl | exact get_words (by first | omega | (simp [hB.l_fPrev, hlst]; done) | (simp [hB.l_fPrev, hlst]; omega)) | exact get_bytes (by first | omega | (simp [hB.l_fPrev, hlst]; done) | (simp [hB.l_fPrev, hlst]; omega)) | exact get_ints (by first | omega | (simp [hB.l_fPrev, hlst]; done) | (simp [hB.l_fPrev, hlst]; omega)))) ?_
      refine Tr.eqi rfl rfl rfl rfl rfl ?_
      refine two (fun r hr k => Tr.neb rfl rfl rfl rfl Try.underlying4 hr k) (fun hs2_160 => ?_) (fun hs2_160 => ?_)
      ·
        first | have hs2_16 := of_decide_eq_true hs2_160 | have hs2_16 := of_decide_eq_false hs2_160 | have hs2_16 := nd_t hs2_160 | have hs2_16 := nd_f hs2_160 | have hs2_16 := hs2_160
        refine Tr.pick rfl rfl rfl rfl rfl rfl ?_
        refine Tr.move rfl rfl rfl ?_
        refine Tr.skp rfl rfl ?_
        refine Tr.skp rfl rfl ?_
        refine Tr.skp rfl rfl ?_
        refine Tr.skp rfl rfl ?_
        refine Tr.pick rfl rfl rfl rfl rfl rfl ?_
        refine Tr.move rfl rfl rfl ?_
        refine Tr.skp rfl rfl ?_
        refine Tr.skp rfl rfl ?_
        refine Tr.skp rfl rfl ?_
        refine Tr.skp rfl rfl ?_
        refine Tr.pick rfl rfl rfl rfl rfl rfl ?_
        refine Tr.nil ?_
        refine at_n ?_
        refine Sat.cond_t rfl rfl ?_
        refine Sat.seq ?_
        refine Sat.region ?_
        refine Tr.assign rfl rfl rfl ?_
        refine Tr.nil ?_
        refine at_n ?_
        refine Sat.ret ?_
        refine at_r ?_
        refine en_r ?_
        refine ⟨_, [], res_tmp rfl rfl, sP, sP, ?_, rfl⟩
        first
          | exact congrArg i64 (cut_good hnb (headsBad_not (by rw [hll]; exact hg))).symm
          | exact congrArg i64 (cut_bad2 hnb (headsBad_at (k := p.1) oM (by unfold headBad; rw [← hle]; exact decide_eq_true hc2))).symm
          | exact congrArg i64 (cut_bad1 (by unfold cheadB; simp_all)).symm
      ·
        first | have hs2_16 := of_decide_eq_true hs2_160 | have hs2_16 := of_decide_eq_false hs2_160 | have hs2_16 := nd_t hs2_160 | have hs2_16 := nd_f hs2_160 | have hs2_16 := hs2_160
        refine Tr.pick rfl rfl rfl rfl rfl rfl ?_
        refine Tr.move rfl rfl rfl ?_
        refine Tr.fld rfl rfl rfl Try.underlying33 rfl Sz26 dE _ rfl ?_
        refine Tr.load1 rfl rfl rfl Try.underlying26 rfl mM (by first | exact Cut.get_fHeads (by first | (simp [hB.l_fPrev, hlst]; done) | exact oK  | exact hW.ok) | exact (by first | rfl | exact get_words (by first | omega | (simp [hB.l_fPrev, hlst]; done) | (simp [hB.l_fPrev, hlst]; omega)) | exact get_bytes (by first | omega | (simp [hB.l_fPrev, hlst]; done) | (simp [hB.l_fPrev, hlst]; omega)) | exact get_ints (by first | omega | (simp [hB.l_fPrev, hlst]; done) | (simp [hB.l_fPrev, hlst]; omega)))) ?_
        refine Tr.lenSl rfl rfl rfl Try.underlying26 ?_
        refine two (fun r hr k => Tr.lss rfl rfl rfl rfl hr k) (fun hs2_220 => ?_) (fun hs2_220 => ?_)
        ·
          first | have hs2_22 := of_decide_eq_true hs2_220 | have hs2_22 := of_decide_eq_false hs2_220 | have hs2_22 := nd_t hs2_220 | have hs2_22 := nd_f hs2_220 | have hs2_22 := hs2_220
          refine Tr.pick rfl rfl rfl rfl rfl rfl ?_
          refine Tr.move rfl rfl rfl ?_
          refine Tr.skp rfl rfl ?_
          refine Tr.skp rfl rfl ?_
          refine Tr.skp rfl rfl ?_
          refine Tr.skp rfl rfl ?_
          refine Tr.pick rfl rfl rfl rfl rfl rfl ?_
          refine Tr.nil ?_
          refine at_n ?_
          refine Sat.cond_t rfl rfl ?_
          refine Sat.seq ?_
          refine Sat.region ?_
          refine Tr.assign rfl rfl rfl ?_
          refine Tr.nil ?_
          refine at_n ?_
          refine Sat.ret ?_
          refine at_r ?_
          refine en_r ?_
          refine ⟨_, [], res_tmp rfl rfl, sP, sP, ?_, rfl⟩
          first
            | exact congrArg i64 (cut_good hnb (headsBad_not (by rw [hll]; exact hg))).symm
            | exact congrArg i64 (cut_bad2 hnb (headsBad_at (k := p.1) oM (by unfold headBad; rw [← hle]; exact decide_eq_true hc2))).symm
            | exact congrArg i64 (cut_bad1 (by unfold cheadB; simp_all)).symm
        ·
          first | have hs2_22 := of_decide_eq_true hs2_220 | have hs2_22 := of_decide_eq_false hs2_220 | have hs2_22 := nd_t hs2_220 | have hs2_22 := nd_f hs2_220 | have hs2_22 := hs2_220
          refine Tr.pick rfl rfl rfl rfl rfl rfl ?_
          refine Tr.move rfl rfl rfl ?_
          refine Tr.fld rfl rfl rfl Try.underlying33 rfl Sz26 dE _ rfl ?_
          refine Tr.load1 rfl rfl rfl Try.underlying26 rfl mM (by first | exact Cut.get_fHeads (by first | (simp [hB.l_fPrev, hlst]; done) | exact oK  | exact hW.ok) | exact (by first | rfl | exact get_words (by first | omega | (simp [hB.l_fPrev, hlst]; done) | (simp [hB.l_fPrev, hlst]; omega)) | exact get_bytes (by first | omega | (simp [hB.l_fPrev, hlst]; done) | (simp [hB.l_fPrev, hlst]; omega)) | exact get_ints (by first | omega | (simp [hB.l_fPrev, hlst]; done) | (simp [hB.l_fPrev, hlst]; omega)))) ?_
          refine Tr.lenSl rfl rfl rfl Try.underlying26 ?_
          refine Tr.gtr rfl rfl rfl rfl rfl ?_
          refine Tr.pick rfl rfl rfl rfl rfl rfl ?_
          refine Tr.nil ?_
          refine at_n ?_
          first
            | refine Sat.condP rfl (fun hc0 => ?_) (fun hc0 => ?_)
            | refine Sat.condNP rfl (fun hc0 => ?_) (fun hc0 => ?_)
            | refine Sat.cond rfl (fun hc0 => ?_) (fun hc0 => ?_)
          ·
            refine Sat.seq ?_
            refine Sat.region ?_
            refine Tr.assign rfl rfl rfl ?_
            refine Tr.nil ?_
            refine at_n ?_
            refine Sat.ret ?_
            refine at_r ?_
            refine en_r ?_
            refine ⟨_, [], res_tmp rfl rfl, sP, sP, ?_, rfl⟩
            first
              | exact congrArg i64 (cut_good hnb (headsBad_not (by rw [hll]; exact hg))).symm
              | exact congrArg i64 (cut_bad2 hnb (headsBad_at (k := p.1) oM (by unfold headBad; rw [← hle]; exact decide_eq_true hc2))).symm
              | exact congrArg i64 (cut_bad1 (by unfold cheadB; simp_all)).symm
          ·
            have hnb : ¬ cheadB D.dHeight D.dPrev D.dHeads.length = true := by unfold cheadB; simp_all
            refine Sat.skip ?_
            refine at_n ?_
            refine Sat.seq ?_
            refine Sat.region ?_
            first
              | refine Tr.loadAll rfl rfl rfl Try.underlying25 rfl Sz25 mM (by first | assumption | (simp [hB.l_fPrev, hlst]; done) | (rw [bytesV, List.length_map]; assumption)) ?_
              | refine Tr.loadN _ rfl rfl rfl Try.underlying25 rfl Sz25 mM (by exact rfl) (by first | assumption | (simp [hB.l_fPrev, hlst]; done) | (rw [bytesV, List.length_map]; assumption)) ?_
            refine Tr.alloc (cs := (bytesV (List.replicate 32 0))) rfl Zr25 rfl ?_
            intro n4 hn4 hf4
            first
              | refine Tr.storeAll rfl rfl rfl rfl cB Sz25 (by first | assumption | (simp [hB.l_fPrev, hlst]; done) | (rw [bytesV, List.length_map]; assumption)) mM (by first | assumption | (simp [hB.l_fPrev, hlst]; done) | (rw [bytesV, List.length_map]; assumption)) uU ?_
              | refine Tr.storeN _ rfl rfl rfl rfl rfl cB Sz25 (by first | assumption | (simp [hB.l_fPrev, hlst]; done) | (rw [bytesV, List.length_map]; assumption)) mM (by first | assumption | (simp [hB.l_fPrev, hlst]; done) | (rw [bytesV, List.length_map]; assumption)) (by exact rfl) uU ?_
            refine Tr.nil ?_
            refine at_n ?_
            refine Sat.seq ?_
            refine Sat.seq ?_
            refine Sat.region ?_
            refine Tr.fld rfl rfl rfl Try.underlying33 rfl Sz26 dE _ rfl ?_
            refine Tr.load1 rfl rfl rfl Try.underlying26 rfl mM (by first | exact Cut.get_fHeads (by first | (simp [hB.l_fPrev, hlst]; done) | exact oK  | exact hW.ok) | exact (by first | rfl | exact get_words (by first | omega | (simp [hB.l_fPrev, hlst]; done) | (simp [hB.l_fPrev, hlst]; omega)) | exact get_bytes (by first | omega | (simp [hB.l_fPrev, hlst]; done) | (simp [hB.l_fPrev, hlst]; omega)) | exact get_ints (by first | omega | (simp [hB.l_fPrev, hlst]; done) | (simp [hB.l_fPrev, hlst]; omega)))) ?_
            refine Tr.lenSl rfl rfl rfl Try.underlying26 ?_
            refine Tr.move rfl rfl rfl ?_
            refine Tr.nil ?_
            refine at_n ?_
            refine Sat.block ?_
            refine Sat.loop (ι := Nat × List UInt8) (fun p => ⟨[(1, ptr n1 0), (4, ptr n4 0), (40, C.fHeads.v), (41, i64 (C.fHeads.n : Int)), (42, i64 (p.1 : Int))], [⟨n4, bytesV p.2, 25, 32⟩, ⟨n1, C.cells, 33, C.cells.length⟩]⟩) (fun p => p.1 ≤ C.fHeads.n ∧ (∀ j, j < p.1 → headBad D.dHeads j = false) ∧ p.2 = lastH D.dHeads p.1 ∧ p.2.length = 32) (fun p => C.fHeads.n - p.1) ((0, List.replicate 32 0)) ?_ ?_ ?_
            · exact ⟨Nat.zero_le _, fun j hj => absurd hj (Nat.not_lt_zero _), rfl, by simp⟩
            · exact weak_of (wk1 rfl (wk1 rfl (wk1 rfl (wk1 rfl (wk1 rfl wk0))))) (wh1 mM (wh1 mM wh0)) nD
            ·
              rintro p ⟨hk, hg, hle, hlst⟩
              refine Sat.seq ?_
              refine Sat.region ?_
              refine Tr.lss rfl rfl rfl rfl rfl ?_
              refine Tr.nil ?_
              refine at_n ?_
              refine Sat.seq ?_
              first
                | refine Sat.condP rfl (fun hc1 => ?_) (fun hc1 => ?_)
                | refine Sat.condNP rfl (fun hc1 => ?_) (fun hc1 => ?_)
                | refine Sat.cond rfl (fun hc1 => ?_) (fun hc1 => ?_)
              ·
                have hk2 : p.1 < C.fHeads.n := by omega
                obtain ⟨b, o, hbp, hbs⟩ := hW.fHeads.see.at (by rw [flatB_length hW.fHeads.row]; omega)
                have hr0 : (D.dHeads.getD p.1 []).length = 32 := getD_len hW.fHeads.row oM
                refine Sat.skip ?_
                refine at_n ?_
                refine Sat.seq ?_
                refine Sat.block ?_
                refine Sat.seq ?_
                refine Sat.region ?_
                refine Tr.idxSlP 32 rfl rfl rfl hbp rfl Try.underlying26 Sz25 p.1 rfl oM ?_
                refine Tr.loadEN (bytesV (D.dHeads.getD (p.1) [])) rfl rfl rfl Try.underlying25 rfl Sz25 sP (by rw [bytesV, List.length_map]; exact getD_len hW.fHeads.row (by rw [hW.fHeads.len]; omega)) (sees_row hW.fHeads.row hbs (by rw [hW.fHeads.len]; omega)) ?_
                refine Tr.alloc (cs := (bytesV (List.replicate 32 0))) rfl Zr25 rfl ?_
                intro n6 hn6 hf6
                first
                  | refine Tr.storeAll rfl rfl rfl rfl cB Sz25 (by first | assumption | (simp [hB.l_fPrev, hlst]; done) | (rw [bytesV, List.length_map]; assumption)) mM (by first | assumption | (simp [hB.l_fPrev, hlst]; done) | (rw [bytesV, List.length_map]; assumption)) uU ?_
                  | refine Tr.storeN _ rfl rfl rfl rfl rfl cB Sz25 (by first | assumption | (simp [hB.l_fPrev, hlst]; done) | (rw [bytesV, List.length_map]; assumption)) mM (by first | assumption | (simp [hB.l_fPrev, hlst]; done) | (rw [bytesV, List.length_map]; assumption)) (by exact rfl) uU ?_
                refine Tr.nil ?_
                refine at_n ?_
                refine Sat.seq ?_
                refine Sat.seq ?_
                refine Sat.region ?_
                first
                  | refine Tr.loadAll rfl rfl rfl Try.underlying25 rfl Sz25 mM (by first | assumption | (simp [hB.l_fPrev, hlst]; done) | (rw [bytesV, List.length_map]; assumption)) ?_
                  | refine Tr.loadN _ rfl rfl rfl Try.underlying25 rfl Sz25 mM (by exact rfl) (by first | assumption | (simp [hB.l_fPrev, hlst]; done) | (rw [bytesV, List.length_map]; assumption)) ?_
                first
                  | refine Tr.loadAll rfl rfl rfl Try.underlying25 rfl Sz25 mM (by first | assumption | (simp [hB.l_fPrev, hlst]; done) | (rw [bytesV, List.length_map]; assumption)) ?_
                  | refine Tr.loadN _ rfl rfl rfl Try.underlying25 rfl Sz25 mM (by exact rfl) (by first | assumption | (simp [hB.l_fPrev, hlst]; done) | (rw [bytesV, List.length_map]; assumption)) ?_
                refine Tr.callV rfl rfl rfl rfl Body67 (block_cmp _ _ hlst hr0) (fun _ _ => trivial) ?_
                refine Tr.geq rfl rfl rfl rfl rfl ?_
                refine Tr.nil ?_
                refine at_n ?_
                first
                  | refine Sat.condP rfl (fun hc2 => ?_) (fun hc2 => ?_)
                  | refine Sat.condNP rfl (fun hc2 => ?_) (fun hc2 => ?_)
                  | refine Sat.cond rfl (fun hc2 => ?_) (fun hc2 => ?_)
                ·
                  refine Sat.seq ?_
                  refine Sat.region ?_
                  refine Tr.assign rfl rfl rfl ?_
                  refine Tr.nil ?_
                  refine at_n ?_
                  refine Sat.ret ?_
                  refine at_r ?_
                  refine bl_r ?_
                  refine at_r ?_
                  refine at_r ?_
                  refine bl_r ?_
                  refine at_r ?_
                  refine en_r ?_
                  refine ⟨_, [], res_tmp rfl rfl, sP, sP, ?_, rfl⟩
                  first
                    | exact congrArg i64 (cut_good hnb (headsBad_not (by rw [hll]; exact hg))).symm
                    | exact congrArg i64 (cut_bad2 hnb (headsBad_at (k := p.1) oM (by unfold headBad; rw [← hle]; exact decide_eq_true hc2))).symm
                    | exact congrArg i64 (cut_bad1 (by unfold cheadB; simp_all)).symm
                ·
                  have hgk : headBad D.dHeads p.1 = false := by unfold headBad; rw [← hle]; exact decide_eq_false hc2
                  refine Sat.skip ?_
                  refine at_n ?_
                  refine Sat.region ?_
                  first
                    | refine Tr.loadAll rfl rfl rfl Try.underlying25 rfl Sz25 mM (by first | assumption | (simp [hB.l_fPrev, hlst]; done) | (rw [bytesV, List.length_map]; assumption)) ?_
                    | refine Tr.loadN _ rfl rfl rfl Try.underlying25 rfl Sz25 mM (by exact rfl) (by first | assumption | (simp [hB.l_fPrev, hlst]; done) | (rw [bytesV, List.length_map]; assumption)) ?_
                  first
                    | refine Tr.storeAll rfl rfl rfl rfl cB Sz25 (by first | assumption | (simp [hB.l_fPrev, hlst]; done) | (rw [bytesV, List.length_map]; assumption)) mM (by first | assumption | (simp [hB.l_fPrev, hlst]; done) | (rw [bytesV, List.length_map]; assumption)) uU ?_
                    | refine Tr.storeN _ rfl rfl rfl rfl rfl cB Sz25 (by first | assumption | (simp [hB.l_fPrev, hlst]; done) | (rw [bytesV, List.length_map]; assumption)) mM (by first | assumption | (simp [hB.l_fPrev, hlst]; done) | (rw [bytesV, List.length_map]; assumption)) (by exact rfl) uU ?_
                  refine Tr.nil ?_
                  refine bl_n ?_
                  refine at_n ?_
                  refine Sat.region ?_
                  refine Tr.add_i64 rfl rfl rfl rfl oM ?_
                  refine Tr.move rfl rfl rfl ?_
                  refine Tr.nil ?_
                  refine at_n ?_
                  exact ⟨(p.1 + 1, D.dHeads.getD p.1 []), ⟨by simp only []; omega, fun j hj => by rcases Nat.lt_succ_iff_lt_or_eq.1 hj with h | rfl; exact hg j h; exact hgk, (lastH_succ _ _).symm, hr0⟩, by simp only []; omega, weak_of (wk1 rfl (wk1 rfl (wk1 rfl (wk1 rfl (wk1 rfl wk0))))) (wh1 mM (wh1 mM wh0)) nD⟩
              ·
                have hpe : p.1 = C.fHeads.n := by omega
                rw [hpe] at hg
                refine Sat.exit ?_
                refine at_x ?_
                refine at_x ?_
                refine bl_h ?_
                refine at_n ?_
                refine Sat.seq ?_
                refine Sat.region ?_
                refine Tr.assign rfl rfl rfl ?_
                refine Tr.nil ?_
                refine at_n ?_
                refine Sat.ret ?_
                refine en_r ?_
                refine ⟨_, [], res_tmp rfl rfl, sP, sP, ?_, rfl⟩
                first
                  | exact congrArg i64 (cut_good hnb (headsBad_not (by rw [hll]; exact hg))).symm
                  | exact congrArg i64 (cut_bad2 hnb (headsBad_at (k := p.1) oM (by unfold headBad; rw [← hle]; exact decide_eq_true hc2))).symm
                  | exact congrArg i64 (cut_bad1 (by unfold cheadB; simp_all)).symm

end Go.Proofs.Ytlgbmfokgnoocaa
end

section
namespace Go.Proofs.Ytlgbmfokgnoocaa
open Go Hw
set_option linter.unusedVariables false
set_option linter.unusedSimpArgs false

def DCut.body (D : DCut) (k : Nat) : List UInt8 := numB D.dHeight ++ D.dPrev ++ numB (UInt64.ofNat D.dHeads.length) ++ (D.dHeads.take k).flatten
def DCut.bytes (D : DCut) : List UInt8 := D.body D.dHeads.length
def cutR (D : DCut) : List UInt8 := if D.check = 0 then D.bytes else []
theorem DCut.small {D : DCut} (h : D.check = 0) : D.dHeads.length ≤ 32 := by
  unfold DCut.check at h
  by_cases h1 : cheadB D.dHeight D.dPrev D.dHeads.length = true
  · rw [if_pos h1] at h; cases h
  · unfold cheadB at h1
    simp at h1
    omega
theorem DCut.body_len {D : DCut} (hp : D.dPrev.length = 32) (hr : ∀ l ∈ D.dHeads, l.length = 32) {k : Nat} (hk : k ≤ D.dHeads.length) : (D.body k).length = szN D.dHeight.toNat + 32 + szN (UInt64.ofNat D.dHeads.length).toNat + k * 32 := by
  simp only [DCut.body, List.length_append, numB_length, hp, flatten_take_len hr hk]
theorem DCut.body_step {D : DCut} {k : Nat} (hk : k < D.dHeads.length) : D.body (k + 1) = D.body k ++ D.dHeads.getD k [] := by
  rw [DCut.body, flatten_take_step hk, ← List.append_assoc]; rfl
theorem cutb_start {C : Cut} {D : DCut} {W : World} {s : Sl} {bl : List Blk} {E : TypeId} (hW : CutIs W C D) (h : Acc s bl (bytesV ([] ++ numB C.fHeight) ++ bytesV C.fPrev ++ bytesV ([] ++ numB (UInt64.ofNat C.fHeads.n))) E (0 + szN C.fHeight.toNat + 32 + (0 + szN (UInt64.ofNat C.fHeads.n).toNat)) 1) : Acc s bl (bytesV (D.body 0)) E (szN D.dHeight.toNat + 32 + szN (UInt64.ofNat D.dHeads.length).toNat + 0 * 32) 1 := by
  have e : bytesV (D.body 0) = bytesV ([] ++ numB C.fHeight) ++ bytesV C.fPrev ++ bytesV ([] ++ numB (UInt64.ofNat C.fHeads.n)) := by simp [DCut.body, hW.fHeight, hW.fPrev, hW.fHeads.len, bytesV]
  rw [e, ← hW.fHeight, hW.fHeads.len, show szN C.fHeight.toNat + 32 + szN (UInt64.ofNat C.fHeads.n).toNat + 0 * 32 = 0 + szN C.fHeight.toNat + 32 + (0 + szN (UInt64.ofNat C.fHeads.n).toNat) by omega]
  exact h
theorem DCut.bytes_small {D : DCut} (h : D.check = 0) (hp : D.dPrev.length = 32) (hr : ∀ l ∈ D.dHeads, l.length = 32) : D.bytes.length ≤ 2000 := by
  have := D.small h
  have hz1 := szN_pos D.dHeight.toNat
  have hz2 := szN_pos (UInt64.ofNat D.dHeads.length).toNat
  rw [DCut.bytes, DCut.body_len hp hr (Nat.le_refl _)]
  omega

set_option maxRecDepth 100000 in
set_option maxHeartbeats 4000000 in
theorem cut_bytes (C : Cut) (D : DCut) : Meets Try.prog 25 [agg C.cells] [] (fun W => CutIs W C D) (fun v out => ∃ s, v = .tuple #[s.v, i64 D.check] ∧ Acc s out (bytesV (cutR D)) 5 (cutR D).length 1) := by
  intro W hW
  have hB := hW.ok
  have hll := hW.fHeads.len
  have hz1 := szN_pos C.fHeight.toNat
  have hz2 := szN_pos (UInt64.ofNat C.fHeads.n).toNat
  have hz3 := szN_pos D.dHeight.toNat
  have hz4 := szN_pos (UInt64.ofNat D.dHeads.length).toNat
  refine calls_of (hp0 := []) Try.func25 rfl 39 Try.ntmps25 rfl (HRep.nil _) ?_
  refine Sat.seq ?_
  refine Sat.region ?_
  refine Tr.boxA rfl rfl ?_
  intro n1 hn1 hf1
  refine Tr.assign rfl rfl rfl ?_
  refine Tr.assign rfl rfl rfl ?_
  refine Tr.nil ?_
  refine at_n ?_
  refine Sat.seq ?_
  refine Sat.seq ?_
  refine Sat.region ?_
  refine Tr.loadAll rfl rfl rfl Try.underlying33 rfl Sz33 mM (Cut.length (by first | (simp [hB.l_fPrev]; done) | exact oK  | exact hW.ok)) ?_
  refine Tr.callV rfl rfl rfl rfl Body49 (cut_check C D) (fun w h => hW.ext h rfl) ?_
  refine Tr.assign rfl rfl rfl ?_
  refine Tr.nil ?_
  refine at_n ?_
  refine Sat.seq ?_
  refine Sat.region ?_
  refine Tr.move rfl rfl rfl ?_
  refine Tr.nei rfl rfl rfl rfl rfl ?_
  refine Tr.nil ?_
  refine at_n ?_
  first
    | refine Sat.condP rfl (fun hc0 => ?_) (fun hc0 => ?_)
    | refine Sat.condNP rfl (fun hc0 => ?_) (fun hc0 => ?_)
    | refine Sat.cond rfl (fun hc0 => ?_) (fun hc0 => ?_)
  ·
    refine Sat.seq ?_
    refine Sat.region ?_
    refine Tr.move rfl rfl rfl ?_
    refine Tr.assign rfl rfl rfl ?_
    refine Tr.assign rfl rfl rfl ?_
    refine Tr.nil ?_
    refine at_n ?_
    refine Sat.ret ?_
    refine at_r ?_
    refine en_r ?_
    refine end_perm (out := []) (res_tmp2 rfl rfl rfl) pm_nil ?_
    exact ⟨Sl.nil, rfl, by rw [show cutR D = [] from if_neg hc0]; exact Acc.none⟩
  ·
    have hc : D.check = 0 := by omega
    have hsm := D.small hc
    refine Sat.skip ?_
    refine at_n ?_
    refine Sat.seq ?_
    refine Sat.region ?_
    refine Tr.fld rfl rfl rfl Try.underlying33 rfl Sz24 dE _ rfl ?_
    refine Tr.load1 rfl rfl rfl Try.underlying24 rfl mM (by first | exact Cut.get_fHeight (by first | (simp [hB.l_fPrev]; done) | exact oK  | exact hW.ok) | exact (by first | rfl | exact get_words (by first | omega | (simp [hB.l_fPrev]; done) | (simp [hB.l_fPrev]; omega)) | exact get_bytes (by first | omega | (simp [hB.l_fPrev]; done) | (simp [hB.l_fPrev]; omega)) | exact get_ints (by first | omega | (simp [hB.l_fPrev]; done) | (simp [hB.l_fPrev]; omega)))) ?_
    refine Tr.call4 rfl rfl rfl rfl rfl Body50 (oct_Number none 0 0 [] (C.fHeight) rfl (fun _ => rfl) oM) (fun _ _ => SeesP.nil) ?_
    rintro v15 out15 ⟨q15, c15, rfl, hc15, rfl⟩
    refine Tr.assign rfl rfl rfl ?_
    refine Tr.nil ?_
    refine at_n ?_
    refine Sat.seq ?_
    refine Sat.region ?_
    refine Tr.move rfl rfl rfl ?_
    refine Tr.fld rfl rfl rfl Try.underlying33 rfl Sz25 dE _ rfl ?_
    refine Tr.sliceArr rfl rfl rfl Try.underlying25 Sz5 ?_
    refine Tr.appendAcc (z := u8 0) (by' := 1) (bytesV C.fPrev) rfl rfl rfl rfl rfl Try.underlying27 Try.underlying27 Sz5 Zr5 (by unfold By; kernel_rfl) rfl (Acc.some (cells := bytesV ([] ++ numB C.fHeight)) hc15 (by simp [numB_length])) sG (fun W2 W2h => SeesP.of (sees_part W2h mM (Cut.see_fPrev hB))) (fun e => by cases e) (bytesV_cell _) oM oM (by simp [hB.l_fPrev]) ?_
    intro s19 bl19 hac19
    refine Tr.assign rfl rfl rfl ?_
    refine Tr.nil ?_
    refine at_n ?_
    refine Sat.seq ?_
    refine Sat.region ?_
    refine Tr.move rfl rfl rfl ?_
    refine Tr.fld rfl rfl rfl Try.underlying33 rfl Sz26 dE _ rfl ?_
    refine Tr.load1 rfl rfl rfl Try.underlying26 rfl mM (by first | exact Cut.get_fHeads (by first | (simp [hB.l_fPrev]; done) | exact oK  | exact hW.ok) | exact (by first | rfl | exact get_words (by first | omega | (simp [hB.l_fPrev]; done) | (simp [hB.l_fPrev]; omega)) | exact get_bytes (by first | omega | (simp [hB.l_fPrev]; done) | (simp [hB.l_fPrev]; omega)) | exact get_ints (by first | omega | (simp [hB.l_fPrev]; done) | (simp [hB.l_fPrev]; omega)))) ?_
    refine Tr.lenSl rfl rfl rfl Try.underlying26 ?_
    refine Tr.conv rfl rfl rfl Try.underlying3 Try.underlying24 (cv_i64_u64 _) ?_
    rw [word_nat (n := C.fHeads.n) oM]
    refine Tr.call4 rfl rfl rfl rfl rfl Body50 (oct_Number none 0 0 [] (UInt64.ofNat C.fHeads.n) rfl (fun _ => rfl) oM) (fun _ _ => SeesP.nil) ?_
    rintro v25 out25 ⟨q25, c25, rfl, hc25, rfl⟩
    refine Tr.appendAcc (z := u8 0) (by' := 1) (bytesV ([] ++ numB (UInt64.ofNat C.fHeads.n))) rfl rfl rfl rfl rfl Try.underlying27 Try.underlying27 Sz5 Zr5 (by unfold By; kernel_rfl) rfl hac19 sG (fun w h => SeesP.of (sees_own h mM)) (fun e => by cases e) (bytesV_cell _) oM oM (by simp [numB_length]) ?_
    intro s26 bl26 hac26
    refine Tr.assign rfl rfl rfl ?_
    refine Tr.nil ?_
    refine at_n ?_
    refine Sat.seq ?_
    refine Sat.seq ?_
    refine Sat.region ?_
    refine Tr.fld rfl rfl rfl Try.underlying33 rfl Sz26 dE _ rfl ?_
    refine Tr.load1 rfl rfl rfl Try.underlying26 rfl mM (by first | exact Cut.get_fHeads (by first | (simp [hB.l_fPrev]; done) | exact oK  | exact hW.ok) | exact (by first | rfl | exact get_words (by first | omega | (simp [hB.l_fPrev]; done) | (simp [hB.l_fPrev]; omega)) | exact get_bytes (by first | omega | (simp [hB.l_fPrev]; done) | (simp [hB.l_fPrev]; omega)) | exact get_ints (by first | omega | (simp [hB.l_fPrev]; done) | (simp [hB.l_fPrev]; omega)))) ?_
    refine Tr.lenSl rfl rfl rfl Try.underlying26 ?_
    refine Tr.move rfl rfl rfl ?_
    refine Tr.nil ?_
    refine at_n ?_
    refine Sat.block ?_
    refine Sat.loop (ι := Nat × Sl × List Blk) (fun p => ⟨[(1, ptr n1 0), (5, p.2.1.v), (28, C.fHeads.v), (29, i64 (C.fHeads.n : Int)), (30, i64 (p.1 : Int))], (p.2.2 ++ (⟨n1, C.cells, 33, C.cells.length⟩ :: []))⟩) (fun p => p.1 ≤ C.fHeads.n ∧ Acc p.2.1 p.2.2 (bytesV (D.body p.1)) 5 (szN D.dHeight.toNat + 32 + szN (UInt64.ofNat D.dHeads.length).toNat + p.1 * 32) 1) (fun p => C.fHeads.n - p.1) ((0, s26, bl26)) ?_ ?_ ?_
    · exact ⟨Nat.zero_le _, cutb_start hW hac26⟩
    · exact weak_perm (wk1 rfl (wk1 rfl (wk1 rfl (wk1 rfl (wk1 rfl wk0))))) (pm_seg sG (pm_cons rM pm_nil))
    ·
      rintro p ⟨hp1, hap⟩
      refine Sat.seq ?_
      refine Sat.region ?_
      refine Tr.lss rfl rfl rfl rfl rfl ?_
      refine Tr.nil ?_
      refine at_n ?_
      refine Sat.seq ?_
      first
        | refine Sat.condP rfl (fun hc1 => ?_) (fun hc1 => ?_)
        | refine Sat.condNP rfl (fun hc1 => ?_) (fun hc1 => ?_)
        | refine Sat.cond rfl (fun hc1 => ?_) (fun hc1 => ?_)
      ·
        have hk2 : p.1 < C.fHeads.n := by omega
        obtain ⟨b, o, hbp, hbs⟩ := hW.fHeads.see.at (by rw [flatB_length hW.fHeads.row]; omega)
        have hr0 : (D.dHeads.getD p.1 []).length = 32 := getD_len hW.fHeads.row oM
        refine Sat.skip ?_
        refine at_n ?_
        refine Sat.seq ?_
        refine Sat.block ?_
        refine Sat.seq ?_
        refine Sat.region ?_
        refine Tr.idxSlP 32 rfl rfl rfl hbp rfl Try.underlying26 Sz25 p.1 rfl oM ?_
        refine Tr.loadEN (bytesV (D.dHeads.getD (p.1) [])) rfl rfl rfl Try.underlying25 rfl Sz25 sP (by rw [bytesV, List.length_map]; exact getD_len hW.fHeads.row (by rw [hW.fHeads.len]; omega)) (sees_row hW.fHeads.row hbs (by rw [hW.fHeads.len]; omega)) ?_
        refine Tr.alloc (cs := (bytesV (List.replicate 32 0))) rfl Zr25 rfl ?_
        intro n7 hn7 hf7
        first
          | refine Tr.storeAll rfl rfl rfl rfl cB Sz25 (by first | assumption | (simp [hB.l_fPrev]; done) | (rw [bytesV, List.length_map]; assumption)) mM (by first | assumption | (simp [hB.l_fPrev]; done) | (rw [bytesV, List.length_map]; assumption)) uU ?_
          | refine Tr.storeN _ rfl rfl rfl rfl rfl cB Sz25 (by first | assumption | (simp [hB.l_fPrev]; done) | (rw [bytesV, List.length_map]; assumption)) mM (by first | assumption | (simp [hB.l_fPrev]; done) | (rw [bytesV, List.length_map]; assumption)) (by exact rfl) uU ?_
        refine Tr.nil ?_
        refine at_n ?_
        refine Sat.region ?_
        refine Tr.move rfl rfl rfl ?_
        refine Tr.sliceArr rfl rfl rfl Try.underlying25 Sz5 ?_
        refine Tr.appendAcc (z := u8 0) (by' := 1) (bytesV (D.dHeads.getD p.1 [])) rfl rfl rfl rfl rfl Try.underlying27 Try.underlying27 Sz5 Zr5 (by unfold By; kernel_rfl) rfl hap sG (fun w h => SeesP.of (sees_own h mM)) (fun e => by cases e) (bytesV_cell _) oM oM (by rw [bytesV, List.length_map, hr0]) ?_
        intro s36 bl36 hac36
        refine Tr.assign rfl rfl rfl ?_
        refine Tr.nil ?_
        refine bl_n ?_
        refine at_n ?_
        refine Sat.region ?_
        refine Tr.add_i64 rfl rfl rfl rfl oM ?_
        refine Tr.move rfl rfl rfl ?_
        refine Tr.nil ?_
        refine at_n ?_
        refine ⟨(p.1 + 1, s36, bl36), ⟨by simp only []; omega, ?_⟩, by simp only []; omega, weak_perm (wk1 rfl (wk1 rfl (wk1 rfl (wk1 rfl (wk1 rfl wk0))))) (pm_seg sG (pm_cons rM pm_nil))⟩
        rw [show (szN D.dHeight.toNat + 32 + szN (UInt64.ofNat D.dHeads.length).toNat + (p.1 + 1) * 32) = (szN D.dHeight.toNat + 32 + szN (UInt64.ofNat D.dHeads.length).toNat + p.1 * 32) + 32 by omega, DCut.body_step oM, bytesV_app]
        exact hac36
      ·
        have hpe : p.1 = C.fHeads.n := by omega
        refine Sat.exit ?_
        refine at_x ?_
        refine at_x ?_
        refine bl_h ?_
        refine at_n ?_
        refine Sat.seq ?_
        refine Sat.region ?_
        refine Tr.move rfl rfl rfl ?_
        refine Tr.assign rfl rfl rfl ?_
        refine Tr.assign rfl rfl rfl ?_
        refine Tr.nil ?_
        refine at_n ?_
        refine Sat.ret ?_
        refine en_r ?_
        refine end_perm (out := (p.2.2 ++ [])) (res_tmp2 rfl rfl rfl) (pm_seg sG pm_nil) ?_
        refine ⟨p.2.1, by rw [hc], ?_⟩
        rw [show cutR D = D.bytes from if_pos hc]
        rw [hpe, ← hll] at hap
        rw [show D.bytes.length = szN D.dHeight.toNat + 32 + szN (UInt64.ofNat D.dHeads.length).toNat + D.dHeads.length * 32 from DCut.body_len (hW.fPrev ▸ hB.l_fPrev) hW.fHeads.row (Nat.le_refl _), List.append_nil]
        exact hap

/-- the name of a cut -/
def cnameD (D : DCut) : List UInt8 := if D.check = 0 then sha256 D.bytes else List.replicate 32 0
theorem cnameD_length (D : DCut) : (cnameD D).length = 32 := by
  unfold cnameD
  split
  · exact sha256_length _
  · rfl

set_option maxRecDepth 100000 in
set_option maxHeartbeats 4000000 in
theorem cut_name (C : Cut) (D : DCut) : Meets Try.prog 69 [agg C.cells] [] (fun W => CutIs W C D) (fun v out => v = agg (bytesV (cnameD D)) ∧ out = []) := by
  intro W hW
  have hok := hW.ok
  obtain ⟨k, hk⟩ : ∃ k, Hid (kW = k) := ⟨_, ⟨rfl⟩⟩
  obtain ⟨s0, hs0⟩ : ∃ s0, Hid (xorUp 8 = s0) := ⟨_, ⟨rfl⟩⟩
  obtain ⟨G, hG⟩ : ∃ G, Hid (shaTag = G) := ⟨_, ⟨rfl⟩⟩
  obtain ⟨i0, hi0⟩ : ∃ i0, Hid (allW k s0 G = i0) := ⟨_, ⟨rfl⟩⟩
  have hk80 : k.length = 80 := by rw [← hk.out]; rfl
  have hs8 : s0.length = 8 := by rw [← hs0.out]; exact xorUp_length 8
  have hGl : G.length = 11 := by rw [← hG.out]; rfl
  have hi8 : i0.length = 8 := by rw [← hi0.out, allW_length]; exact hs8
  obtain ⟨r, hr⟩ : ∃ r, Hid (allW k i0 (D.bytes) = r) := ⟨_, ⟨rfl⟩⟩
  obtain ⟨s, hs⟩ : ∃ s, Hid (sumUp r 64 = s) := ⟨_, ⟨rfl⟩⟩
  have hsd : Hid (s.take 32 = sha256 (D.bytes)) := ⟨by rw [← hs.out, ← hr.out, ← hi0.out, ← hG.out, ← hs0.out, ← hk.out]; rfl⟩
  have hs64 : s.length = 64 := by rw [← hs.out]; exact sumUp_length r 64
  have hs32 : (s.take 32).length = 32 := by rw [List.length_take, hs64]; rfl
  refine calls_of (hp0 := []) Try.func69 rfl 16 Try.ntmps69 rfl (HRep.nil _) ?_
  refine Sat.seq ?_
  refine Sat.region ?_
  refine Tr.boxA rfl rfl ?_
  intro n1 hn1 hf1
  refine Tr.alloc (cs := (bytesV (List.replicate 32 0))) rfl Zr25 rfl ?_
  intro n2 hn2 hf2
  refine Tr.nil ?_
  refine at_n ?_
  refine Sat.seq ?_
  refine Sat.region ?_
  refine Tr.loadAll rfl rfl rfl Try.underlying33 rfl Sz33 mM (Cut.length (by first | (simp [hs32, hs64]; done) | exact oK  | exact hW.ok)) ?_
  refine Tr.call4 rfl rfl rfl rfl rfl Body25 (cut_bytes C D) (fun w h => hW.ext h rfl) ?_
  rintro v7 out7 ⟨s7, rfl, hac7⟩
  refine Tr.move rfl rfl rfl ?_
  refine Tr.extract rfl rfl rfl rfl ?_
  refine Tr.extract rfl rfl rfl rfl ?_
  refine Tr.assign rfl rfl rfl ?_
  refine Tr.assign rfl rfl rfl ?_
  refine Tr.nil ?_
  refine at_n ?_
  refine Sat.seq ?_
  refine Sat.seq ?_
  refine Sat.region ?_
  refine Tr.move rfl rfl rfl ?_
  refine two (fun r hr k => Tr.nei rfl rfl rfl rfl hr k) (fun hs2_10 => ?_) (fun hs2_10 => ?_)
  ·
    first | have hs2_1 := of_decide_eq_true hs2_10 | have hs2_1 := of_decide_eq_false hs2_10 | have hs2_1 := nd_t hs2_10 | have hs2_1 := nd_f hs2_10 | have hs2_1 := hs2_10
    skip
    refine Tr.nil ?_
    refine at_n ?_
    refine Sat.cond_t rfl rfl ?_
    refine Sat.seq ?_
    refine Sat.region ?_
    refine Tr.build (cs := bytesV (List.replicate 32 0)) rfl rfl rfl (fun w => by kernel_rfl) ?_
    first
      | refine Tr.storeAll rfl rfl rfl rfl cB Sz25 (by first | assumption | (simp [hs32, hs64]; done) | (rw [bytesV, List.length_map]; assumption)) mM (by first | assumption | (simp [hs32, hs64]; done) | (rw [bytesV, List.length_map]; assumption)) uU ?_
      | refine Tr.storeN _ rfl rfl rfl rfl rfl cB Sz25 (by first | assumption | (simp [hs32, hs64]; done) | (rw [bytesV, List.length_map]; assumption)) mM (by first | assumption | (simp [hs32, hs64]; done) | (rw [bytesV, List.length_map]; assumption)) (by exact rfl) uU ?_
    refine Tr.nil ?_
    refine at_n ?_
    refine Sat.ret ?_
    refine at_r ?_
    refine en_r ?_
    refine ⟨_, [], res_cell rfl rfl Try.underlying25 rfl Sz25 mM (by simp [hs32, hs64]), sP, sP, ?_, rfl⟩
    first
      | (rw [cnameD, if_neg hs2_1]; done)
      | (rw [cnameD, if_pos h0, hsd.out]; done)
  ·
    first | have hs2_1 := of_decide_eq_true hs2_10 | have hs2_1 := of_decide_eq_false hs2_10 | have hs2_1 := nd_t hs2_10 | have hs2_1 := nd_f hs2_10 | have hs2_1 := hs2_10
    have h0 : D.check = 0 := by omega
    have hb7 : cutR D = D.bytes := if_pos h0
    refine Tr.nil ?_
    refine at_n ?_
    refine Sat.cond_f rfl rfl ?_
    refine Sat.skip ?_
    refine at_n ?_
    refine Sat.seq ?_
    refine Sat.region ?_
    refine Tr.move rfl rfl rfl ?_
    refine Tr.mkRow (z := .slice none 0 0) [s7.v] [s7.v] rfl rfl rfl Try.underlying146 Sz27 Zr27 rfl rfl (by intro v hv; rw [List.mem_singleton.1 hv]; rfl) dE rfl ?_
    intro q14
    refine Tr.callV rfl rfl rfl rfl Body87 (sha_Sum k s0 i0 G hk hk80 hs0 hs8 hG hGl hi0 hi8 (some ⟨q14, 0, none⟩) 1 1 [s7] [D.bytes] rfl rfl (fun j hj => (by obtain rfl : j = 0 := oM; exact ⟨by simp [hac7.num, hb7], fun e => hac7.nil e⟩)) D.bytes sP (by have := D.bytes_small h0 (hW.fPrev ▸ hW.ok.l_fPrev) hW.fHeads.row; omega) dE r hr s hs) (fun w h => ⟨SeesP.of (sees_own h mM), fun j hj => (by obtain rfl : j = 0 := oM; exact (by have := hac7.see (Lies.of h iN); rw [hb7] at this; exact this))⟩) ?_
    first
      | refine Tr.storeAll rfl rfl rfl rfl cB Sz25 (by first | assumption | (simp [hs32, hs64]; done) | (rw [bytesV, List.length_map]; assumption)) mM (by first | assumption | (simp [hs32, hs64]; done) | (rw [bytesV, List.length_map]; assumption)) uU ?_
      | refine Tr.storeN _ rfl rfl rfl rfl rfl cB Sz25 (by first | assumption | (simp [hs32, hs64]; done) | (rw [bytesV, List.length_map]; assumption)) mM (by first | assumption | (simp [hs32, hs64]; done) | (rw [bytesV, List.length_map]; assumption)) (by exact rfl) uU ?_
    refine Tr.nil ?_
    refine at_n ?_
    refine Sat.ret ?_
    refine en_r ?_
    refine ⟨_, [], res_cell rfl rfl Try.underlying25 rfl Sz25 mM (by simp [hs32, hs64]), sP, sP, ?_, rfl⟩
    first
      | (rw [cnameD, if_neg hs2_1]; done)
      | (rw [cnameD, if_pos h0, hsd.out]; done)

end Go.Proofs.Ytlgbmfokgnoocaa
end
