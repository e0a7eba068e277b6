/- headwaterlaw20.VoteChanged returns true at every input, and all that it reads reads behind the call as before. Conditions: none beyond the given statement's own. -/
import Derived.WalkKit
import Derived.Orders
import Derived.Deep.LoopGhost
import Derived.IntWalk
import Derived.Laws.StructEq
import Derived.Test.YtpacobmjjjillaaGreatRows
import Derived.KernelRfl
import Derived.ArgAppend
import Derived.Deep.AppendSrc
import Derived.Lib.Bytealg
import Derived.Lib.BytesEntry
import Derived.Laws.IdiomStrings
import Derived.Laws.Externs
import Derived.WideKeyArr2
import Derived.ProofKit
import Derived.OpenShut
import Derived.Deep.Slices
import Derived.Laws.Pointers
import Derived.Laws.Cover3
import Derived.LaidEqlPtr
import Derived.LoopN
import Derived.RangeFuncLeaves
import Derived.RangeFuncSeq
import Derived.OrdersIn
import Derived.Defers
import Derived.Laws.MathBits
import Derived.ChangeOld
import Derived.Below
import Derived.Test.YtpacobmjjjillaaGreatVChgC5
section
namespace Go.Proofs.YtpacobmjjjillaaGreat
open Go Hw
set_option linter.unusedVariables false
set_option linter.unusedSimpArgs false

open Ed

theorem vcheck_2 {V : Vote} (h : ¬ vcheck V = 0) : vcheck V = 2 := by
  unfold vcheck at h ⊢
  by_cases h1 : vheadB V = true
  · rw [if_pos h1]
  · rw [if_neg h1] at h ⊢
    by_cases h2 : vokB V = true
    · rw [if_pos h2] at h; exact absurd rfl h
    · rw [if_neg h2]

set_option maxRecDepth 100000 in
set_option maxHeartbeats 8000000 in
theorem r20_body (V : Vote) (hV : V.ok) : Meets Tryz.prog 75 [agg V.cells] [] (fun _ => True) (fun v out => FreshRow v out (bytesV (voteT V)) 5 (voteN V) 1) := by
 intro W hW
 have z1 := szN_pos V.fHeight.toNat
 have z2 := szN_pos V.fRound.toNat
 have z3 := szN_pos (Hw.byteOf V.fPhase).toUInt64.toNat
 have z4 := szN_pos V.fProof.toNat
 refine calls_of (hp0 := []) Tryz.func75 rfl 29 Tryz.ntmps75 rfl (HRep.nil _) ?_
 refine Sat.seq (Sat.region ?_)
 refine Tr.boxA rfl rfl ?_
 intro n1 hn1 hf1
 refine Tr.assign rfl rfl rfl ?_
 refine Tr.nil (at_n (Sat.seq (Sat.region ?_)))
 refine Tr.fld rfl rfl rfl Tryz.underlying29 rfl Sz22 dE _ rfl ?_
 refine Tr.load1 rfl rfl rfl Tryz.underlying22 rfl mM (by first | exact Vote.get_fHeight (by first | exact oK  | exact hV) | exact (by first | rfl | exact get_wds (by first | omega | (simp; omega)) | exact get_wds (by first | omega | (simp; omega)) | exact get_words (by first | omega | (simp; done) | (simp; omega)) | exact get_bytes (by first | omega | (simp; done) | (simp; omega)) | exact get_ints (by first | omega | (simp; done) | (simp; omega)))) ?_
 refine Tr.call4 rfl rfl rfl rfl rfl Body101 (r1_Number none 0 0 [] V.fHeight rfl (fun _ => rfl) oM) (fun _ _ => SeesP.nil) ?_
 rintro v6 out6 ⟨q6, c6, rfl, hc6, rfl⟩
 simp only [Nat.zero_add, List.nil_append, List.cons_append] at hc6 ⊢
 refine Tr.assign rfl rfl rfl ?_
 refine Tr.nil (at_n (Sat.seq (Sat.region ?_)))
 refine Tr.move rfl rfl rfl ?_
 refine Tr.fld rfl rfl rfl Tryz.underlying29 rfl Sz22 dE _ rfl ?_
 refine Tr.load1 rfl rfl rfl Tryz.underlying22 rfl mM (by first | exact Vote.get_fRound (by first | exact oK  | exact hV) | exact (by first | rfl | exact get_wds (by first | omega | (simp; omega)) | exact get_wds (by first | omega | (simp; omega)) | exact get_words (by first | omega | (simp; done) | (simp; omega)) | exact get_bytes (by first | omega | (simp; done) | (simp; omega)) | exact get_ints (by first | omega | (simp; done) | (simp; omega)))) ?_
 refine Tr.call4 rfl rfl rfl rfl rfl Body101 (r1_Number (some ⟨q6, 0, none⟩) (szN V.fHeight.toNat) c6 (numB V.fHeight) (V.fRound) (by simp only [List.length_append, numB_length, hV.l_fValue]) (fun e => by cases e) oM) (fun w h => SeesP.of (sees_own (cs := bytesV (numB V.fHeight)) h mM)) ?_
 rintro v10 out10 ⟨q10, c10, rfl, hc10, rfl⟩
 refine Tr.assign rfl rfl rfl ?_
 refine Tr.nil (at_n (Sat.seq (Sat.region ?_)))
 refine Tr.move rfl rfl rfl ?_
 refine Tr.fld rfl rfl rfl Tryz.underlying29 rfl Sz3 dE _ rfl ?_
 refine Tr.load1 rfl rfl rfl Tryz.underlying3 rfl mM (by first | exact Vote.get_fPhase (by first | exact oK  | exact hV) | exact (by first | rfl | exact get_wds (by first | omega | (simp; omega)) | exact get_wds (by first | omega | (simp; omega)) | exact get_words (by first | omega | (simp; done) | (simp; omega)) | exact get_bytes (by first | omega | (simp; done) | (simp; omega)) | exact get_ints (by first | omega | (simp; done) | (simp; omega)))) ?_
 refine Tr.conv rfl rfl rfl Tryz.underlying3 Tryz.underlying5 (cv_i64_u8 _) ?_
 refine Tr.conv rfl rfl rfl Tryz.underlying5 Tryz.underlying22 (cv_u8_u64 _) ?_
 refine Tr.call4 rfl rfl rfl rfl rfl Body101 (r1_Number (some ⟨q10, 0, none⟩) (szN V.fHeight.toNat + szN V.fRound.toNat) c10 (numB V.fHeight ++ numB V.fRound) ((Hw.byteOf V.fPhase).toUInt64) (by simp only [List.length_append, numB_length, hV.l_fValue]) (fun e => by cases e) oM) (fun w h => SeesP.of (sees_own (cs := bytesV (numB V.fHeight ++ numB V.fRound)) h mM)) ?_
 rintro v16 out16 ⟨q16, c16, rfl, hc16, rfl⟩
 refine Tr.assign rfl rfl rfl ?_
 refine Tr.nil (at_n (Sat.seq (Sat.region ?_)))
 refine Tr.move rfl rfl rfl ?_
 refine Tr.fld rfl rfl rfl Tryz.underlying29 rfl Sz24 dE _ rfl ?_
 refine Tr.sliceArr rfl rfl rfl Tryz.underlying24 Sz5 ?_
 refine Tr.appendSl (z := u8 0) (by' := 1) (bytesV V.fValue) rfl rfl rfl rfl rfl Tryz.underlying39 Tryz.underlying39 Sz5 Zr5 (by unfold By; kernel_rfl) rfl (fun w h => SeesP.of (sees_part h mM (Vote.see_fValue hV))) (fun e => by cases e) (bytesV_cell _) rM rfl (by rw [bytesV, List.length_map]; simp only [List.length_append, numB_length, hV.l_fValue]; omega) oM oM oM (by simp [hV.l_fValue]) ?_
 intro q20 c20 hq20
 rw [← bytesV_app]
 refine Tr.assign rfl rfl rfl ?_
 refine Tr.nil (at_n (Sat.seq (Sat.region ?_)))
 refine Tr.move rfl rfl rfl ?_
 refine Tr.fld rfl rfl rfl Tryz.underlying29 rfl Sz22 dE _ rfl ?_
 refine Tr.load1 rfl rfl rfl Tryz.underlying22 rfl mM (by first | exact Vote.get_fProof (by first | exact oK  | exact hV) | exact (by first | rfl | exact get_wds (by first | omega | (simp; omega)) | exact get_wds (by first | omega | (simp; omega)) | exact get_words (by first | omega | (simp; done) | (simp; omega)) | exact get_bytes (by first | omega | (simp; done) | (simp; omega)) | exact get_ints (by first | omega | (simp; done) | (simp; omega)))) ?_
 refine Tr.call4 rfl rfl rfl rfl rfl Body101 (r1_Number (some ⟨q20, 0, none⟩) (szN V.fHeight.toNat + szN V.fRound.toNat + szN (Hw.byteOf V.fPhase).toUInt64.toNat + 32) c20 (numB V.fHeight ++ numB V.fRound ++ numB (Hw.byteOf V.fPhase).toUInt64 ++ V.fValue) (V.fProof) (by simp only [List.length_append, numB_length, hV.l_fValue]) (fun e => by cases e) oM) (fun w h => SeesP.of (sees_own (cs := bytesV (numB V.fHeight ++ numB V.fRound ++ numB (Hw.byteOf V.fPhase).toUInt64 ++ V.fValue)) h mM)) ?_
 rintro v24 out24 ⟨q24, c24, rfl, hc24, rfl⟩
 refine Tr.assign rfl rfl rfl ?_
 refine Tr.nil (at_n (Sat.seq (Sat.region ?_)))
 refine Tr.move rfl rfl rfl ?_
 refine Tr.fld rfl rfl rfl Tryz.underlying29 rfl Sz25 dE _ rfl ?_
 refine Tr.sliceArr rfl rfl rfl Tryz.underlying25 Sz5 ?_
 refine Tr.appendSl (z := u8 0) (by' := 1) (bytesV V.fVoter) rfl rfl rfl rfl rfl Tryz.underlying39 Tryz.underlying39 Sz5 Zr5 (by unfold By; kernel_rfl) rfl (fun w h => SeesP.of (sees_part h mM (Vote.see_fVoter hV))) (fun e => by cases e) (bytesV_cell _) rM rfl (by rw [bytesV, List.length_map]; simp only [List.length_append, numB_length, hV.l_fValue]; omega) oM oM oM (by simp [hV.l_fVoter]) ?_
 intro q28 c28 hq28
 rw [← bytesV_app]
 refine Tr.assign rfl rfl rfl ?_
 refine Tr.nil (at_n (Sat.ret (en_r ?_)))
 refine end_perm (out := (⟨q28, bytesV (numB V.fHeight ++ numB V.fRound ++ numB (Hw.byteOf V.fPhase).toUInt64 ++ V.fValue ++ numB V.fProof ++ V.fVoter), 5, c28 * 1⟩ :: [])) (res_tmp rfl rfl) (pm_cons rM pm_nil) ?_
 exact ⟨q28, c28, rfl, by unfold voteN; omega, rfl⟩

set_option maxRecDepth 100000 in
set_option maxHeartbeats 4000000 in
theorem r20_Text (V : Vote) (hV : V.ok) : Meets Tryz.prog 29 [agg V.cells] [] (fun _ => True) (fun v out => FreshRow v out (bytesV (vtxt V)) 5 (vtxt V).length 1) := by
 intro W hW
 have hvl := vtxt_length hV
 have hvn := voteN_le V
 have htl := voteT_length hV
 refine calls_of (hp0 := []) Tryz.func29 rfl 8 Tryz.ntmps29 rfl (HRep.nil _) ?_
 refine Sat.seq (Sat.region ?_)
 refine Tr.boxA rfl rfl ?_
 intro n1 hn1 hf1
 refine Tr.assign rfl rfl rfl ?_
 refine Tr.nil (at_n (Sat.seq (Sat.region ?_)))
 refine Tr.mkRow2 (z := u8 0) [u8 118, u8 111, u8 116, u8 101] (bytesV vtag) rfl rfl Tryz.underlying39 Sz5 Zr5 rfl rfl (by intro v hv; simp only [List.mem_cons, List.not_mem_nil, or_false] at hv; rcases hv with rfl | rfl | rfl | rfl <;> rfl) dE rfl ?_
 intro q3
 refine Tr.constB rfl rfl rfl rfl Tryz.underlying39 Tryz.underlying5 mM ?_
 refine Tr.loadAll rfl rfl rfl Tryz.underlying29 rfl Sz29 mM (Vote.length (by first | exact oK  | exact hV)) ?_
 refine Tr.call4 rfl rfl rfl rfl rfl Body75 (r20_body V hV) (fun _ _ => trivial) ?_
 rintro v6 out6 ⟨q6, c6, rfl, hc6, rfl⟩
 refine Tr.appendSl (z := u8 0) (by' := 1) (bytesV (voteT V)) rfl rfl rfl rfl rfl Tryz.underlying39 Tryz.underlying39 Sz5 Zr5 (by unfold By; kernel_rfl) rfl (fun w h => SeesP.of (sees_own (cs := bytesV (voteT V)) h mM)) (fun e => by cases e) (bytesV_cell _) rM rfl rfl oM oM oM (by rw [bytesV, List.length_map, htl, Nat.mul_one]) ?_
 intro q7 c7 hq7
 rw [← bytesV_app]
 refine Tr.assign rfl rfl rfl ?_
 refine Tr.nil (at_n (Sat.ret (en_r ?_)))
 refine end_perm (out := (⟨q7, bytesV (vtag ++ voteT V), 5, c7 * 1⟩ :: [])) (res_tmp rfl rfl) (pm_cons rM pm_nil) ?_
 exact ⟨q7, c7, by rw [hvl], by rw [hvl]; exact hq7, rfl⟩

set_option maxRecDepth 100000 in
set_option maxHeartbeats 4000000 in
theorem r20_Check (V : Vote) (hV : V.ok) : Meets Tryz.prog 28 [agg V.cells] [] (fun _ => True) (fun v out => v = i64 (vcheck V) ∧ out = []) := by
  intro W hW
  refine calls_of (hp0 := []) Tryz.func28 rfl 53 Tryz.ntmps28 rfl (HRep.nil _) ?_
  refine Sat.seq (Sat.region ?_)
  refine Tr.boxA rfl rfl ?_
  intro n1 hn1 hf1
  refine Tr.assign rfl rfl rfl ?_
  refine Tr.nil (at_n (Sat.seq (Sat.region ?_)))
  refine Tr.alloc (cs := (bytesV (List.replicate 32 0))) rfl Zr24 rfl ?_
  intro n3 hn3 hf3
  refine Tr.nil (at_n (Sat.seq (Sat.seq (Sat.region ?_))))
  refine Tr.fld rfl rfl rfl Tryz.underlying29 rfl Sz22 dE _ rfl ?_
  refine Tr.load1 rfl rfl rfl Tryz.underlying22 rfl mM (by first | exact Vote.get_fHeight (by first | (simp [hV.l_fValue]; done) | exact oK | exact Point.zero_ok | exact wide.zero_ok | exact secrets.zero_ok | exact far.zero_ok | exact Cut.zero_ok | exact Cert.zero_ok | exact Msg.zero_ok | exact Inbox.zero_ok | exact Record.zero_ok | exact Kept.zero_ok  | exact hV) | exact (by first | rfl | exact get_wds (by first | omega | (simp [hV.l_fValue]; omega)) | exact get_wds (by first | omega | (simp [hV.l_fValue]; omega)) | exact get_words (by first | omega | (simp [hV.l_fValue]; done) | (simp [hV.l_fValue]; omega)) | exact get_bytes (by first | omega | (simp [hV.l_fValue]; done) | (simp [hV.l_fValue]; omega)) | exact get_ints (by first | omega | (simp [hV.l_fValue]; done) | (simp [hV.l_fValue]; omega)))) ?_
  refine two (fun r hr k => Tr.lss rfl rfl rfl rfl hr k) (fun hs2_20 => ?_) (fun hs2_20 => ?_)
  ·
    first | have hs2_2 := of_decide_eq_true hs2_20 | have hs2_2 := of_decide_eq_false hs2_20 | have hs2_2 := nd_t hs2_20 | have hs2_2 := nd_f hs2_20 | have hs2_2 := hs2_20
    refine Tr.move rfl rfl rfl ?_
    refine Tr.skp rfl rfl ?_
    refine Tr.skp rfl rfl ?_
    refine Tr.skp rfl rfl ?_
    refine Tr.pick rfl rfl rfl rfl rfl rfl ?_
    refine Tr.move rfl rfl rfl ?_
    refine Tr.skp rfl rfl ?_
    refine Tr.skp rfl rfl ?_
    refine Tr.skp rfl rfl ?_
    refine Tr.pick rfl rfl rfl rfl rfl rfl ?_
    refine Tr.move rfl rfl rfl ?_
    refine Tr.skp rfl rfl ?_
    refine Tr.skp rfl rfl ?_
    refine Tr.skp rfl rfl ?_
    refine Tr.pick rfl rfl rfl rfl rfl rfl ?_
    refine Tr.move rfl rfl rfl ?_
    refine Tr.skp rfl rfl ?_
    refine Tr.skp rfl rfl ?_
    refine Tr.skp rfl rfl ?_
    refine Tr.pick rfl rfl rfl rfl rfl rfl ?_
    refine Tr.nil (at_n ?_)
    refine Sat.cond_t rfl rfl ?_
    refine Sat.seq (Sat.region ?_)
    refine Tr.assign rfl rfl rfl ?_
    refine Tr.nil (at_n (Sat.ret (at_r (en_r ?_))))
    refine ⟨_, [], res_tmp rfl rfl, sP, sP, ?_, rfl⟩
    first
      | (unfold vcheck vheadB vokB; simp_all; done)
      | (have e1 : ¬ V.fPhase = 1 := by omega
         have e2 : ¬ V.fPhase = 2 := by omega
         have e3 : ¬ V.fPhase = 3 := by omega
         unfold vcheck vheadB vokB; simp_all; done)
      | (unfold vcheck vheadB vokB; simp_all; omega)
  ·
    first | have hs2_2 := of_decide_eq_true hs2_20 | have hs2_2 := of_decide_eq_false hs2_20 | have hs2_2 := nd_t hs2_20 | have hs2_2 := nd_f hs2_20 | have hs2_2 := hs2_20
    refine Tr.move rfl rfl rfl ?_
    refine Tr.fld rfl rfl rfl Tryz.underlying29 rfl Sz22 dE _ rfl ?_
    refine Tr.load1 rfl rfl rfl Tryz.underlying22 rfl mM (by first | exact Vote.get_fHeight (by first | (simp [hV.l_fValue]; done) | exact oK | exact Point.zero_ok | exact wide.zero_ok | exact secrets.zero_ok | exact far.zero_ok | exact Cut.zero_ok | exact Cert.zero_ok | exact Msg.zero_ok | exact Inbox.zero_ok | exact Record.zero_ok | exact Kept.zero_ok  | exact hV) | exact (by first | rfl | exact get_wds (by first | omega | (simp [hV.l_fValue]; omega)) | exact get_wds (by first | omega | (simp [hV.l_fValue]; omega)) | exact get_words (by first | omega | (simp [hV.l_fValue]; done) | (simp [hV.l_fValue]; omega)) | exact get_bytes (by first | omega | (simp [hV.l_fValue]; done) | (simp [hV.l_fValue]; omega)) | exact get_ints (by first | omega | (simp [hV.l_fValue]; done) | (simp [hV.l_fValue]; omega)))) ?_
    refine two (fun r hr k => Tr.geq rfl rfl rfl rfl hr k) (fun hs2_60 => ?_) (fun hs2_60 => ?_)
    ·
      first | have hs2_6 := of_decide_eq_true hs2_60 | have hs2_6 := of_decide_eq_false hs2_60 | have hs2_6 := nd_t hs2_60 | have hs2_6 := nd_f hs2_60 | have hs2_6 := hs2_60
      refine Tr.pick rfl rfl rfl rfl rfl rfl ?_
      refine Tr.move rfl rfl rfl ?_
      refine Tr.skp rfl rfl ?_
      refine Tr.skp rfl rfl ?_
      refine Tr.skp rfl rfl ?_
      refine Tr.pick rfl rfl rfl rfl rfl rfl ?_
      refine Tr.move rfl rfl rfl ?_
      refine Tr.skp rfl rfl ?_
      refine Tr.skp rfl rfl ?_
      refine Tr.skp rfl rfl ?_
      refine Tr.pick rfl rfl rfl rfl rfl rfl ?_
      refine Tr.move rfl rfl rfl ?_
      refine Tr.skp rfl rfl ?_
      refine Tr.skp rfl rfl ?_
      refine Tr.skp rfl rfl ?_
      refine Tr.pick rfl rfl rfl rfl rfl rfl ?_
      refine Tr.nil (at_n ?_)
      refine Sat.cond_t rfl rfl ?_
      refine Sat.seq (Sat.region ?_)
      refine Tr.assign rfl rfl rfl ?_
      refine Tr.nil (at_n (Sat.ret (at_r (en_r ?_))))
      refine ⟨_, [], res_tmp rfl rfl, sP, sP, ?_, rfl⟩
      first
        | (unfold vcheck vheadB vokB; simp_all; done)
        | (have e1 : ¬ V.fPhase = 1 := by omega
           have e2 : ¬ V.fPhase = 2 := by omega
           have e3 : ¬ V.fPhase = 3 := by omega
           unfold vcheck vheadB vokB; simp_all; done)
        | (unfold vcheck vheadB vokB; simp_all; omega)
    ·
      first | have hs2_6 := of_decide_eq_true hs2_60 | have hs2_6 := of_decide_eq_false hs2_60 | have hs2_6 := nd_t hs2_60 | have hs2_6 := nd_f hs2_60 | have hs2_6 := hs2_60
      refine Tr.pick rfl rfl rfl rfl rfl rfl ?_
      refine Tr.move rfl rfl rfl ?_
      refine Tr.fld rfl rfl rfl Tryz.underlying29 rfl Sz22 dE _ rfl ?_
      refine Tr.load1 rfl rfl rfl Tryz.underlying22 rfl mM (by first | exact Vote.get_fRound (by first | (simp [hV.l_fValue]; done) | exact oK | exact Point.zero_ok | exact wide.zero_ok | exact secrets.zero_ok | exact far.zero_ok | exact Cut.zero_ok | exact Cert.zero_ok | exact Msg.zero_ok | exact Inbox.zero_ok | exact Record.zero_ok | exact Kept.zero_ok  | exact hV) | exact (by first | rfl | exact get_wds (by first | omega | (simp [hV.l_fValue]; omega)) | exact get_wds (by first | omega | (simp [hV.l_fValue]; omega)) | exact get_words (by first | omega | (simp [hV.l_fValue]; done) | (simp [hV.l_fValue]; omega)) | exact get_bytes (by first | omega | (simp [hV.l_fValue]; done) | (simp [hV.l_fValue]; omega)) | exact get_ints (by first | omega | (simp [hV.l_fValue]; done) | (simp [hV.l_fValue]; omega)))) ?_
      refine two (fun r hr k => Tr.gtr rfl rfl rfl rfl hr k) (fun hs2_110 => ?_) (fun hs2_110 => ?_)
      ·
        first | have hs2_11 := of_decide_eq_true hs2_110 | have hs2_11 := of_decide_eq_false hs2_110 | have hs2_11 := nd_t hs2_110 | have hs2_11 := nd_f hs2_110 | have hs2_11 := hs2_110
        refine Tr.pick rfl rfl rfl rfl rfl rfl ?_
        refine Tr.move rfl rfl rfl ?_
        refine Tr.skp rfl rfl ?_
        refine Tr.skp rfl rfl ?_
        refine Tr.skp rfl rfl ?_
        refine Tr.pick rfl rfl rfl rfl rfl rfl ?_
        refine Tr.move rfl rfl rfl ?_
        refine Tr.skp rfl rfl ?_
        refine Tr.skp rfl rfl ?_
        refine Tr.skp rfl rfl ?_
        refine Tr.pick rfl rfl rfl rfl rfl rfl ?_
        refine Tr.nil (at_n ?_)
        refine Sat.cond_t rfl rfl ?_
        refine Sat.seq (Sat.region ?_)
        refine Tr.assign rfl rfl rfl ?_
        refine Tr.nil (at_n (Sat.ret (at_r (en_r ?_))))
        refine ⟨_, [], res_tmp rfl rfl, sP, sP, ?_, rfl⟩
        first
          | (unfold vcheck vheadB vokB; simp_all; done)
          | (have e1 : ¬ V.fPhase = 1 := by omega
             have e2 : ¬ V.fPhase = 2 := by omega
             have e3 : ¬ V.fPhase = 3 := by omega
             unfold vcheck vheadB vokB; simp_all; done)
          | (unfold vcheck vheadB vokB; simp_all; omega)
      ·
        first | have hs2_11 := of_decide_eq_true hs2_110 | have hs2_11 := of_decide_eq_false hs2_110 | have hs2_11 := nd_t hs2_110 | have hs2_11 := nd_f hs2_110 | have hs2_11 := hs2_110
        refine Tr.pick rfl rfl rfl rfl rfl rfl ?_
        refine Tr.move rfl rfl rfl ?_
        refine Tr.fld rfl rfl rfl Tryz.underlying29 rfl Sz3 dE _ rfl ?_
        refine Tr.load1 rfl rfl rfl Tryz.underlying3 rfl mM (by first | exact Vote.get_fPhase (by first | (simp [hV.l_fValue]; done) | exact oK | exact Point.zero_ok | exact wide.zero_ok | exact secrets.zero_ok | exact far.zero_ok | exact Cut.zero_ok | exact Cert.zero_ok | exact Msg.zero_ok | exact Inbox.zero_ok | exact Record.zero_ok | exact Kept.zero_ok  | exact hV) | exact (by first | rfl | exact get_wds (by first | omega | (simp [hV.l_fValue]; omega)) | exact get_wds (by first | omega | (simp [hV.l_fValue]; omega)) | exact get_words (by first | omega | (simp [hV.l_fValue]; done) | (simp [hV.l_fValue]; omega)) | exact get_bytes (by first | omega | (simp [hV.l_fValue]; done) | (simp [hV.l_fValue]; omega)) | exact get_ints (by first | omega | (simp [hV.l_fValue]; done) | (simp [hV.l_fValue]; omega)))) ?_
        refine two (fun r hr k => Tr.lss rfl rfl rfl rfl hr k) (fun hs2_160 => ?_) (fun hs2_160 => ?_)
        ·
          first | have hs2_16 := of_decide_eq_true hs2_160 | have hs2_16 := of_decide_eq_false hs2_160 | have hs2_16 := nd_t hs2_160 | have hs2_16 := nd_f hs2_160 | have hs2_16 := hs2_160
          refine Tr.pick rfl rfl rfl rfl rfl rfl ?_
          refine Tr.move rfl rfl rfl ?_
          refine Tr.skp rfl rfl ?_
          refine Tr.skp rfl rfl ?_
          refine Tr.skp rfl rfl ?_
          refine Tr.pick rfl rfl rfl rfl rfl rfl ?_
          refine Tr.nil (at_n ?_)
          refine Sat.cond_t rfl rfl ?_
          refine Sat.seq (Sat.region ?_)
          refine Tr.assign rfl rfl rfl ?_
          refine Tr.nil (at_n (Sat.ret (at_r (en_r ?_))))
          refine ⟨_, [], res_tmp rfl rfl, sP, sP, ?_, rfl⟩
          first
            | (unfold vcheck vheadB vokB; simp_all; done)
            | (have e1 : ¬ V.fPhase = 1 := by omega
               have e2 : ¬ V.fPhase = 2 := by omega
               have e3 : ¬ V.fPhase = 3 := by omega
               unfold vcheck vheadB vokB; simp_all; done)
            | (unfold vcheck vheadB vokB; simp_all; omega)
        ·
          first | have hs2_16 := of_decide_eq_true hs2_160 | have hs2_16 := of_decide_eq_false hs2_160 | have hs2_16 := nd_t hs2_160 | have hs2_16 := nd_f hs2_160 | have hs2_16 := hs2_160
          refine Tr.pick rfl rfl rfl rfl rfl rfl ?_
          refine Tr.move rfl rfl rfl ?_
          refine Tr.fld rfl rfl rfl Tryz.underlying29 rfl Sz3 dE _ rfl ?_
          refine Tr.load1 rfl rfl rfl Tryz.underlying3 rfl mM (by first | exact Vote.get_fPhase (by first | (simp [hV.l_fValue]; done) | exact oK | exact Point.zero_ok | exact wide.zero_ok | exact secrets.zero_ok | exact far.zero_ok | exact Cut.zero_ok | exact Cert.zero_ok | exact Msg.zero_ok | exact Inbox.zero_ok | exact Record.zero_ok | exact Kept.zero_ok  | exact hV) | exact (by first | rfl | exact get_wds (by first | omega | (simp [hV.l_fValue]; omega)) | exact get_wds (by first | omega | (simp [hV.l_fValue]; omega)) | exact get_words (by first | omega | (simp [hV.l_fValue]; done) | (simp [hV.l_fValue]; omega)) | exact get_bytes (by first | omega | (simp [hV.l_fValue]; done) | (simp [hV.l_fValue]; omega)) | exact get_ints (by first | omega | (simp [hV.l_fValue]; done) | (simp [hV.l_fValue]; omega)))) ?_
          refine Tr.gtr rfl rfl rfl rfl rfl ?_
          refine Tr.pick rfl rfl rfl rfl rfl rfl ?_
          refine Tr.nil (at_n ?_)
          first
            | refine Sat.condP rfl (fun hc0 => ?_) (fun hc0 => ?_)
            | refine Sat.condNP rfl (fun hc0 => ?_) (fun hc0 => ?_)
            | refine Sat.cond rfl (fun hc0 => ?_) (fun hc0 => ?_)
          ·
            refine Sat.seq (Sat.region ?_)
            refine Tr.assign rfl rfl rfl ?_
            refine Tr.nil (at_n (Sat.ret (at_r (en_r ?_))))
            refine ⟨_, [], res_tmp rfl rfl, sP, sP, ?_, rfl⟩
            first
              | (unfold vcheck vheadB vokB; simp_all; done)
              | (have e1 : ¬ V.fPhase = 1 := by omega
                 have e2 : ¬ V.fPhase = 2 := by omega
                 have e3 : ¬ V.fPhase = 3 := by omega
                 unfold vcheck vheadB vokB; simp_all; done)
              | (unfold vcheck vheadB vokB; simp_all; omega)
          ·
            refine Sat.skip (at_n (Sat.seq (Sat.seq (Sat.region ?_))))
            refine Tr.fld rfl rfl rfl Tryz.underlying29 rfl Sz3 dE _ rfl ?_
            refine Tr.load1 rfl rfl rfl Tryz.underlying3 rfl mM (by first | exact Vote.get_fPhase (by first | (simp [hV.l_fValue]; done) | exact oK | exact Point.zero_ok | exact wide.zero_ok | exact secrets.zero_ok | exact far.zero_ok | exact Cut.zero_ok | exact Cert.zero_ok | exact Msg.zero_ok | exact Inbox.zero_ok | exact Record.zero_ok | exact Kept.zero_ok  | exact hV) | exact (by first | rfl | exact get_wds (by first | omega | (simp [hV.l_fValue]; omega)) | exact get_wds (by first | omega | (simp [hV.l_fValue]; omega)) | exact get_words (by first | omega | (simp [hV.l_fValue]; done) | (simp [hV.l_fValue]; omega)) | exact get_bytes (by first | omega | (simp [hV.l_fValue]; done) | (simp [hV.l_fValue]; omega)) | exact get_ints (by first | omega | (simp [hV.l_fValue]; done) | (simp [hV.l_fValue]; omega)))) ?_
            refine two (fun r hr k => Tr.eqi rfl rfl rfl rfl hr k) (fun hs4_20 => ?_) (fun hs4_20 => ?_)
            ·
              first | have hs4_2 := of_decide_eq_true hs4_20 | have hs4_2 := of_decide_eq_false hs4_20 | have hs4_2 := nd_t hs4_20 | have hs4_2 := nd_f hs4_20 | have hs4_2 := hs4_20
              refine Tr.move rfl rfl rfl ?_
              refine Tr.fld rfl rfl rfl Tryz.underlying29 rfl Sz24 dE _ rfl ?_
              first
                | refine Tr.loadN (bytesV _) rfl rfl rfl Tryz.underlying24 rfl Sz24 mM (Vote.row_fValue (by first | (simp [hV.l_fValue]; done) | exact oK | exact Point.zero_ok | exact wide.zero_ok | exact secrets.zero_ok | exact far.zero_ok | exact Cut.zero_ok | exact Cert.zero_ok | exact Msg.zero_ok | exact Inbox.zero_ok | exact Record.zero_ok | exact Kept.zero_ok  | exact hV)) (Vote.rl_fValue (by first | (simp [hV.l_fValue]; done) | exact oK | exact Point.zero_ok | exact wide.zero_ok | exact secrets.zero_ok | exact far.zero_ok | exact Cut.zero_ok | exact Cert.zero_ok | exact Msg.zero_ok | exact Inbox.zero_ok | exact Record.zero_ok | exact Kept.zero_ok  | exact hV)) ?_
              first
                | refine Tr.loadAll rfl rfl rfl Tryz.underlying24 rfl Sz24 mM (by first | (simp [hV.l_fValue]; done) | assumption | (rw [bytesV, List.length_map]; assumption)) ?_
                | refine Tr.loadN _ rfl rfl rfl Tryz.underlying24 rfl Sz24 mM (by exact rfl) (by first | (simp [hV.l_fValue]; done) | assumption | (rw [bytesV, List.length_map]; assumption)) ?_
              refine two (fun r hr k => Tr.eql_bytes rfl rfl rfl rfl Tryz.eqGuardType24 Tryz.underlying24 Tryz.underlying5 Sz5 (by first | (simp [hV.l_fValue]; done) | assumption | (rw [bytesV, List.length_map]; assumption)) (by first | (simp [hV.l_fValue]; done) | assumption | (rw [bytesV, List.length_map]; assumption)) hr k) (fun hs4_70 => ?_) (fun hs4_70 => ?_)
              ·
                first | have hs4_7 := of_decide_eq_true hs4_70 | have hs4_7 := of_decide_eq_false hs4_70 | have hs4_7 := nd_t hs4_70 | have hs4_7 := nd_f hs4_70 | have hs4_7 := hs4_70
                refine Tr.move rfl rfl rfl ?_
                refine Tr.skp rfl rfl ?_
                refine Tr.skp rfl rfl ?_
                refine Tr.skp rfl rfl ?_
                refine Tr.skp rfl rfl ?_
                refine Tr.skp rfl rfl ?_
                refine Tr.pick rfl rfl rfl rfl rfl rfl ?_
                refine Tr.pick rfl rfl rfl rfl rfl rfl ?_
                refine Tr.move rfl rfl rfl ?_
                refine Tr.skp rfl rfl ?_
                refine Tr.skp rfl rfl ?_
                refine Tr.skp rfl rfl ?_
                refine Tr.skp rfl rfl ?_
                refine Tr.skp rfl rfl ?_
                refine Tr.skp rfl rfl ?_
                refine Tr.skp rfl rfl ?_
                refine Tr.skp rfl rfl ?_
                refine Tr.pick rfl rfl rfl rfl rfl rfl ?_
                refine Tr.nil (at_n ?_)
                refine Sat.cond_t rfl rfl ?_
                refine Sat.seq (Sat.region ?_)
                refine Tr.assign rfl rfl rfl ?_
                refine Tr.nil (at_n (Sat.ret (at_r (en_r ?_))))
                refine ⟨_, [], res_tmp rfl rfl, sP, sP, ?_, rfl⟩
                first
                  | (unfold vcheck vheadB vokB; simp_all; done)
                  | (have e1 : ¬ V.fPhase = 1 := by omega
                     have e2 : ¬ V.fPhase = 2 := by omega
                     have e3 : ¬ V.fPhase = 3 := by omega
                     unfold vcheck vheadB vokB; simp_all; done)
                  | (unfold vcheck vheadB vokB; simp_all; omega)
              ·
                first | have hs4_7 := of_decide_eq_true hs4_70 | have hs4_7 := of_decide_eq_false hs4_70 | have hs4_7 := nd_t hs4_70 | have hs4_7 := nd_f hs4_70 | have hs4_7 := hs4_70
                refine Tr.move rfl rfl rfl ?_
                refine Tr.fld rfl rfl rfl Tryz.underlying29 rfl Sz22 dE _ rfl ?_
                refine Tr.load1 rfl rfl rfl Tryz.underlying22 rfl mM (by first | exact Vote.get_fProof (by first | (simp [hV.l_fValue]; done) | exact oK | exact Point.zero_ok | exact wide.zero_ok | exact secrets.zero_ok | exact far.zero_ok | exact Cut.zero_ok | exact Cert.zero_ok | exact Msg.zero_ok | exact Inbox.zero_ok | exact Record.zero_ok | exact Kept.zero_ok  | exact hV) | exact (by first | rfl | exact get_wds (by first | omega | (simp [hV.l_fValue]; omega)) | exact get_wds (by first | omega | (simp [hV.l_fValue]; omega)) | exact get_words (by first | omega | (simp [hV.l_fValue]; done) | (simp [hV.l_fValue]; omega)) | exact get_bytes (by first | omega | (simp [hV.l_fValue]; done) | (simp [hV.l_fValue]; omega)) | exact get_ints (by first | omega | (simp [hV.l_fValue]; done) | (simp [hV.l_fValue]; omega)))) ?_
                refine Tr.fld rfl rfl rfl Tryz.underlying29 rfl Sz22 dE _ rfl ?_
                refine Tr.load1 rfl rfl rfl Tryz.underlying22 rfl mM (by first | exact Vote.get_fRound (by first | (simp [hV.l_fValue]; done) | exact oK | exact Point.zero_ok | exact wide.zero_ok | exact secrets.zero_ok | exact far.zero_ok | exact Cut.zero_ok | exact Cert.zero_ok | exact Msg.zero_ok | exact Inbox.zero_ok | exact Record.zero_ok | exact Kept.zero_ok  | exact hV) | exact (by first | rfl | exact get_wds (by first | omega | (simp [hV.l_fValue]; omega)) | exact get_wds (by first | omega | (simp [hV.l_fValue]; omega)) | exact get_words (by first | omega | (simp [hV.l_fValue]; done) | (simp [hV.l_fValue]; omega)) | exact get_bytes (by first | omega | (simp [hV.l_fValue]; done) | (simp [hV.l_fValue]; omega)) | exact get_ints (by first | omega | (simp [hV.l_fValue]; done) | (simp [hV.l_fValue]; omega)))) ?_
                refine two (fun r hr k => Tr.gtr rfl rfl rfl rfl hr k) (fun hs4_130 => ?_) (fun hs4_130 => ?_)
                ·
                  first | have hs4_13 := of_decide_eq_true hs4_130 | have hs4_13 := of_decide_eq_false hs4_130 | have hs4_13 := nd_t hs4_130 | have hs4_13 := nd_f hs4_130 | have hs4_13 := hs4_130
                  refine Tr.pick rfl rfl rfl rfl rfl rfl ?_
                  refine Tr.pick rfl rfl rfl rfl rfl rfl ?_
                  refine Tr.move rfl rfl rfl ?_
                  refine Tr.skp rfl rfl ?_
                  refine Tr.skp rfl rfl ?_
                  refine Tr.skp rfl rfl ?_
                  refine Tr.skp rfl rfl ?_
                  refine Tr.skp rfl rfl ?_
                  refine Tr.skp rfl rfl ?_
                  refine Tr.skp rfl rfl ?_
                  refine Tr.skp rfl rfl ?_
                  refine Tr.pick rfl rfl rfl rfl rfl rfl ?_
                  refine Tr.nil (at_n ?_)
                  refine Sat.cond_t rfl rfl ?_
                  refine Sat.seq (Sat.region ?_)
                  refine Tr.assign rfl rfl rfl ?_
                  refine Tr.nil (at_n (Sat.ret (at_r (en_r ?_))))
                  refine ⟨_, [], res_tmp rfl rfl, sP, sP, ?_, rfl⟩
                  first
                    | (unfold vcheck vheadB vokB; simp_all; done)
                    | (have e1 : ¬ V.fPhase = 1 := by omega
                       have e2 : ¬ V.fPhase = 2 := by omega
                       have e3 : ¬ V.fPhase = 3 := by omega
                       unfold vcheck vheadB vokB; simp_all; done)
                    | (unfold vcheck vheadB vokB; simp_all; omega)
                ·
                  first | have hs4_13 := of_decide_eq_true hs4_130 | have hs4_13 := of_decide_eq_false hs4_130 | have hs4_13 := nd_t hs4_130 | have hs4_13 := nd_f hs4_130 | have hs4_13 := hs4_130
                  refine Tr.pick rfl rfl rfl rfl rfl rfl ?_
                  refine Tr.pick rfl rfl rfl rfl rfl rfl ?_
                  refine Tr.move rfl rfl rfl ?_
                  refine Tr.fld rfl rfl rfl Tryz.underlying29 rfl Sz3 dE _ rfl ?_
                  refine Tr.load1 rfl rfl rfl Tryz.underlying3 rfl mM (by first | exact Vote.get_fPhase (by first | (simp [hV.l_fValue]; done) | exact oK | exact Point.zero_ok | exact wide.zero_ok | exact secrets.zero_ok | exact far.zero_ok | exact Cut.zero_ok | exact Cert.zero_ok | exact Msg.zero_ok | exact Inbox.zero_ok | exact Record.zero_ok | exact Kept.zero_ok  | exact hV) | exact (by first | rfl | exact get_wds (by first | omega | (simp [hV.l_fValue]; omega)) | exact get_wds (by first | omega | (simp [hV.l_fValue]; omega)) | exact get_words (by first | omega | (simp [hV.l_fValue]; done) | (simp [hV.l_fValue]; omega)) | exact get_bytes (by first | omega | (simp [hV.l_fValue]; done) | (simp [hV.l_fValue]; omega)) | exact get_ints (by first | omega | (simp [hV.l_fValue]; done) | (simp [hV.l_fValue]; omega)))) ?_
                  refine two (fun r hr k => Tr.nei rfl rfl rfl rfl hr k) (fun hs4_190 => ?_) (fun hs4_190 => ?_)
                  ·
                    first | have hs4_19 := of_decide_eq_true hs4_190 | have hs4_19 := of_decide_eq_false hs4_190 | have hs4_19 := nd_t hs4_190 | have hs4_19 := nd_f hs4_190 | have hs4_19 := hs4_190
                    refine Tr.move rfl rfl rfl ?_
                    refine Tr.fld rfl rfl rfl Tryz.underlying29 rfl Sz22 dE _ rfl ?_
                    refine Tr.load1 rfl rfl rfl Tryz.underlying22 rfl mM (by first | exact Vote.get_fProof (by first | (simp [hV.l_fValue]; done) | exact oK | exact Point.zero_ok | exact wide.zero_ok | exact secrets.zero_ok | exact far.zero_ok | exact Cut.zero_ok | exact Cert.zero_ok | exact Msg.zero_ok | exact Inbox.zero_ok | exact Record.zero_ok | exact Kept.zero_ok  | exact hV) | exact (by first | rfl | exact get_wds (by first | omega | (simp [hV.l_fValue]; omega)) | exact get_wds (by first | omega | (simp [hV.l_fValue]; omega)) | exact get_words (by first | omega | (simp [hV.l_fValue]; done) | (simp [hV.l_fValue]; omega)) | exact get_bytes (by first | omega | (simp [hV.l_fValue]; done) | (simp [hV.l_fValue]; omega)) | exact get_ints (by first | omega | (simp [hV.l_fValue]; done) | (simp [hV.l_fValue]; omega)))) ?_
                    refine Tr.nei rfl rfl rfl rfl rfl ?_
                    refine Tr.pick rfl rfl rfl rfl rfl rfl ?_
                    refine Tr.pick rfl rfl rfl rfl rfl rfl ?_
                    refine Tr.nil (at_n ?_)
                    first
                      | refine Sat.condP rfl (fun hc1 => ?_) (fun hc1 => ?_)
                      | refine Sat.condNP rfl (fun hc1 => ?_) (fun hc1 => ?_)
                      | refine Sat.cond rfl (fun hc1 => ?_) (fun hc1 => ?_)
                    ·
                      refine Sat.seq (Sat.region ?_)
                      refine Tr.assign rfl rfl rfl ?_
                      refine Tr.nil (at_n (Sat.ret (at_r (en_r ?_))))
                      refine ⟨_, [], res_tmp rfl rfl, sP, sP, ?_, rfl⟩
                      first
                        | (unfold vcheck vheadB vokB; simp_all; done)
                        | (have e1 : ¬ V.fPhase = 1 := by omega
                           have e2 : ¬ V.fPhase = 2 := by omega
                           have e3 : ¬ V.fPhase = 3 := by omega
                           unfold vcheck vheadB vokB; simp_all; done)
                        | (unfold vcheck vheadB vokB; simp_all; omega)
                    ·
                      refine Sat.skip (at_n (Sat.seq (Sat.region ?_)))
                      refine Tr.assign rfl rfl rfl ?_
                      refine Tr.nil (at_n (Sat.ret (en_r ?_)))
                      refine ⟨_, [], res_tmp rfl rfl, sP, sP, ?_, rfl⟩
                      first
                        | (unfold vcheck vheadB vokB; simp_all; done)
                        | (have e1 : ¬ V.fPhase = 1 := by omega
                           have e2 : ¬ V.fPhase = 2 := by omega
                           have e3 : ¬ V.fPhase = 3 := by omega
                           unfold vcheck vheadB vokB; simp_all; done)
                        | (unfold vcheck vheadB vokB; simp_all; omega)
                  ·
                    first | have hs4_19 := of_decide_eq_true hs4_190 | have hs4_19 := of_decide_eq_false hs4_190 | have hs4_19 := nd_t hs4_190 | have hs4_19 := nd_f hs4_190 | have hs4_19 := hs4_190
                    refine Tr.move rfl rfl rfl ?_
                    refine Tr.skp rfl rfl ?_
                    refine Tr.skp rfl rfl ?_
                    refine Tr.skp rfl rfl ?_
                    refine Tr.pick rfl rfl rfl rfl rfl rfl ?_
                    refine Tr.pick rfl rfl rfl rfl rfl rfl ?_
                    refine Tr.nil (at_n ?_)
                    refine Sat.cond_f rfl rfl ?_
                    refine Sat.skip (at_n (Sat.seq (Sat.region ?_)))
                    refine Tr.assign rfl rfl rfl ?_
                    refine Tr.nil (at_n (Sat.ret (en_r ?_)))
                    refine ⟨_, [], res_tmp rfl rfl, sP, sP, ?_, rfl⟩
                    first
                      | (unfold vcheck vheadB vokB; simp_all; done)
                      | (have e1 : ¬ V.fPhase = 1 := by omega
                         have e2 : ¬ V.fPhase = 2 := by omega
                         have e3 : ¬ V.fPhase = 3 := by omega
                         unfold vcheck vheadB vokB; simp_all; done)
                      | (unfold vcheck vheadB vokB; simp_all; omega)
            ·
              first | have hs4_2 := of_decide_eq_true hs4_20 | have hs4_2 := of_decide_eq_false hs4_20 | have hs4_2 := nd_t hs4_20 | have hs4_2 := nd_f hs4_20 | have hs4_2 := hs4_20
              refine Tr.move rfl rfl rfl ?_
              refine Tr.skp rfl rfl ?_
              refine Tr.skp rfl rfl ?_
              refine Tr.skp rfl rfl ?_
              refine Tr.skp rfl rfl ?_
              refine Tr.skp rfl rfl ?_
              refine Tr.skp rfl rfl ?_
              refine Tr.skp rfl rfl ?_
              refine Tr.skp rfl rfl ?_
              refine Tr.skp rfl rfl ?_
              refine Tr.skp rfl rfl ?_
              refine Tr.skp rfl rfl ?_
              refine Tr.pick rfl rfl rfl rfl rfl rfl ?_
              refine Tr.move rfl rfl rfl ?_
              refine Tr.fld rfl rfl rfl Tryz.underlying29 rfl Sz3 dE _ rfl ?_
              refine Tr.load1 rfl rfl rfl Tryz.underlying3 rfl mM (by first | exact Vote.get_fPhase (by first | (simp [hV.l_fValue]; done) | exact oK | exact Point.zero_ok | exact wide.zero_ok | exact secrets.zero_ok | exact far.zero_ok | exact Cut.zero_ok | exact Cert.zero_ok | exact Msg.zero_ok | exact Inbox.zero_ok | exact Record.zero_ok | exact Kept.zero_ok  | exact hV) | exact (by first | rfl | exact get_wds (by first | omega | (simp [hV.l_fValue]; omega)) | exact get_wds (by first | omega | (simp [hV.l_fValue]; omega)) | exact get_words (by first | omega | (simp [hV.l_fValue]; done) | (simp [hV.l_fValue]; omega)) | exact get_bytes (by first | omega | (simp [hV.l_fValue]; done) | (simp [hV.l_fValue]; omega)) | exact get_ints (by first | omega | (simp [hV.l_fValue]; done) | (simp [hV.l_fValue]; omega)))) ?_
              refine two (fun r hr k => Tr.nei rfl rfl rfl rfl hr k) (fun hs4_190 => ?_) (fun hs4_190 => ?_)
              ·
                first | have hs4_19 := of_decide_eq_true hs4_190 | have hs4_19 := of_decide_eq_false hs4_190 | have hs4_19 := nd_t hs4_190 | have hs4_19 := nd_f hs4_190 | have hs4_19 := hs4_190
                refine Tr.move rfl rfl rfl ?_
                refine Tr.fld rfl rfl rfl Tryz.underlying29 rfl Sz22 dE _ rfl ?_
                refine Tr.load1 rfl rfl rfl Tryz.underlying22 rfl mM (by first | exact Vote.get_fProof (by first | (simp [hV.l_fValue]; done) | exact oK | exact Point.zero_ok | exact wide.zero_ok | exact secrets.zero_ok | exact far.zero_ok | exact Cut.zero_ok | exact Cert.zero_ok | exact Msg.zero_ok | exact Inbox.zero_ok | exact Record.zero_ok | exact Kept.zero_ok  | exact hV) | exact (by first | rfl | exact get_wds (by first | omega | (simp [hV.l_fValue]; omega)) | exact get_wds (by first | omega | (simp [hV.l_fValue]; omega)) | exact get_words (by first | omega | (simp [hV.l_fValue]; done) | (simp [hV.l_fValue]; omega)) | exact get_bytes (by first | omega | (simp [hV.l_fValue]; done) | (simp [hV.l_fValue]; omega)) | exact get_ints (by first | omega | (simp [hV.l_fValue]; done) | (simp [hV.l_fValue]; omega)))) ?_
                refine Tr.nei rfl rfl rfl rfl rfl ?_
                refine Tr.pick rfl rfl rfl rfl rfl rfl ?_
                refine Tr.pick rfl rfl rfl rfl rfl rfl ?_
                refine Tr.nil (at_n ?_)
                first
                  | refine Sat.condP rfl (fun hc1 => ?_) (fun hc1 => ?_)
                  | refine Sat.condNP rfl (fun hc1 => ?_) (fun hc1 => ?_)
                  | refine Sat.cond rfl (fun hc1 => ?_) (fun hc1 => ?_)
                ·
                  refine Sat.seq (Sat.region ?_)
                  refine Tr.assign rfl rfl rfl ?_
                  refine Tr.nil (at_n (Sat.ret (at_r (en_r ?_))))
                  refine ⟨_, [], res_tmp rfl rfl, sP, sP, ?_, rfl⟩
                  first
                    | (unfold vcheck vheadB vokB; simp_all; done)
                    | (have e1 : ¬ V.fPhase = 1 := by omega
                       have e2 : ¬ V.fPhase = 2 := by omega
                       have e3 : ¬ V.fPhase = 3 := by omega
                       unfold vcheck vheadB vokB; simp_all; done)
                    | (unfold vcheck vheadB vokB; simp_all; omega)
                ·
                  refine Sat.skip (at_n (Sat.seq (Sat.region ?_)))
                  refine Tr.assign rfl rfl rfl ?_
                  refine Tr.nil (at_n (Sat.ret (en_r ?_)))
                  refine ⟨_, [], res_tmp rfl rfl, sP, sP, ?_, rfl⟩
                  first
                    | (unfold vcheck vheadB vokB; simp_all; done)
                    | (have e1 : ¬ V.fPhase = 1 := by omega
                       have e2 : ¬ V.fPhase = 2 := by omega
                       have e3 : ¬ V.fPhase = 3 := by omega
                       unfold vcheck vheadB vokB; simp_all; done)
                    | (unfold vcheck vheadB vokB; simp_all; omega)
              ·
                first | have hs4_19 := of_decide_eq_true hs4_190 | have hs4_19 := of_decide_eq_false hs4_190 | have hs4_19 := nd_t hs4_190 | have hs4_19 := nd_f hs4_190 | have hs4_19 := hs4_190
                refine Tr.move rfl rfl rfl ?_
                refine Tr.skp rfl rfl ?_
                refine Tr.skp rfl rfl ?_
                refine Tr.skp rfl rfl ?_
                refine Tr.pick rfl rfl rfl rfl rfl rfl ?_
                refine Tr.pick rfl rfl rfl rfl rfl rfl ?_
                refine Tr.nil (at_n ?_)
                refine Sat.cond_f rfl rfl ?_
                refine Sat.skip (at_n (Sat.seq (Sat.region ?_)))
                refine Tr.assign rfl rfl rfl ?_
                refine Tr.nil (at_n (Sat.ret (en_r ?_)))
                refine ⟨_, [], res_tmp rfl rfl, sP, sP, ?_, rfl⟩
                first
                  | (unfold vcheck vheadB vokB; simp_all; done)
                  | (have e1 : ¬ V.fPhase = 1 := by omega
                     have e2 : ¬ V.fPhase = 2 := by omega
                     have e3 : ¬ V.fPhase = 3 := by omega
                     unfold vcheck vheadB vokB; simp_all; done)
                  | (unfold vcheck vheadB vokB; simp_all; omega)

set_option maxRecDepth 100000 in
set_option maxHeartbeats 8000000 in
theorem r20_Good (V : Vote) (hV : V.ok) : Meets Tryz.prog 15 [agg V.cells] [] (fun _ => True) (fun v out => v = i64 (vgood V) ∧ out = []) := by
 intro W hW
 have hvl := vtxt_length hV
 have hvn := voteN_le V
 refine calls_of (hp0 := []) Tryz.func15 rfl 14 Tryz.ntmps15 rfl (HRep.nil _) ?_
 refine Sat.seq (Sat.region ?_)
 refine Tr.boxA rfl rfl ?_
 intro n1 hn1 hf1
 refine Tr.assign rfl rfl rfl ?_
 refine Tr.nil (at_n (Sat.seq (Sat.seq (Sat.region ?_))))
 refine Tr.loadAll rfl rfl rfl Tryz.underlying29 rfl Sz29 mM (Vote.length (by first | (simp [hV.l_fVoter, hV.l_fSig]; done) | exact oK | exact Point.zero_ok | exact wide.zero_ok | exact secrets.zero_ok | exact far.zero_ok | exact Cut.zero_ok | exact Cert.zero_ok | exact Msg.zero_ok | exact Inbox.zero_ok | exact Record.zero_ok | exact Kept.zero_ok  | exact hV)) ?_
 refine Tr.callV rfl rfl rfl rfl Body28 (r20_Check V hV) (fun _ _ => trivial) ?_
 refine Tr.nei rfl rfl rfl rfl rfl ?_
 refine Tr.nil (at_n ?_)
 first
  | refine Sat.condP rfl (fun hc0 => ?_) (fun hc0 => ?_)
  | refine Sat.condNP rfl (fun hc0 => ?_) (fun hc0 => ?_)
  | refine Sat.cond rfl (fun hc0 => ?_) (fun hc0 => ?_)
 ·
  refine Sat.seq (Sat.region ?_)
  refine Tr.assign rfl rfl rfl ?_
  refine Tr.nil (at_n (Sat.ret (at_r (en_r ?_))))
  refine ⟨_, [], res_tmp rfl rfl, sP, sP, ?_, rfl⟩
  first
   | (unfold vgood; rw [if_neg hc0, vcheck_2 hc0]; done)
   | (unfold vgood; rw [if_pos oM, if_neg (by intro e; rw [e] at hc1; cases hc1)]; done)
   | (unfold vgood; rw [if_pos oM, if_pos (by simpa using hc1)]; done)
 ·
  refine Sat.skip (at_n (Sat.seq (Sat.seq ?_)))
  refine Sat.draw [(0, 0), (1, 1), (1, 2), (0, 4), (1, 5), (3, 3), (3, 6), (0, 7)] Mixed (by kernel_rfl) ?_
  refine Tr.fld rfl rfl rfl Tryz.underlying29 rfl Sz25 dE _ rfl ?_
  first
   | refine Tr.loadN (bytesV _) rfl rfl rfl Tryz.underlying25 rfl Sz25 mM (Vote.row_fVoter (by first | (simp [hV.l_fVoter, hV.l_fSig]; done) | exact oK | exact Point.zero_ok | exact wide.zero_ok | exact secrets.zero_ok | exact far.zero_ok | exact Cut.zero_ok | exact Cert.zero_ok | exact Msg.zero_ok | exact Inbox.zero_ok | exact Record.zero_ok | exact Kept.zero_ok  | exact hV)) (Vote.rl_fVoter (by first | (simp [hV.l_fVoter, hV.l_fSig]; done) | exact oK | exact Point.zero_ok | exact wide.zero_ok | exact secrets.zero_ok | exact far.zero_ok | exact Cut.zero_ok | exact Cert.zero_ok | exact Msg.zero_ok | exact Inbox.zero_ok | exact Record.zero_ok | exact Kept.zero_ok  | exact hV)) ?_
  refine Tr.loadAll rfl rfl rfl Tryz.underlying29 rfl Sz29 mM (Vote.length (by first | (simp [hV.l_fVoter, hV.l_fSig]; done) | exact oK | exact Point.zero_ok | exact wide.zero_ok | exact secrets.zero_ok | exact far.zero_ok | exact Cut.zero_ok | exact Cert.zero_ok | exact Msg.zero_ok | exact Inbox.zero_ok | exact Record.zero_ok | exact Kept.zero_ok  | exact hV)) ?_
  refine Tr.fld rfl rfl rfl Tryz.underlying29 rfl Sz27 dE _ rfl ?_
  first
   | refine Tr.loadN (bytesV _) rfl rfl rfl Tryz.underlying27 rfl Sz27 mM (Vote.row_fSig (by first | (simp [hV.l_fVoter, hV.l_fSig]; done) | exact oK | exact Point.zero_ok | exact wide.zero_ok | exact secrets.zero_ok | exact far.zero_ok | exact Cut.zero_ok | exact Cert.zero_ok | exact Msg.zero_ok | exact Inbox.zero_ok | exact Record.zero_ok | exact Kept.zero_ok  | exact hV)) (Vote.rl_fSig (by first | (simp [hV.l_fVoter, hV.l_fSig]; done) | exact oK | exact Point.zero_ok | exact wide.zero_ok | exact secrets.zero_ok | exact far.zero_ok | exact Cut.zero_ok | exact Cert.zero_ok | exact Msg.zero_ok | exact Inbox.zero_ok | exact Record.zero_ok | exact Kept.zero_ok  | exact hV)) ?_
  refine Tr.call rfl rfl rfl rfl Body29 (r20_Text V hV) (FreshRow.loose _ _ _ _) (fun _ _ => trivial) ?_
  rintro v12 out12 ⟨q12, c12, rfl, hc12, rfl⟩
  refine Tr.callV rfl rfl rfl rfl Body61 (r6_Good V.fVoter hV.l_fVoter ⟨some ⟨q12, 0, none⟩, _, c12⟩ (vtxt V) oM V.fSig hV.l_fSig) (fun w h => own_vtxt hV (SeesP.of (sees_own h mM)) hc12) ?_
  refine Tr.not rfl rfl rfl ?_
  refine Tr.nil (at_n ?_)
  refine Sat.cond rfl (fun hc1 => ?_) (fun hc1 => ?_)
  ·
   refine Sat.seq (Sat.region ?_)
   refine Tr.assign rfl rfl rfl ?_
   refine Tr.nil (at_n (Sat.ret (at_r (en_r ?_))))
   refine ⟨_, [], res_tmp rfl rfl, sP, sP, ?_, rfl⟩
   first
    | (unfold vgood; rw [if_neg hc0, vcheck_2 hc0]; done)
    | (unfold vgood; rw [if_pos oM, if_neg (by intro e; rw [e] at hc1; cases hc1)]; done)
    | (unfold vgood; rw [if_pos oM, if_pos (by simpa using hc1)]; done)
  ·
   refine Sat.skip (at_n (Sat.seq (Sat.region ?_)))
   refine Tr.assign rfl rfl rfl ?_
   refine Tr.nil (at_n (Sat.ret (en_r ?_)))
   refine ⟨_, [], res_tmp rfl rfl, sP, sP, ?_, rfl⟩
   first
    | (unfold vgood; rw [if_neg hc0, vcheck_2 hc0]; done)
    | (unfold vgood; rw [if_pos oM, if_neg (by intro e; rw [e] at hc1; cases hc1)]; done)
    | (unfold vgood; rw [if_pos oM, if_pos (by simpa using hc1)]; done)

end Go.Proofs.YtpacobmjjjillaaGreat
end

section
namespace Go.Proofs.YtpacobmjjjillaaGreat
open Go Hw
set_option linter.unusedVariables false
set_option linter.unusedSimpArgs false

open Ed

theorem tmod_lo (a : Int) {n : Nat} (h : 0 < n) : -(n : Int) < a.tmod n ∧ a.tmod n < n := ⟨Int.lt_tmod_of_pos a oM, Int.tmod_lt_of_pos a oM⟩
/-- what Pick comes to -/
def pickN (a : Int) (n : Nat) : Nat := if a.tmod n < 0 then (a.tmod n + n).toNat else (a.tmod n).toNat
theorem pickN_lt (a : Int) {n : Nat} (h : 0 < n) : pickN a n < n := by
  have := tmod_lo a h
  unfold pickN
  split <;> omega
theorem pickN_neg {a : Int} {n : Nat} (h : 0 < n) (hc : a.tmod n < 0) : a.tmod n + (n : Int) = ((pickN a n : Nat) : Int) := by
  have := tmod_lo a h
  rw [pickN, if_pos hc]; omega
theorem pickN_pos {a : Int} {n : Nat} (h : 0 < n) (hc : ¬ a.tmod n < 0) : a.tmod n = ((pickN a n : Nat) : Int) := by
  rw [pickN, if_neg hc]; omega
section
variable {C : Cx} {ops : Array Oper} {rest : List (Nat × Oper)} {sl : List (Nat × Value)} {hp : List Blk} {Q : St → Prop} {c d : Nat} {ty : TypeId} {pos : String} {af : Array Edge} {g : Option (Nat × Bool)}
variable {xT yT : TypeId} {x y : Operand} {a b : Int}
theorem Tr.rem_i64t (hg : guardOk ops sl g = true) (hk : okD c d C.N = true) (hx : evIn sl x = some (i64 a)) (hy : evIn sl y = some (i64 b)) (hr : 1 ≤ b)
    (k : Tr C ops rest ⟨(d, i64 (a.tmod b)) :: sl, hp⟩ Q) : Tr C ops ((c, ⟨some d, .binOp .rem xT x y yT, ty, pos, af, g⟩) :: rest) ⟨sl, hp⟩ Q :=
  .bin hg hk hx hy (fun w => by simp [binOp, Op.intDiv, show b ≠ 0 by omega]) k
end

set_option maxRecDepth 100000 in
set_option maxHeartbeats 1000000 in
theorem kit_pickN (g : Int) (n : Nat) (hn : 0 < n) (hn2 : n ≤ 1000000) : Meets Tryz.prog 12 [i64 g, i64 (n : Int)] [] (fun _ => True) (fun v out => v = i64 ((pickN g n : Nat) : Int) ∧ out = []) := by
 intro W hW
 have htm := tmod_lo g hn
 refine calls_of (hp0 := []) Tryz.func12 rfl 16 Tryz.ntmps12 rfl (HRep.nil _) ?_
 refine Sat.seq (Sat.region ?_)
 refine Tr.assign rfl rfl rfl ?_
 refine Tr.nil (at_n (Sat.seq (Sat.seq (Sat.region ?_))))
 refine Tr.move rfl rfl rfl ?_
 refine Tr.lss rfl rfl rfl rfl (decide_eq_false oM) ?_
 refine Tr.nil (at_n ?_)
 refine Sat.cond_f rfl (rfl) ?_
 refine Sat.skip (at_n (Sat.seq (Sat.region ?_)))
 refine Tr.move rfl rfl rfl ?_
 refine Tr.move rfl rfl rfl ?_
 refine Tr.rem_i64t rfl rfl rfl rfl oM ?_
 refine Tr.assign rfl rfl rfl ?_
 refine Tr.nil (at_n (Sat.seq (Sat.seq (Sat.region ?_))))
 refine Tr.move rfl rfl rfl ?_
 refine Tr.lss rfl rfl rfl rfl rfl ?_
 refine Tr.nil (at_n ?_)
 refine Sat.condP rfl (fun hc1 => ?_) (fun hc1 => ?_)
 ·
  refine Sat.region ?_
  refine Tr.move rfl rfl rfl ?_
  refine Tr.move rfl rfl rfl ?_
  refine Tr.add_i64 rfl rfl rfl rfl oM ?_
  refine Tr.assign rfl rfl rfl ?_
  refine Tr.nil (at_n (Sat.seq (Sat.region ?_)))
  refine Tr.move rfl rfl rfl ?_
  refine Tr.assign rfl rfl rfl ?_
  refine Tr.nil (at_n (Sat.ret (en_r ?_)))
  refine ⟨_, [], res_tmp rfl rfl, sP, sP, ?_, rfl⟩
  rw [pickN_neg hn hc1]
 ·
  refine Sat.skip (at_n (Sat.seq (Sat.region ?_)))
  refine Tr.move rfl rfl rfl ?_
  refine Tr.assign rfl rfl rfl ?_
  refine Tr.nil (at_n (Sat.ret (en_r ?_)))
  refine ⟨_, [], res_tmp rfl rfl, sP, sP, ?_, rfl⟩
  rw [pickN_pos hn hc1]

theorem vtxt_vsg (V : Vote) (K G H : List UInt8) : vtxt (vsg V K G) = vtxt (vsg V K H) := rfl
theorem vgood_eq {V : Vote} {K G : List UInt8} (hc : vcheck V = 0) (h : goodB K (vtxt (vsg V K V.fSig)) G = true) : vgood (vsg V K G) = 0 := by
  unfold vgood
  rw [vcheck_vsg, if_pos hc, if_pos]
  rw [vtxt_vsg V K G V.fSig]
  exact h
theorem vgood_self {V : Vote} (hc : vcheck V = 0) (s s1 : List UInt8) {s2 : List UInt8} (hs2 : sha512 (sgF s1 ++ (sgK s ++ vtxt (vsg V (sgK s) V.fSig))) = s2) : vgood (vsg V (sgK s) (sgF s1 ++ sgS s s1 s2)) = 0 :=
  vgood_eq hc (good_self s s1 (vtxt (vsg V (sgK s) V.fSig)) hs2)
theorem vgood_or {V : Vote} (hc : vcheck V = 0) (h : ¬ vgood V = 9) : vgood V = 0 := by
  unfold vgood at h ⊢
  rw [if_pos hc] at h ⊢
  by_cases h2 : goodB V.fVoter (vtxt V) V.fSig = true
  · rw [if_pos h2]
  · rw [if_neg h2] at h; exact absurd rfl h
theorem set_mid (A B : List Value) (l : List UInt8) (j : Nat) (hj : j < l.length) (v : UInt8) : (A ++ bytesV l ++ B).set (A.length + j) (u8 v) = A ++ bytesV (l.set j v) ++ B := by
  rw [List.append_assoc, List.set_append_right _ _ oM, Nat.add_sub_cancel_left, List.set_append_left _ _ (by rw [bytesV, List.length_map]; exact hj), set_bytes, List.append_assoc]
theorem off32 {j : Nat} (h : j < 32) : 3 + j < 132 := by omega
theorem off64 {j : Nat} (h : j < 64) : 68 + j < 132 := by omega
theorem elem_fValue {x : Vote} (h : x.ok) {j : Nat} (hj : j < 32) : x.cells[3 + j]? = some (u8 (x.fValue.getD j 0)) := Vote.see_fValue h j _ (get_bytes (by rw [h.l_fValue]; exact hj))
theorem elem_fSig {x : Vote} (h : x.ok) {j : Nat} (hj : j < 64) : x.cells[68 + j]? = some (u8 (x.fSig.getD j 0)) := Vote.see_fSig h j _ (get_bytes (by rw [h.l_fSig]; exact hj))
theorem setv_fValue {x : Vote} (h : x.ok) {j : Nat} (hj : j < 32) (v : UInt8) : x.cells.set (3 + j) (u8 v) = ({ x with fValue := x.fValue.set j v } : Vote).cells := by
  have e : ∀ l, ({ x with fValue := l } : Vote).cells = [u64 x.fHeight, u64 x.fRound, i64 x.fPhase] ++ bytesV l ++ ([u64 x.fProof] ++ bytesV x.fVoter ++ bytesV x.fSig) := fun l => by simp [Vote.cells]
  have := set_mid [u64 x.fHeight, u64 x.fRound, i64 x.fPhase] ([u64 x.fProof] ++ bytesV x.fVoter ++ bytesV x.fSig) x.fValue j (by rw [h.l_fValue]; exact hj) v
  rw [← e, ← e] at this
  exact this
theorem setv_fSig {x : Vote} (h : x.ok) {j : Nat} (hj : j < 64) (v : UInt8) : x.cells.set (68 + j) (u8 v) = ({ x with fSig := x.fSig.set j v } : Vote).cells := by
  have e : ∀ l, ({ x with fSig := l } : Vote).cells = ([u64 x.fHeight, u64 x.fRound, i64 x.fPhase] ++ bytesV x.fValue ++ [u64 x.fProof] ++ bytesV x.fVoter) ++ bytesV l ++ [] := fun l => by simp [Vote.cells]
  have := set_mid ([u64 x.fHeight, u64 x.fRound, i64 x.fPhase] ++ bytesV x.fValue ++ [u64 x.fProof] ++ bytesV x.fVoter) [] x.fSig j (by rw [h.l_fSig]; exact hj) v
  rw [← e, ← e, show ([u64 x.fHeight, u64 x.fRound, i64 x.fPhase] ++ bytesV x.fValue ++ [u64 x.fProof] ++ bytesV x.fVoter).length = 68 by simp [bytesV, h.l_fValue, h.l_fVoter]] at this
  exact this

set_option maxRecDepth 100000 in
set_option maxHeartbeats 1000000 in
theorem law_votechanged_bad (V : Vote) (hV : V.ok) (seed : List UInt8) (h32 : seed.length = 32) (g h : Int) (hc : ¬ vcheck V = 0) : Meets Tryz.prog 3 [agg V.cells, agg (bytesV seed), i64 g, i64 h] [] (fun _ => True) (fun v out => v = .bool true ∧ out = []) := by
 intro W hW
 refine calls_of (hp0 := []) Tryz.func3 rfl 88 Tryz.ntmps3 rfl (HRep.nil _) ?_
 refine Sat.seq (Sat.region ?_)
 refine Tr.boxA rfl rfl ?_
 intro n4 hn4 hf4
 refine Tr.boxA rfl rfl ?_
 intro n5 hn5 hf5
 refine Tr.assign rfl rfl rfl ?_
 refine Tr.nil (at_n (Sat.seq (Sat.seq (Sat.region ?_))))
 refine Tr.callV rfl rfl rfl rfl Body10 (law20_lives) (fun _ _ => trivial) ?_
 refine Tr.not rfl rfl rfl ?_
 refine Tr.nil (at_n ?_)
 refine Sat.cond_f rfl (rfl) ?_
 refine Sat.skip (at_n (Sat.seq (Sat.region ?_)))
 first
  | refine Tr.loadAll rfl rfl rfl Tryz.underlying23 rfl Sz23 mM (by first | (simp [h32]; done) | assumption | (rw [bytesV, List.length_map]; assumption)) ?_
  | refine Tr.loadN _ rfl rfl rfl Tryz.underlying23 rfl Sz23 mM (by exact rfl) (by first | (simp [h32]; done) | assumption | (rw [bytesV, List.length_map]; assumption)) ?_
 refine Tr.loadAll rfl rfl rfl Tryz.underlying29 rfl Sz29 mM (Vote.length (by first | (simp [h32]; done) | exact oK | exact Point.zero_ok | exact wide.zero_ok | exact secrets.zero_ok | exact far.zero_ok | exact Cut.zero_ok | exact Cert.zero_ok | exact Msg.zero_ok | exact Inbox.zero_ok | exact Record.zero_ok | exact Kept.zero_ok  | exact hV | exact Vote.zero_ok)) ?_
 refine Tr.callV rfl rfl rfl rfl Body11 (vote_sign_bad seed h32 V hV hc) (fun _ _ => trivial) ?_
 refine Tr.move rfl rfl rfl ?_
 refine Tr.extract rfl rfl rfl rfl ?_
 refine Tr.extract rfl rfl rfl rfl ?_
 refine Tr.alloc (cs := Vote.zero.cells) rfl Vote.zr rfl ?_
 intro n9 hn9 hf9
 refine Tr.storeAll rfl rfl rfl rfl (Vote.isCell (by first | (simp [h32]; done) | exact oK | exact Point.zero_ok | exact wide.zero_ok | exact secrets.zero_ok | exact far.zero_ok | exact Cut.zero_ok | exact Cert.zero_ok | exact Msg.zero_ok | exact Inbox.zero_ok | exact Record.zero_ok | exact Kept.zero_ok  | exact hV | exact Vote.zero_ok)) Sz29 (Vote.length (by first | (simp [h32]; done) | exact oK | exact Point.zero_ok | exact wide.zero_ok | exact secrets.zero_ok | exact far.zero_ok | exact Cut.zero_ok | exact Cert.zero_ok | exact Msg.zero_ok | exact Inbox.zero_ok | exact Record.zero_ok | exact Kept.zero_ok  | exact hV | exact Vote.zero_ok)) mM (Vote.length (by first | (simp [h32]; done) | exact oK | exact Point.zero_ok | exact wide.zero_ok | exact secrets.zero_ok | exact far.zero_ok | exact Cut.zero_ok | exact Cert.zero_ok | exact Msg.zero_ok | exact Inbox.zero_ok | exact Record.zero_ok | exact Kept.zero_ok  | exact hV | exact Vote.zero_ok)) uU ?_
 refine Tr.assign rfl rfl rfl ?_
 refine Tr.nil (at_n (Sat.seq (Sat.seq (Sat.region ?_))))
 refine Tr.move rfl rfl rfl ?_
 refine Tr.nei rfl rfl rfl rfl rfl ?_
 refine Tr.nil (at_n ?_)
 refine Sat.cond_t rfl (by simpa using hc) ?_
 refine Sat.seq (Sat.region ?_)
 refine Tr.assign rfl rfl rfl ?_
 refine Tr.nil (at_n (Sat.ret (at_r (en_r ?_))))
 refine ⟨_, [], res_tmp rfl rfl, sP, sP, ?_, rfl⟩
 rfl

set_option maxRecDepth 100000 in
set_option maxHeartbeats 8000000 in
theorem law_votechanged (V : Vote) (hV : V.ok) (seed : List UInt8) (h32 : seed.length = 32) (g h : Int) (hc : vcheck V = 0) : Meets Tryz.prog 3 [agg V.cells, agg (bytesV seed), i64 g, i64 h] [] (fun _ => True) (fun v out => v = .bool true ∧ out = []) := by
 intro W hW
 obtain ⟨s, hs⟩ : ∃ s, Hid (sha512 seed = s) := ⟨_, ⟨rfl⟩⟩
 obtain ⟨s1, hs1⟩ : ∃ s1, Hid (sha512 (s.drop 32 ++ vtxt (vsg V (sgK s) V.fSig)) = s1) := ⟨_, ⟨rfl⟩⟩
 obtain ⟨s2, hs2⟩ : ∃ s2, Hid (sha512 (sgF s1 ++ (sgK s ++ vtxt (vsg V (sgK s) V.fSig))) = s2) := ⟨_, ⟨rfl⟩⟩
 have lK := sgK_length s
 have lG : (sgF s1 ++ sgS s s1 s2).length = 64 := by rw [List.length_append, sgF_length, sgS_length]
 have cSg := vote_sign seed h32 V hV s s1 s2 hs hs1 hs2 hc
 have hgs := vgood_self (V := V) hc s s1 hs2.out
 have hVS : (vsg V (sgK s) (sgF s1 ++ sgS s s1 s2)).ok := vsg_ok hV lK lG
 have cGd := vote_good _ hVS
 clear hs hs1 hs2
 obtain ⟨VS, hVSe⟩ : ∃ X, vsg V (sgK s) (sgF s1 ++ sgS s s1 s2) = X := ⟨_, rfl⟩
 rw [hVSe] at cSg hgs hVS cGd
 clear hVSe lK lG s1 s2 s
 have p32 := pickN_lt h (n := 32) dE
 have p64 := pickN_lt h (n := 64) dE
 have p8 := pickN_lt h (n := 8) dE
 have p21 := pickN_lt h (n := 21) dE
 have p2 := pickN_lt h (n := 2) dE
 have p1k := pickN_lt h (n := 1000) dE
 refine calls_of (hp0 := []) Tryz.func3 rfl 88 Tryz.ntmps3 rfl (HRep.nil _) ?_
 refine Sat.seq (Sat.region ?_)
 refine Tr.boxA rfl rfl ?_
 intro n4 hn4 hf4
 refine Tr.boxA rfl rfl ?_
 intro n5 hn5 hf5
 refine Tr.assign rfl rfl rfl ?_
 refine Tr.nil (at_n (Sat.seq (Sat.seq (Sat.region ?_))))
 refine Tr.callV rfl rfl rfl rfl Body10 (law20_lives) (fun _ _ => trivial) ?_
 refine Tr.not rfl rfl rfl ?_
 refine Tr.nil (at_n ?_)
 refine Sat.cond_f rfl (rfl) ?_
 refine Sat.skip (at_n (Sat.seq (Sat.region ?_)))
 first
  | refine Tr.loadAll rfl rfl rfl Tryz.underlying23 rfl Sz23 mM (by first | (simp [h32]; done) | assumption | (rw [bytesV, List.length_map]; assumption)) ?_
  | refine Tr.loadN _ rfl rfl rfl Tryz.underlying23 rfl Sz23 mM (by exact rfl) (by first | (simp [h32]; done) | assumption | (rw [bytesV, List.length_map]; assumption)) ?_
 refine Tr.loadAll rfl rfl rfl Tryz.underlying29 rfl Sz29 mM (Vote.length (by first | (simp [h32]; done) | exact oK | exact Point.zero_ok | exact wide.zero_ok | exact secrets.zero_ok | exact far.zero_ok | exact Cut.zero_ok | exact Cert.zero_ok | exact Msg.zero_ok | exact Inbox.zero_ok | exact Record.zero_ok | exact Kept.zero_ok  | exact hV | exact hVS | exact hw | exact ⟨hVS.l_fValue, hVS.l_fVoter, hVS.l_fSig⟩ | exact Vote.zero_ok)) ?_
 refine Tr.callV rfl rfl rfl rfl Body11 (cSg) (fun _ _ => trivial) ?_
 refine Tr.move rfl rfl rfl ?_
 refine Tr.extract rfl rfl rfl rfl ?_
 refine Tr.extract rfl rfl rfl rfl ?_
 refine Tr.alloc (cs := Vote.zero.cells) rfl Vote.zr rfl ?_
 intro n9 hn9 hf9
 refine Tr.storeAll rfl rfl rfl rfl (Vote.isCell (by first | (simp [h32]; done) | exact oK | exact Point.zero_ok | exact wide.zero_ok | exact secrets.zero_ok | exact far.zero_ok | exact Cut.zero_ok | exact Cert.zero_ok | exact Msg.zero_ok | exact Inbox.zero_ok | exact Record.zero_ok | exact Kept.zero_ok  | exact hV | exact hVS | exact hw | exact ⟨hVS.l_fValue, hVS.l_fVoter, hVS.l_fSig⟩ | exact Vote.zero_ok)) Sz29 (Vote.length (by first | (simp [h32]; done) | exact oK | exact Point.zero_ok | exact wide.zero_ok | exact secrets.zero_ok | exact far.zero_ok | exact Cut.zero_ok | exact Cert.zero_ok | exact Msg.zero_ok | exact Inbox.zero_ok | exact Record.zero_ok | exact Kept.zero_ok  | exact hV | exact hVS | exact hw | exact ⟨hVS.l_fValue, hVS.l_fVoter, hVS.l_fSig⟩ | exact Vote.zero_ok)) mM (Vote.length (by first | (simp [h32]; done) | exact oK | exact Point.zero_ok | exact wide.zero_ok | exact secrets.zero_ok | exact far.zero_ok | exact Cut.zero_ok | exact Cert.zero_ok | exact Msg.zero_ok | exact Inbox.zero_ok | exact Record.zero_ok | exact Kept.zero_ok  | exact hV | exact hVS | exact hw | exact ⟨hVS.l_fValue, hVS.l_fVoter, hVS.l_fSig⟩ | exact Vote.zero_ok)) uU ?_
 refine Tr.assign rfl rfl rfl ?_
 refine Tr.nil (at_n (Sat.seq (Sat.seq (Sat.region ?_))))
 refine Tr.move rfl rfl rfl ?_
 refine Tr.nei rfl rfl rfl rfl rfl ?_
 refine Tr.nil (at_n ?_)
 refine Sat.cond_f rfl (rfl) ?_
 refine Sat.skip (at_n (Sat.seq (Sat.region ?_)))
 refine Tr.loadAll rfl rfl rfl Tryz.underlying29 rfl Sz29 mM (Vote.length (by first | (simp [h32]; done) | exact oK | exact Point.zero_ok | exact wide.zero_ok | exact secrets.zero_ok | exact far.zero_ok | exact Cut.zero_ok | exact Cert.zero_ok | exact Msg.zero_ok | exact Inbox.zero_ok | exact Record.zero_ok | exact Kept.zero_ok  | exact hV | exact hVS | exact hw | exact ⟨hVS.l_fValue, hVS.l_fVoter, hVS.l_fSig⟩ | exact Vote.zero_ok)) ?_
 refine Tr.alloc (cs := Vote.zero.cells) rfl Vote.zr rfl ?_
 intro n11 hn11 hf11
 refine Tr.storeAll rfl rfl rfl rfl (Vote.isCell (by first | (simp [h32]; done) | exact oK | exact Point.zero_ok | exact wide.zero_ok | exact secrets.zero_ok | exact far.zero_ok | exact Cut.zero_ok | exact Cert.zero_ok | exact Msg.zero_ok | exact Inbox.zero_ok | exact Record.zero_ok | exact Kept.zero_ok  | exact hV | exact hVS | exact hw | exact ⟨hVS.l_fValue, hVS.l_fVoter, hVS.l_fSig⟩ | exact Vote.zero_ok)) Sz29 (Vote.length (by first | (simp [h32]; done) | exact oK | exact Point.zero_ok | exact wide.zero_ok | exact secrets.zero_ok | exact far.zero_ok | exact Cut.zero_ok | exact Cert.zero_ok | exact Msg.zero_ok | exact Inbox.zero_ok | exact Record.zero_ok | exact Kept.zero_ok  | exact hV | exact hVS | exact hw | exact ⟨hVS.l_fValue, hVS.l_fVoter, hVS.l_fSig⟩ | exact Vote.zero_ok)) mM (Vote.length (by first | (simp [h32]; done) | exact oK | exact Point.zero_ok | exact wide.zero_ok | exact secrets.zero_ok | exact far.zero_ok | exact Cut.zero_ok | exact Cert.zero_ok | exact Msg.zero_ok | exact Inbox.zero_ok | exact Record.zero_ok | exact Kept.zero_ok  | exact hV | exact hVS | exact hw | exact ⟨hVS.l_fValue, hVS.l_fVoter, hVS.l_fSig⟩ | exact Vote.zero_ok)) uU ?_
 refine Tr.nil (at_n ?_)
 refine Sat.join (ι := Vote) (fun w => ⟨[(9, ptr n9 0), (11, ptr n11 0)], [⟨n11, w.cells, 29, 132⟩, ⟨n9, VS.cells, 29, 132⟩, ⟨n5, bytesV seed, 23, (bytesV seed).length⟩, ⟨n4, V.cells, 29, V.cells.length⟩]⟩) (fun w => w.ok) ?_ ?_
 ·
  refine Sat.seq (Sat.region ?_)
  refine Tr.move rfl rfl rfl ?_
  refine Tr.callV rfl rfl rfl rfl Body12 (kit_pickN g 5 dE dE) (fun _ _ => trivial) ?_
  refine Tr.nil (at_n (Sat.block (Sat.seq (Sat.region ?_))))
  refine Tr.eqi rfl rfl rfl rfl rfl ?_
  refine Tr.assign rfl rfl rfl ?_
  refine Tr.nil (at_n ?_)
  first
   | refine Sat.condP rfl (fun hc2 => ?_) (fun hc2 => ?_)
   | refine Sat.condNP rfl (fun hc2 => ?_) (fun hc2 => ?_)
   | refine Sat.cond rfl (fun hc2 => ?_) (fun hc2 => ?_)
  ·
   refine Sat.region ?_
   refine Tr.move rfl rfl rfl ?_
   refine Tr.callV rfl rfl rfl rfl Body12 (kit_pickN h 32 dE dE) (fun _ _ => trivial) ?_
   refine Tr.fld rfl rfl rfl Tryz.underlying29 rfl Sz24 dE _ rfl ?_
   first
    | refine Tr.idxArr1 rfl rfl rfl rfl Tryz.underlying24 Sz5 (pickN h 32) rfl oM ?_
    | refine Tr.idxArrO rfl rfl rfl rfl Tryz.underlying24 Sz5 (pickN h 32) rfl oM ?_
   refine Tr.load1 rfl rfl rfl Tryz.underlying5 rfl mM (elem_fValue hVS p32) ?_
   refine Tr.xor_u8 rfl rfl rfl (show evIn _ _ = some (u8 1) from rfl) ?_
   refine Tr.fld rfl rfl rfl Tryz.underlying29 rfl Sz24 dE _ rfl ?_
   first
    | refine Tr.idxArr1 rfl rfl rfl rfl Tryz.underlying24 Sz5 (pickN h 32) rfl oM ?_
    | refine Tr.idxArrO rfl rfl rfl rfl Tryz.underlying24 Sz5 (pickN h 32) rfl oM ?_
   refine Tr.store1 rfl rfl rfl rfl rfl Sz5 mM (by rw [Vote.length hVS]; exact off32 p32) (setv_fValue hVS p32 _) uU ?_
   refine Tr.nil (bl_n (at_n ?_))
   refine ⟨_, ?_, weak_perm (wk1 rfl (wk1 rfl wk0)) (pm_cons rM (pm_cons rM (pm_cons rM (pm_cons rM pm_nil))))⟩
   exact ⟨by first | exact hVS.l_fValue | exact (List.length_set ..).trans hVS.l_fValue, hVS.l_fVoter, by first | exact hVS.l_fSig | exact (List.length_set ..).trans hVS.l_fSig⟩
  ·
   refine Sat.seq (Sat.region ?_)
   refine Tr.eqi rfl rfl rfl rfl rfl ?_
   refine Tr.assign rfl rfl rfl ?_
   refine Tr.nil (at_n ?_)
   first
    | refine Sat.condP rfl (fun hc3 => ?_) (fun hc3 => ?_)
    | refine Sat.condNP rfl (fun hc3 => ?_) (fun hc3 => ?_)
    | refine Sat.cond rfl (fun hc3 => ?_) (fun hc3 => ?_)
   ·
    refine Sat.region ?_
    refine Tr.move rfl rfl rfl ?_
    refine Tr.callV rfl rfl rfl rfl Body12 (kit_pickN h 21 dE dE) (fun _ _ => trivial) ?_
    refine Tr.conv rfl rfl rfl Tryz.underlying3 Tryz.underlying22 (cv_i64_u64 _) ?_
    refine Tr.fld rfl rfl rfl Tryz.underlying29 rfl Sz22 dE _ rfl ?_
    refine Tr.store1 rfl rfl rfl rfl rfl Sz22 mM (by rw [Vote.length (by first | (simp [h32]; done) | exact oK | exact Point.zero_ok | exact wide.zero_ok | exact secrets.zero_ok | exact far.zero_ok | exact Cut.zero_ok | exact Cert.zero_ok | exact Msg.zero_ok | exact Inbox.zero_ok | exact Record.zero_ok | exact Kept.zero_ok  | exact hV | exact hVS | exact hw | exact ⟨hVS.l_fValue, hVS.l_fVoter, hVS.l_fSig⟩ | exact Vote.zero_ok)]; decide) (Vote.set_fRound (by first | (simp [h32]; done) | exact oK | exact Point.zero_ok | exact wide.zero_ok | exact secrets.zero_ok | exact far.zero_ok | exact Cut.zero_ok | exact Cert.zero_ok | exact Msg.zero_ok | exact Inbox.zero_ok | exact Record.zero_ok | exact Kept.zero_ok  | exact hV | exact hVS | exact hw | exact ⟨hVS.l_fValue, hVS.l_fVoter, hVS.l_fSig⟩ | exact Vote.zero_ok) _) uU ?_
    refine Tr.nil (bl_n (at_n ?_))
    refine ⟨_, ?_, weak_perm (wk1 rfl (wk1 rfl wk0)) (pm_cons rM (pm_cons rM (pm_cons rM (pm_cons rM pm_nil))))⟩
    exact ⟨by first | exact hVS.l_fValue | exact (List.length_set ..).trans hVS.l_fValue, hVS.l_fVoter, by first | exact hVS.l_fSig | exact (List.length_set ..).trans hVS.l_fSig⟩
   ·
    refine Sat.seq (Sat.region ?_)
    refine Tr.eqi rfl rfl rfl rfl rfl ?_
    refine Tr.assign rfl rfl rfl ?_
    refine Tr.nil (at_n ?_)
    first
     | refine Sat.condP rfl (fun hc4 => ?_) (fun hc4 => ?_)
     | refine Sat.condNP rfl (fun hc4 => ?_) (fun hc4 => ?_)
     | refine Sat.cond rfl (fun hc4 => ?_) (fun hc4 => ?_)
    ·
     refine Sat.region ?_
     refine Tr.move rfl rfl rfl ?_
     refine Tr.callV rfl rfl rfl rfl Body12 (kit_pickN h 1000 dE dE) (fun _ _ => trivial) ?_
     refine Tr.conv rfl rfl rfl Tryz.underlying3 Tryz.underlying22 (cv_i64_u64 _) ?_
     refine Tr.add_u64 rfl rfl (show evIn _ _ = some (u64 1) from rfl) rfl ?_
     refine Tr.fld rfl rfl rfl Tryz.underlying29 rfl Sz22 dE _ rfl ?_
     refine Tr.store1 rfl rfl rfl rfl rfl Sz22 mM (by rw [Vote.length (by first | (simp [h32]; done) | exact oK | exact Point.zero_ok | exact wide.zero_ok | exact secrets.zero_ok | exact far.zero_ok | exact Cut.zero_ok | exact Cert.zero_ok | exact Msg.zero_ok | exact Inbox.zero_ok | exact Record.zero_ok | exact Kept.zero_ok  | exact hV | exact hVS | exact hw | exact ⟨hVS.l_fValue, hVS.l_fVoter, hVS.l_fSig⟩ | exact Vote.zero_ok)]; decide) (Vote.set_fHeight (by first | (simp [h32]; done) | exact oK | exact Point.zero_ok | exact wide.zero_ok | exact secrets.zero_ok | exact far.zero_ok | exact Cut.zero_ok | exact Cert.zero_ok | exact Msg.zero_ok | exact Inbox.zero_ok | exact Record.zero_ok | exact Kept.zero_ok  | exact hV | exact hVS | exact hw | exact ⟨hVS.l_fValue, hVS.l_fVoter, hVS.l_fSig⟩ | exact Vote.zero_ok) _) uU ?_
     refine Tr.nil (bl_n (at_n ?_))
     refine ⟨_, ?_, weak_perm (wk1 rfl (wk1 rfl wk0)) (pm_cons rM (pm_cons rM (pm_cons rM (pm_cons rM pm_nil))))⟩
     exact ⟨by first | exact hVS.l_fValue | exact (List.length_set ..).trans hVS.l_fValue, hVS.l_fVoter, by first | exact hVS.l_fSig | exact (List.length_set ..).trans hVS.l_fSig⟩
    ·
     refine Sat.seq (Sat.region ?_)
     refine Tr.eqi rfl rfl rfl rfl rfl ?_
     refine Tr.assign rfl rfl rfl ?_
     refine Tr.nil (at_n ?_)
     first
      | refine Sat.condP rfl (fun hc5 => ?_) (fun hc5 => ?_)
      | refine Sat.condNP rfl (fun hc5 => ?_) (fun hc5 => ?_)
      | refine Sat.cond rfl (fun hc5 => ?_) (fun hc5 => ?_)
     ·
      refine Sat.region ?_
      refine Tr.move rfl rfl rfl ?_
      refine Tr.callV rfl rfl rfl rfl Body12 (kit_pickN h 2 dE dE) (fun _ _ => trivial) ?_
      refine Tr.add_i64 rfl rfl rfl rfl oM ?_
      refine Tr.fld rfl rfl rfl Tryz.underlying29 rfl Sz3 dE _ rfl ?_
      refine Tr.store1 rfl rfl rfl rfl rfl Sz3 mM (by rw [Vote.length (by first | (simp [h32]; done) | exact oK | exact Point.zero_ok | exact wide.zero_ok | exact secrets.zero_ok | exact far.zero_ok | exact Cut.zero_ok | exact Cert.zero_ok | exact Msg.zero_ok | exact Inbox.zero_ok | exact Record.zero_ok | exact Kept.zero_ok  | exact hV | exact hVS | exact hw | exact ⟨hVS.l_fValue, hVS.l_fVoter, hVS.l_fSig⟩ | exact Vote.zero_ok)]; decide) (Vote.set_fPhase (by first | (simp [h32]; done) | exact oK | exact Point.zero_ok | exact wide.zero_ok | exact secrets.zero_ok | exact far.zero_ok | exact Cut.zero_ok | exact Cert.zero_ok | exact Msg.zero_ok | exact Inbox.zero_ok | exact Record.zero_ok | exact Kept.zero_ok  | exact hV | exact hVS | exact hw | exact ⟨hVS.l_fValue, hVS.l_fVoter, hVS.l_fSig⟩ | exact Vote.zero_ok) _) uU ?_
      refine Tr.fld rfl rfl rfl Tryz.underlying29 rfl Sz22 dE _ rfl ?_
      refine Tr.store1 rfl rfl rfl (show evIn _ _ = some (u64 0) from rfl) rfl Sz22 mM (by rw [Vote.length (by first | (simp [h32]; done) | exact oK | exact Point.zero_ok | exact wide.zero_ok | exact secrets.zero_ok | exact far.zero_ok | exact Cut.zero_ok | exact Cert.zero_ok | exact Msg.zero_ok | exact Inbox.zero_ok | exact Record.zero_ok | exact Kept.zero_ok  | exact hV | exact hVS | exact hw | exact ⟨hVS.l_fValue, hVS.l_fVoter, hVS.l_fSig⟩ | exact Vote.zero_ok)]; decide) (Vote.set_fProof (by first | (simp [h32]; done) | exact oK | exact Point.zero_ok | exact wide.zero_ok | exact secrets.zero_ok | exact far.zero_ok | exact Cut.zero_ok | exact Cert.zero_ok | exact Msg.zero_ok | exact Inbox.zero_ok | exact Record.zero_ok | exact Kept.zero_ok  | exact hV | exact hVS | exact hw | exact ⟨hVS.l_fValue, hVS.l_fVoter, hVS.l_fSig⟩ | exact Vote.zero_ok) _) uU ?_
      refine Tr.nil (bl_n (at_n ?_))
      refine ⟨_, ?_, weak_perm (wk1 rfl (wk1 rfl wk0)) (pm_cons rM (pm_cons rM (pm_cons rM (pm_cons rM pm_nil))))⟩
      exact ⟨by first | exact hVS.l_fValue | exact (List.length_set ..).trans hVS.l_fValue, hVS.l_fVoter, by first | exact hVS.l_fSig | exact (List.length_set ..).trans hVS.l_fSig⟩
     ·
      refine Sat.drawK (sp_k (sp_v (sp_v (sp_v sp_n)))) rfl [(0, 0), (0, 2), (0, 5), (0, 10), (3, 1), (0, 3), (0, 4), (3, 6), (0, 7), (0, 8), (0, 9), (0, 11)] [(4, 12)] Mixed (by kernel_rfl) (by kernel_rfl) ?_
      refine Tr.move rfl rfl rfl ?_
      refine Tr.fld rfl rfl rfl Tryz.underlying29 rfl Sz27 dE _ rfl ?_
      refine Tr.move rfl rfl rfl ?_
      refine Tr.fld rfl rfl rfl Tryz.underlying29 rfl Sz27 dE _ rfl ?_
      refine Tr.callV rfl rfl rfl rfl Body12 (kit_pickN h 64 dE dE) (fun _ _ => trivial) ?_
      first
       | refine Tr.idxArr1 rfl rfl rfl rfl Tryz.underlying27 Sz5 (pickN h 64) rfl oM ?_
       | refine Tr.idxArrO rfl rfl rfl rfl Tryz.underlying27 Sz5 (pickN h 64) rfl oM ?_
      refine Tr.kload1 rfl rfl rfl Tryz.underlying5 rfl mM (elem_fSig hVS p64) ?_
      refine Tr.callV rfl rfl rfl rfl Body12 (kit_pickN h 8 dE dE) (fun _ _ => trivial) ?_
      refine Tr.conv rfl rfl rfl Tryz.underlying3 Tryz.underlying35 (cv_i64_u64 _) ?_
      refine Tr.shl_u8 rfl rfl (show evIn _ _ = some (u8 1) from rfl) rfl (pickN h 8) (by rw [wordOf_id _ oM]) oM ?_
      refine Tr.xor_u8 rfl rfl rfl rfl ?_
      first
       | refine Tr.idxArr1 rfl rfl rfl rfl Tryz.underlying27 Sz5 (pickN h 64) rfl oM ?_
       | refine Tr.idxArrO rfl rfl rfl rfl Tryz.underlying27 Sz5 (pickN h 64) rfl oM ?_
      refine Tr.nil ?_
      refine Tr.store1 rfl rfl rfl rfl rfl Sz5 mM (by rw [Vote.length hVS]; exact off64 p64) (setv_fSig hVS p64 _) uU ?_
      refine Tr.nil (bl_n (at_n ?_))
      refine ⟨_, ?_, weak_perm (wk1 rfl (wk1 rfl wk0)) (pm_cons rM (pm_cons rM (pm_cons rM (pm_cons rM pm_nil))))⟩
      exact ⟨by first | exact hVS.l_fValue | exact (List.length_set ..).trans hVS.l_fValue, hVS.l_fVoter, by first | exact hVS.l_fSig | exact (List.length_set ..).trans hVS.l_fSig⟩
 ·
  intro w hj
  have hw := hj
  refine Sat.seq (Sat.seq (Sat.region ?_))
  obtain ⟨bq, hbq⟩ : ∃ bq, (@decide (w = VS) (Classical.propDecidable _)) = bq := ⟨_, rfl⟩
  refine Tr.loadAll rfl rfl rfl Tryz.underlying29 rfl Sz29 mM (Vote.length (by first | (simp [h32]; done) | exact oK | exact Point.zero_ok | exact wide.zero_ok | exact secrets.zero_ok | exact far.zero_ok | exact Cut.zero_ok | exact Cert.zero_ok | exact Msg.zero_ok | exact Inbox.zero_ok | exact Record.zero_ok | exact Kept.zero_ok  | exact hV | exact hVS | exact hw | exact ⟨hVS.l_fValue, hVS.l_fVoter, hVS.l_fSig⟩ | exact Vote.zero_ok)) ?_
  refine Tr.callV rfl rfl rfl rfl Body13 (vote_check w hw) (fun _ _ => trivial) ?_
  refine two (fun r hr k => Tr.nei rfl rfl rfl rfl hr k) (fun hs17_20 => ?_) (fun hs17_20 => ?_)
  ·
   first | have hs17_2 := of_decide_eq_true hs17_20 | have hs17_2 := of_decide_eq_false hs17_20 | have hs17_2 := nd_t hs17_20 | have hs17_2 := nd_f hs17_20 | have hs17_2 := hs17_20
   refine Tr.move rfl rfl rfl ?_
   refine Tr.skp rfl rfl ?_
   refine Tr.skp rfl rfl ?_
   refine Tr.skp rfl rfl ?_
   refine Tr.pick rfl rfl rfl rfl rfl rfl ?_
   refine Tr.nil (at_n ?_)
   refine Sat.cond_t rfl rfl ?_
   refine Sat.seq (Sat.region ?_)
   refine Tr.assign rfl rfl rfl ?_
   refine Tr.nil (at_n (Sat.ret (at_r (en_r ?_))))
   refine ⟨_, [], res_tmp rfl rfl, sP, sP, ?_, rfl⟩
   rfl
  ·
   first | have hs17_2 := of_decide_eq_true hs17_20 | have hs17_2 := of_decide_eq_false hs17_20 | have hs17_2 := nd_t hs17_20 | have hs17_2 := nd_f hs17_20 | have hs17_2 := hs17_20
   refine Tr.move rfl rfl rfl ?_
   refine Tr.loadAll rfl rfl rfl Tryz.underlying29 rfl Sz29 mM (Vote.length (by first | (simp [h32]; done) | exact oK | exact Point.zero_ok | exact wide.zero_ok | exact secrets.zero_ok | exact far.zero_ok | exact Cut.zero_ok | exact Cert.zero_ok | exact Msg.zero_ok | exact Inbox.zero_ok | exact Record.zero_ok | exact Kept.zero_ok  | exact hV | exact hVS | exact hw | exact ⟨hVS.l_fValue, hVS.l_fVoter, hVS.l_fSig⟩ | exact Vote.zero_ok)) ?_
   refine Tr.loadAll rfl rfl rfl Tryz.underlying29 rfl Sz29 mM (Vote.length (by first | (simp [h32]; done) | exact oK | exact Point.zero_ok | exact wide.zero_ok | exact secrets.zero_ok | exact far.zero_ok | exact Cut.zero_ok | exact Cert.zero_ok | exact Msg.zero_ok | exact Inbox.zero_ok | exact Record.zero_ok | exact Kept.zero_ok  | exact hV | exact hVS | exact hw | exact ⟨hVS.l_fValue, hVS.l_fVoter, hVS.l_fSig⟩ | exact Vote.zero_ok)) ?_
   refine Tr.eql_rec rfl rfl rfl rfl Vote.eg (fun w9 => Vote.eq_runC hw hVS w9) hbq ?_
   refine Tr.pick rfl rfl rfl rfl rfl rfl ?_
   refine Tr.nil (at_n ?_)
   refine Sat.cond rfl (fun hc6 => ?_) (fun hc6 => ?_)
   ·
    refine Sat.seq (Sat.region ?_)
    refine Tr.assign rfl rfl rfl ?_
    refine Tr.nil (at_n (Sat.ret (at_r (en_r ?_))))
    refine ⟨_, [], res_tmp rfl rfl, sP, sP, ?_, rfl⟩
    rfl
   ·
    refine Sat.skip (at_n (Sat.seq (Sat.region ?_)))
    refine Tr.loadAll rfl rfl rfl Tryz.underlying29 rfl Sz29 mM (Vote.length (by first | (simp [h32]; done) | exact oK | exact Point.zero_ok | exact wide.zero_ok | exact secrets.zero_ok | exact far.zero_ok | exact Cut.zero_ok | exact Cert.zero_ok | exact Msg.zero_ok | exact Inbox.zero_ok | exact Record.zero_ok | exact Kept.zero_ok  | exact hV | exact hVS | exact hw | exact ⟨hVS.l_fValue, hVS.l_fVoter, hVS.l_fSig⟩ | exact Vote.zero_ok)) ?_
    refine Tr.callV rfl rfl rfl rfl Body14 (vote_good w hw) (fun _ _ => trivial) ?_
    refine two (fun r hr k => Tr.eqi rfl rfl rfl rfl hr k) (fun hs19_20 => ?_) (fun hs19_20 => ?_)
    ·
     first | have hs19_2 := of_decide_eq_true hs19_20 | have hs19_2 := of_decide_eq_false hs19_20 | have hs19_2 := nd_t hs19_20 | have hs19_2 := nd_f hs19_20 | have hs19_2 := hs19_20
     refine Tr.move rfl rfl rfl ?_
     refine Tr.skp rfl rfl ?_
     refine Tr.skp rfl rfl ?_
     refine Tr.skp rfl rfl ?_
     refine Tr.pick rfl rfl rfl rfl rfl rfl ?_
     refine Tr.move rfl rfl rfl ?_
     refine Tr.loadAll rfl rfl rfl Tryz.underlying29 rfl Sz29 mM (Vote.length (by first | (simp [h32]; done) | exact oK | exact Point.zero_ok | exact wide.zero_ok | exact secrets.zero_ok | exact far.zero_ok | exact Cut.zero_ok | exact Cert.zero_ok | exact Msg.zero_ok | exact Inbox.zero_ok | exact Record.zero_ok | exact Kept.zero_ok  | exact hV | exact hVS | exact hw | exact ⟨hVS.l_fValue, hVS.l_fVoter, hVS.l_fSig⟩ | exact Vote.zero_ok)) ?_
     refine Tr.callV rfl rfl rfl rfl Body14 (cGd) (fun _ _ => trivial) ?_
     refine Tr.eqi rfl rfl rfl rfl (decide_eq_true (hgs)) ?_
     refine Tr.pick rfl rfl rfl rfl rfl rfl ?_
     refine Tr.assign rfl rfl rfl ?_
     refine Tr.nil (at_n (Sat.ret (en_r ?_)))
     refine ⟨_, [], res_tmp rfl rfl, sP, sP, ?_, rfl⟩
     rfl
    ·
     first | have hs19_2 := of_decide_eq_true hs19_20 | have hs19_2 := of_decide_eq_false hs19_20 | have hs19_2 := nd_t hs19_20 | have hs19_2 := nd_f hs19_20 | have hs19_2 := hs19_20
     refine Tr.move rfl rfl rfl ?_
     refine Tr.loadAll rfl rfl rfl Tryz.underlying29 rfl Sz29 mM (Vote.length (by first | (simp [h32]; done) | exact oK | exact Point.zero_ok | exact wide.zero_ok | exact secrets.zero_ok | exact far.zero_ok | exact Cut.zero_ok | exact Cert.zero_ok | exact Msg.zero_ok | exact Inbox.zero_ok | exact Record.zero_ok | exact Kept.zero_ok  | exact hV | exact hVS | exact hw | exact ⟨hVS.l_fValue, hVS.l_fVoter, hVS.l_fSig⟩ | exact Vote.zero_ok)) ?_
     refine Tr.callV rfl rfl rfl rfl Body15 (r20_Good w hw) (fun _ _ => trivial) ?_
     refine Tr.eqi rfl rfl rfl rfl (decide_eq_true (vgood_or oM oM)) ?_
     refine Tr.pick rfl rfl rfl rfl rfl rfl ?_
     refine Tr.move rfl rfl rfl ?_
     refine Tr.loadAll rfl rfl rfl Tryz.underlying29 rfl Sz29 mM (Vote.length (by first | (simp [h32]; done) | exact oK | exact Point.zero_ok | exact wide.zero_ok | exact secrets.zero_ok | exact far.zero_ok | exact Cut.zero_ok | exact Cert.zero_ok | exact Msg.zero_ok | exact Inbox.zero_ok | exact Record.zero_ok | exact Kept.zero_ok  | exact hV | exact hVS | exact hw | exact ⟨hVS.l_fValue, hVS.l_fVoter, hVS.l_fSig⟩ | exact Vote.zero_ok)) ?_
     refine Tr.callV rfl rfl rfl rfl Body14 (cGd) (fun _ _ => trivial) ?_
     refine Tr.eqi rfl rfl rfl rfl (decide_eq_true (hgs)) ?_
     refine Tr.pick rfl rfl rfl rfl rfl rfl ?_
     refine Tr.assign rfl rfl rfl ?_
     refine Tr.nil (at_n (Sat.ret (en_r ?_)))
     refine ⟨_, [], res_tmp rfl rfl, sP, sP, ?_, rfl⟩
     rfl

theorem law_votechanged_all (V : Vote) (hV : V.ok) (seed : List UInt8) (h32 : seed.length = 32) (g h : Int) : Meets Tryz.prog 3 [agg V.cells, agg (bytesV seed), i64 g, i64 h] [] (fun _ => True) (fun v out => v = .bool true ∧ out = []) := by
  by_cases hc : vcheck V = 0
  · exact law_votechanged V hV seed h32 g h hc
  · exact law_votechanged_bad V hV seed h32 g h hc

end Go.Proofs.YtpacobmjjjillaaGreat
end

section
namespace Go.Proofs.YtpacobmjjjillaaGreat
open Go Go.ChangeShapes Go.WideShapes Go.ChangeAt Go.RowKit
set_option linter.unusedVariables false

theorem ownVChg : ownKnob Tryz.prog.godebug = none := by kernel_rfl
theorem laidOutVChg : laidOutB Tryz.prog = true := by kernel_rfl

theorem walkVChg (w : World) (x0 : Vote) (ok0 : x0.ok) (l1 : List UInt8) (hl1 : l1.length = 32) (a2 : Int) (w2 : (Lit.int .i64 a2).wf = true) (a3 : Int) (w3 : (Lit.int .i64 a3).wf = true) : Calls Tryz.prog 3 #[Hw.agg x0.cells, Hw.agg (Hw.bytesV l1), Hw.i64 a2, Hw.i64 a3] w fun e w' => e = .returned (.bool true) ∧ Below w.heap.size w w' :=
  by
  have fin : ∀ {us : Array Value}, Calls Tryz.prog 3 us w (fun e W' => ∃ v out, e = .returned v ∧ (v = .bool true ∧ out = []) ∧ Hw.Ret [] out w W') → Calls Tryz.prog 3 us w (fun e w' => e = .returned (.bool true) ∧ Below w.heap.size w w') :=
    fun h => h.mono fun e w' ⟨v, out, he, ⟨hv, ho⟩, hr⟩ => ⟨by rw [he, hv], Hw.Keeps.below hr.keeps⟩
  exact fin (law_votechanged_all x0 ok0 l1 hl1 a2 a3 w trivial)

set_option maxRecDepth 100000 in
theorem liftedVChg (os : Os) (started : os.Started) (H : Type) (enc : TypeId × Value → H) :
    ReturnsInHanded {} Tryz.checked os 3 .any (Rows.voteChangedSpec.pre6 enc Tryz.prog Tryz.f3 Rows.voteChangedRow.domain false) (Rows.voteChangedSpec.post enc Tryz.prog Tryz.f3 false true false false) := by
  refine returnsInHanded_of_change (C := Tryz.checked) ownVChg started (by kernel_rfl) Tryz.func3
    (ChangeSpec.witness6 (enc := enc) (C := Tryz.checked) false ⟨#[], #[.agg (#[.int .u64 0, .int .u64 0, .int .i64 0] ++ Array.replicate 32 (.int .u8 0) ++ #[.int .u64 0] ++ Array.replicate 96 (.int .u8 0)), .agg (Array.replicate 32 (.int .u8 0)), .int .i64 0, .int .i64 0], []⟩ 8 (by kernel_rfl) (by kernel_rfl) (by kernel_rfl) (by kernel_rfl)) ?_
  intro W base args ds gs before hval0 hW hcnd _
  have hval : ∀ (j : Nat) t v, Tryz.f3.params[j]? = some t → args[j]? = some v → Value.okWide Tryz.prog W .any base t v := hval0
  have hW' := hW
  obtain ⟨p, q, hA0, hV, rfl, hfz, hnd⟩ := hW
  have hA : DataW.TrodAll enc Tryz.prog W 0 (fun _ => true) true Tryz.f3.params.toList args.toList ds p := hA0
  rw [Tryz.params3] at hA hval
  obtain ⟨v0, vs0, d0, ds0, p0, q0, hargs, rfl, rfl, h0, r0⟩ := trodAll_cons hA
  obtain ⟨v1, vs1, d1, ds1, p1, q1, rfl, rfl, rfl, h1, r1⟩ := trodAll_cons r0
  obtain ⟨v2, vs2, d2, ds2, p2, q2, rfl, rfl, rfl, h2, r2⟩ := trodAll_cons r1
  obtain ⟨v3, vs3, d3, ds3, p3, q3, rfl, rfl, rfl, h3, r3⟩ := trodAll_cons r2
  obtain ⟨rfl, rfl, rfl⟩ := trodAll_nil r3
  obtain rfl : args = #[v0, v1, v2, v3] := by cases args; simp_all
  obtain ⟨rfl, rfl⟩ := trodVars_none hV
  have k0 := h0
  have lt0 : ∀ x ∈ p0, x.block < W.heap.size := by obtain ⟨m, hm⟩ := k0; exact DataW.trod_lt m _ _ _ hm
  have k1 := h1
  have lt1 : ∀ x ∈ p1, x.block < W.heap.size := by obtain ⟨m, hm⟩ := k1; exact DataW.trod_lt m _ _ _ hm
  have k2 := h2
  have lt2 : ∀ x ∈ p2, x.block < W.heap.size := by obtain ⟨m, hm⟩ := k2; exact DataW.trod_lt m _ _ _ hm
  have k3 := h3
  have lt3 : ∀ x ∈ p3, x.block < W.heap.size := by obtain ⟨m, hm⟩ := k3; exact DataW.trod_lt m _ _ _ hm
  obtain ⟨x0, ok0, rfl, xx0⟩ := Vote.openV (hval 0 29 v0 rfl rfl) h0
  obtain ⟨l1, rfl, hl1⟩ := Hw.open_bytes Tryz.underlying23 Tryz.underlying5 (by kernel_rfl) (by kernel_rfl) (hval 1 23 v1 rfl rfl) h1
  obtain ⟨a2, rfl, rfl, rfl, w2⟩ := open_int Tryz.underlying3 (hval 2 3 v2 rfl rfl) h2
  obtain ⟨a3, rfl, rfl, rfl, w3⟩ := open_int Tryz.underlying3 (hval 3 3 v3 rfl rfl) h3
  clear hA0 hval0
  refine (walkVChg W x0 ok0 l1 hl1 a2 w2 a3 w3).mono fun e W' ⟨he, bel⟩ => ?_
  subst he
  exact ⟨_, rfl, _, _, _, [], _, [], hW', trodAll_mk1 (shut_bool Tryz.underlying4 _), (trodAll_cons_mk (Below.trod laidOutVChg (by kernel_rfl) (of_decide_eq_true (by kernel_rfl)) k0 bel lt0) (trodAll_cons_mk (Below.trod laidOutVChg (by kernel_rfl) (of_decide_eq_true (by kernel_rfl)) k1 bel lt1) (trodAll_cons_mk (Below.trod laidOutVChg (by kernel_rfl) (of_decide_eq_true (by kernel_rfl)) k2 bel lt2) (trodAll_cons_mk (Below.trod laidOutVChg (by kernel_rfl) (of_decide_eq_true (by kernel_rfl)) k3 bel lt3) trodAll_mk0)))), rfl, bel.frame _, fun h => by cases h⟩

theorem voteChanged_holds : Rows.VoteChangedSaid :=
  OpenClaim.holds_of_wide 3 Tryz.f3 rfl rfl rfl rfl rfl rfl rfl ⟨rfl, rfl, rfl, rfl, rfl⟩ rfl rfl rfl rfl rfl (by kernel_rfl) Tryz.func3 (by kernel_rfl)
    (of_decide_eq_true (by kernel_rfl)) (by unfold Func.isWrapper; first | (rw [if_pos (by decide +kernel)]; kernel_rfl) | (rw [if_neg (by decide +kernel)]; exact ⟨rfl, rfl⟩))
    (fun os started H enc _ => liftedVChg os started H enc)

end Go.Proofs.YtpacobmjjjillaaGreat
end
