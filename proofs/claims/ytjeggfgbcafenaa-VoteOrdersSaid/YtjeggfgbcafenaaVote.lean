/- Contracts of package vote: Compare, Against, Check; the law package: lives. Conditions: the lengths of arrays. -/
import Derived.Test.YtjeggfgbcafenaaCmp
import Derived.Laws.Externs
namespace Go.Proofs.Ytjeggfgbcafenaa
open Go Hw
set_option linter.unusedVariables false
set_option linter.unusedSimpArgs false


def vcmp (a b : Vote) : Int := orI [cmpI (a.fHeight.toNat : Int) (b.fHeight.toNat : Int), cmpI (a.fRound.toNat : Int) (b.fRound.toNat : Int), cmpI a.fPhase b.fPhase, cmpB a.fVoter b.fVoter, cmpB a.fValue b.fValue, cmpI (a.fProof.toNat : Int) (b.fProof.toNat : Int)]
def same4 (a b : Vote) : Bool := decide (a.fVoter = b.fVoter) && (decide ((a.fHeight.toNat : Int) = (b.fHeight.toNat : Int)) && (decide ((a.fRound.toNat : Int) = (b.fRound.toNat : Int)) && decide (a.fPhase = b.fPhase)))
def against (a b : Vote) : Bool := same4 a b && (!decide (a.fValue = b.fValue) || !decide ((a.fProof.toNat : Int) = (b.fProof.toNat : Int)))
def vcheck (a : Vote) : Int := if (a.fHeight.toNat : Int) < 1 ∨ (4294967295 : Int) < (a.fHeight.toNat : Int) ∨ (20 : Int) < (a.fRound.toNat : Int) then 2 else
  if (a.fPhase = 1 ∧ a.fValue ≠ List.replicate 32 0 ∧ (a.fProof.toNat : Int) ≤ (a.fRound.toNat : Int)) ∨ ((a.fPhase = 2 ∨ a.fPhase = 3) ∧ (a.fProof.toNat : Int) = 0) then 0 else 2


set_option maxRecDepth 100000 in
set_option maxHeartbeats 1000000 in
theorem vote_cmp (a b : Vote) (ha : a.ok) (hb : b.ok) : Meets Try.prog 18 [agg a.cells, agg b.cells] [] (fun _ => True) (fun v out => v = i64 (vcmp a b) ∧ out = []) := by
  intro W hW
  refine calls_of (hp0 := []) Try.func18 rfl 39 Try.ntmps18 rfl (HRep.nil _) ?_
  refine Sat.seq ?_
  -- region 0
  refine Sat.region ?_
  refine Tr.boxA rfl rfl ?_
  intro n2 hn2 hf2
  refine Tr.boxA rfl rfl ?_
  intro n3 hn3 hf3
  refine Tr.assign rfl rfl rfl ?_
  refine Tr.nil ?_
  refine at_n ?_
  refine Sat.seq ?_
  -- region 1
  refine Sat.draw [(0, 0), (1, 1), (0, 2), (1, 3), (0, 5), (1, 6), (0, 7), (1, 8), (0, 10), (1, 11), (0, 12), (1, 13), (0, 15), (0, 16), (0, 17), (0, 18), (0, 20), (0, 21), (0, 22), (0, 23), (0, 25), (1, 26), (0, 27), (1, 28), (3, 4), (3, 9), (3, 14), (3, 19), (3, 24), (3, 29), (0, 30), (2, 31), (4, 32)] Mixed (by kernel_rfl) ?_
  refine Tr.fld rfl rfl rfl Try.underlying43 rfl Sz24 (by decide) _ rfl ?_
  refine Tr.load1 rfl rfl rfl Try.underlying24 rfl (by first | exact mem0 | exact mem1 | exact mem2 | exact mem3 | exact mem4 | exact mem5 | exact mem6 | exact mem7) (by first | exact Vote.get_fHeight (by first | assumption | (simp [ha, hb]; done)) | exact (by first | rfl | exact get_words (by first | omega | (simp [ha, hb]; done) | (simp [ha, hb]; omega)) | exact get_bytes (by first | omega | (simp [ha, hb]; done) | (simp [ha, hb]; omega)) | exact get_ints (by first | omega | (simp [ha, hb]; done) | (simp [ha, hb]; omega)))) ?_
  refine Tr.fld rfl rfl rfl Try.underlying43 rfl Sz24 (by decide) _ rfl ?_
  refine Tr.load1 rfl rfl rfl Try.underlying24 rfl (by first | exact mem0 | exact mem1 | exact mem2 | exact mem3 | exact mem4 | exact mem5 | exact mem6 | exact mem7) (by first | exact Vote.get_fHeight (by first | assumption | (simp [ha, hb]; done)) | exact (by first | rfl | exact get_words (by first | omega | (simp [ha, hb]; done) | (simp [ha, hb]; omega)) | exact get_bytes (by first | omega | (simp [ha, hb]; done) | (simp [ha, hb]; omega)) | exact get_ints (by first | omega | (simp [ha, hb]; done) | (simp [ha, hb]; omega)))) ?_
  refine Tr.fld rfl rfl rfl Try.underlying43 rfl Sz24 (by decide) _ rfl ?_
  refine Tr.load1 rfl rfl rfl Try.underlying24 rfl (by first | exact mem0 | exact mem1 | exact mem2 | exact mem3 | exact mem4 | exact mem5 | exact mem6 | exact mem7) (by first | exact Vote.get_fRound (by first | assumption | (simp [ha, hb]; done)) | exact (by first | rfl | exact get_words (by first | omega | (simp [ha, hb]; done) | (simp [ha, hb]; omega)) | exact get_bytes (by first | omega | (simp [ha, hb]; done) | (simp [ha, hb]; omega)) | exact get_ints (by first | omega | (simp [ha, hb]; done) | (simp [ha, hb]; omega)))) ?_
  refine Tr.fld rfl rfl rfl Try.underlying43 rfl Sz24 (by decide) _ rfl ?_
  refine Tr.load1 rfl rfl rfl Try.underlying24 rfl (by first | exact mem0 | exact mem1 | exact mem2 | exact mem3 | exact mem4 | exact mem5 | exact mem6 | exact mem7) (by first | exact Vote.get_fRound (by first | assumption | (simp [ha, hb]; done)) | exact (by first | rfl | exact get_words (by first | omega | (simp [ha, hb]; done) | (simp [ha, hb]; omega)) | exact get_bytes (by first | omega | (simp [ha, hb]; done) | (simp [ha, hb]; omega)) | exact get_ints (by first | omega | (simp [ha, hb]; done) | (simp [ha, hb]; omega)))) ?_
  refine Tr.fld rfl rfl rfl Try.underlying43 rfl Sz3 (by decide) _ rfl ?_
  refine Tr.load1 rfl rfl rfl Try.underlying3 rfl (by first | exact mem0 | exact mem1 | exact mem2 | exact mem3 | exact mem4 | exact mem5 | exact mem6 | exact mem7) (by first | exact Vote.get_fPhase (by first | assumption | (simp [ha, hb]; done)) | exact (by first | rfl | exact get_words (by first | omega | (simp [ha, hb]; done) | (simp [ha, hb]; omega)) | exact get_bytes (by first | omega | (simp [ha, hb]; done) | (simp [ha, hb]; omega)) | exact get_ints (by first | omega | (simp [ha, hb]; done) | (simp [ha, hb]; omega)))) ?_
  refine Tr.fld rfl rfl rfl Try.underlying43 rfl Sz3 (by decide) _ rfl ?_
  refine Tr.load1 rfl rfl rfl Try.underlying3 rfl (by first | exact mem0 | exact mem1 | exact mem2 | exact mem3 | exact mem4 | exact mem5 | exact mem6 | exact mem7) (by first | exact Vote.get_fPhase (by first | assumption | (simp [ha, hb]; done)) | exact (by first | rfl | exact get_words (by first | omega | (simp [ha, hb]; done) | (simp [ha, hb]; omega)) | exact get_bytes (by first | omega | (simp [ha, hb]; done) | (simp [ha, hb]; omega)) | exact get_ints (by first | omega | (simp [ha, hb]; done) | (simp [ha, hb]; omega)))) ?_
  refine Tr.fld rfl rfl rfl Try.underlying43 rfl Sz23 (by decide) _ rfl ?_
  refine Tr.sliceArr rfl rfl rfl Try.underlying23 Sz5 ?_
  refine Tr.fld rfl rfl rfl Try.underlying43 rfl Sz23 (by decide) _ rfl ?_
  refine Tr.sliceArr rfl rfl rfl Try.underlying23 Sz5 ?_
  refine Tr.fld rfl rfl rfl Try.underlying43 rfl Sz25 (by decide) _ rfl ?_
  refine Tr.sliceArr rfl rfl rfl Try.underlying25 Sz5 ?_
  refine Tr.fld rfl rfl rfl Try.underlying43 rfl Sz25 (by decide) _ rfl ?_
  refine Tr.sliceArr rfl rfl rfl Try.underlying25 Sz5 ?_
  refine Tr.fld rfl rfl rfl Try.underlying43 rfl Sz24 (by decide) _ rfl ?_
  refine Tr.load1 rfl rfl rfl Try.underlying24 rfl (by first | exact mem0 | exact mem1 | exact mem2 | exact mem3 | exact mem4 | exact mem5 | exact mem6 | exact mem7) (by first | exact Vote.get_fProof (by first | assumption | (simp [ha, hb]; done)) | exact (by first | rfl | exact get_words (by first | omega | (simp [ha, hb]; done) | (simp [ha, hb]; omega)) | exact get_bytes (by first | omega | (simp [ha, hb]; done) | (simp [ha, hb]; omega)) | exact get_ints (by first | omega | (simp [ha, hb]; done) | (simp [ha, hb]; omega)))) ?_
  refine Tr.fld rfl rfl rfl Try.underlying43 rfl Sz24 (by decide) _ rfl ?_
  refine Tr.load1 rfl rfl rfl Try.underlying24 rfl (by first | exact mem0 | exact mem1 | exact mem2 | exact mem3 | exact mem4 | exact mem5 | exact mem6 | exact mem7) (by first | exact Vote.get_fProof (by first | assumption | (simp [ha, hb]; done)) | exact (by first | rfl | exact get_words (by first | omega | (simp [ha, hb]; done) | (simp [ha, hb]; omega)) | exact get_bytes (by first | omega | (simp [ha, hb]; done) | (simp [ha, hb]; omega)) | exact get_ints (by first | omega | (simp [ha, hb]; done) | (simp [ha, hb]; omega)))) ?_
  refine Tr.callV rfl rfl rfl rfl Body41 (cmp_uint64 _ _) (fun _ _ => trivial) ?_
  refine Tr.callV rfl rfl rfl rfl Body41 (cmp_uint64 _ _) (fun _ _ => trivial) ?_
  refine Tr.callV rfl rfl rfl rfl Body42 (cmp_int _ _) (fun _ _ => trivial) ?_
  refine Tr.callV rfl rfl rfl rfl Body37 (bytes_cmp _ _ _ _ _ _ a.fVoter b.fVoter ha.l_fVoter hb.l_fVoter) (fun W2 W2h => ⟨(SeesP.of (sees_part W2h (by first | exact mem0 | exact mem1 | exact mem2 | exact mem3 | exact mem4 | exact mem5 | exact mem6 | exact mem7) (Vote.see_fVoter ha))), (SeesP.of (sees_part W2h (by first | exact mem0 | exact mem1 | exact mem2 | exact mem3 | exact mem4 | exact mem5 | exact mem6 | exact mem7) (Vote.see_fVoter hb)))⟩) ?_
  refine Tr.callV rfl rfl rfl rfl Body37 (bytes_cmp _ _ _ _ _ _ a.fValue b.fValue ha.l_fValue hb.l_fValue) (fun W2 W2h => ⟨(SeesP.of (sees_part W2h (by first | exact mem0 | exact mem1 | exact mem2 | exact mem3 | exact mem4 | exact mem5 | exact mem6 | exact mem7) (Vote.see_fValue ha))), (SeesP.of (sees_part W2h (by first | exact mem0 | exact mem1 | exact mem2 | exact mem3 | exact mem4 | exact mem5 | exact mem6 | exact mem7) (Vote.see_fValue hb)))⟩) ?_
  refine Tr.callV rfl rfl rfl rfl Body41 (cmp_uint64 _ _) (fun _ _ => trivial) ?_
  refine Tr.build (cs := intsV [cmpI (a.fHeight.toNat : Int) (b.fHeight.toNat : Int), cmpI (a.fRound.toNat : Int) (b.fRound.toNat : Int), cmpI a.fPhase b.fPhase, cmpB a.fVoter b.fVoter, cmpB a.fValue b.fValue, cmpI (a.fProof.toNat : Int) (b.fProof.toNat : Int)]) rfl rfl rfl (fun w => by kernel_rfl) ?_
  refine Tr.alloc (cs := (intsV (List.replicate 6 0))) rfl Zr68 rfl ?_
  intro n5 hn5 hf5
  first
    | refine Tr.storeAll rfl rfl rfl rfl (by simp [isCell]) Sz68 (by simp [ha, hb]) (by first | exact mem0 | exact mem1 | exact mem2 | exact mem3 | exact mem4 | exact mem5 | exact mem6 | exact mem7) (by simp [ha, hb]) (by first | exact upd0 | exact upd1 | exact upd2 | exact upd3 | exact upd4 | exact upd5 | exact upd6 | exact upd7) ?_
    | refine Tr.storeN _ rfl rfl rfl rfl rfl (by simp [isCell]) Sz68 (by simp [ha, hb]) (by first | exact mem0 | exact mem1 | exact mem2 | exact mem3 | exact mem4 | exact mem5 | exact mem6 | exact mem7) (by simp [ha, hb]) (by exact rfl) (by first | exact upd0 | exact upd1 | exact upd2 | exact upd3 | exact upd4 | exact upd5 | exact upd6 | exact upd7) ?_
  refine Tr.nil ?_
  refine at_n ?_
  refine Sat.seq ?_
  -- region 2
  refine Sat.region ?_
  refine Tr.sliceArr rfl rfl rfl Try.underlying68 Sz3 ?_
  refine Tr.callV rfl rfl rfl rfl Body43 (cmp_or _ _ _ 6 _ rfl (by decide)) (fun W2 h => sees_own h (by first | exact mem0 | exact mem1 | exact mem2 | exact mem3 | exact mem4 | exact mem5 | exact mem6 | exact mem7)) ?_
  refine Tr.assign rfl rfl rfl ?_
  refine Tr.nil ?_
  refine at_n ?_
  refine Sat.ret ?_
  refine en_r ?_
  refine ⟨_, [], res_tmp rfl rfl, (by simp), (by simp), ?_, rfl⟩
  rfl

set_option maxRecDepth 100000 in
set_option maxHeartbeats 1000000 in
theorem vote_against (a b : Vote) (ha : a.ok) (hb : b.ok) : Meets Try.prog 19 [agg a.cells, agg b.cells] [] (fun _ => True) (fun v out => v = .bool (against a b) ∧ out = []) := by
  intro W hW
  refine calls_of (hp0 := []) Try.func19 rfl 45 Try.ntmps19 rfl (HRep.nil _) ?_
  refine Sat.seq ?_
  -- region 0
  refine Sat.region ?_
  refine Tr.boxA rfl rfl ?_
  intro n2 hn2 hf2
  refine Tr.boxA rfl rfl ?_
  intro n3 hn3 hf3
  refine Tr.assign rfl rfl rfl ?_
  refine Tr.nil ?_
  refine at_n ?_
  refine Sat.seq ?_
  -- region 1
  refine Sat.region ?_
  refine Tr.fld rfl rfl rfl Try.underlying43 rfl Sz23 (by decide) _ rfl ?_
  first
    | refine Tr.loadN (bytesV _) rfl rfl rfl Try.underlying23 rfl Sz23 (by first | exact mem0 | exact mem1 | exact mem2 | exact mem3 | exact mem4 | exact mem5 | exact mem6 | exact mem7) (Vote.row_fVoter (by first | assumption | (simp [ha.l_fVoter, hb.l_fVoter, ha.l_fValue, hb.l_fValue]; done))) (Vote.rl_fVoter (by first | assumption | (simp [ha.l_fVoter, hb.l_fVoter, ha.l_fValue, hb.l_fValue]; done))) ?_
  refine Tr.fld rfl rfl rfl Try.underlying43 rfl Sz23 (by decide) _ rfl ?_
  first
    | refine Tr.loadN (bytesV _) rfl rfl rfl Try.underlying23 rfl Sz23 (by first | exact mem0 | exact mem1 | exact mem2 | exact mem3 | exact mem4 | exact mem5 | exact mem6 | exact mem7) (Vote.row_fVoter (by first | assumption | (simp [ha.l_fVoter, hb.l_fVoter, ha.l_fValue, hb.l_fValue]; done))) (Vote.rl_fVoter (by first | assumption | (simp [ha.l_fVoter, hb.l_fVoter, ha.l_fValue, hb.l_fValue]; done))) ?_
  refine two (fun r hr k => Tr.eql_bytes rfl rfl rfl rfl Try.eqGuardType23 Try.underlying23 Try.underlying5 Sz5 (by simp [ha.l_fVoter, hb.l_fVoter, ha.l_fValue, hb.l_fValue]) (by simp [ha.l_fVoter, hb.l_fVoter, ha.l_fValue, hb.l_fValue]) hr k) (fun hs1_40 => ?_) (fun hs1_40 => ?_)
  ·
    first | have hs1_4 := of_decide_eq_true hs1_40 | have hs1_4 := of_decide_eq_false hs1_40 | have hs1_4 := nd_t hs1_40 | have hs1_4 := nd_f hs1_40 | have hs1_4 := hs1_40
    refine Tr.move rfl rfl rfl ?_
    refine Tr.fld rfl rfl rfl Try.underlying43 rfl Sz24 (by decide) _ rfl ?_
    refine Tr.load1 rfl rfl rfl Try.underlying24 rfl (by first | exact mem0 | exact mem1 | exact mem2 | exact mem3 | exact mem4 | exact mem5 | exact mem6 | exact mem7) (by first | exact Vote.get_fHeight (by first | assumption | (simp [ha.l_fVoter, hb.l_fVoter, ha.l_fValue, hb.l_fValue]; done)) | exact (by first | rfl | exact get_words (by first | omega | (simp [ha.l_fVoter, hb.l_fVoter, ha.l_fValue, hb.l_fValue]; done) | (simp [ha.l_fVoter, hb.l_fVoter, ha.l_fValue, hb.l_fValue]; omega)) | exact get_bytes (by first | omega | (simp [ha.l_fVoter, hb.l_fVoter, ha.l_fValue, hb.l_fValue]; done) | (simp [ha.l_fVoter, hb.l_fVoter, ha.l_fValue, hb.l_fValue]; omega)) | exact get_ints (by first | omega | (simp [ha.l_fVoter, hb.l_fVoter, ha.l_fValue, hb.l_fValue]; done) | (simp [ha.l_fVoter, hb.l_fVoter, ha.l_fValue, hb.l_fValue]; omega)))) ?_
    refine Tr.fld rfl rfl rfl Try.underlying43 rfl Sz24 (by decide) _ rfl ?_
    refine Tr.load1 rfl rfl rfl Try.underlying24 rfl (by first | exact mem0 | exact mem1 | exact mem2 | exact mem3 | exact mem4 | exact mem5 | exact mem6 | exact mem7) (by first | exact Vote.get_fHeight (by first | assumption | (simp [ha.l_fVoter, hb.l_fVoter, ha.l_fValue, hb.l_fValue]; done)) | exact (by first | rfl | exact get_words (by first | omega | (simp [ha.l_fVoter, hb.l_fVoter, ha.l_fValue, hb.l_fValue]; done) | (simp [ha.l_fVoter, hb.l_fVoter, ha.l_fValue, hb.l_fValue]; omega)) | exact get_bytes (by first | omega | (simp [ha.l_fVoter, hb.l_fVoter, ha.l_fValue, hb.l_fValue]; done) | (simp [ha.l_fVoter, hb.l_fVoter, ha.l_fValue, hb.l_fValue]; omega)) | exact get_ints (by first | omega | (simp [ha.l_fVoter, hb.l_fVoter, ha.l_fValue, hb.l_fValue]; done) | (simp [ha.l_fVoter, hb.l_fVoter, ha.l_fValue, hb.l_fValue]; omega)))) ?_
    refine two (fun r hr k => Tr.eqi rfl rfl rfl rfl hr k) (fun hs1_100 => ?_) (fun hs1_100 => ?_)
    ·
      first | have hs1_10 := of_decide_eq_true hs1_100 | have hs1_10 := of_decide_eq_false hs1_100 | have hs1_10 := nd_t hs1_100 | have hs1_10 := nd_f hs1_100 | have hs1_10 := hs1_100
      refine Tr.pick rfl rfl rfl rfl rfl rfl ?_
      refine Tr.move rfl rfl rfl ?_
      refine Tr.fld rfl rfl rfl Try.underlying43 rfl Sz24 (by decide) _ rfl ?_
      refine Tr.load1 rfl rfl rfl Try.underlying24 rfl (by first | exact mem0 | exact mem1 | exact mem2 | exact mem3 | exact mem4 | exact mem5 | exact mem6 | exact mem7) (by first | exact Vote.get_fRound (by first | assumption | (simp [ha.l_fVoter, hb.l_fVoter, ha.l_fValue, hb.l_fValue]; done)) | exact (by first | rfl | exact get_words (by first | omega | (simp [ha.l_fVoter, hb.l_fVoter, ha.l_fValue, hb.l_fValue]; done) | (simp [ha.l_fVoter, hb.l_fVoter, ha.l_fValue, hb.l_fValue]; omega)) | exact get_bytes (by first | omega | (simp [ha.l_fVoter, hb.l_fVoter, ha.l_fValue, hb.l_fValue]; done) | (simp [ha.l_fVoter, hb.l_fVoter, ha.l_fValue, hb.l_fValue]; omega)) | exact get_ints (by first | omega | (simp [ha.l_fVoter, hb.l_fVoter, ha.l_fValue, hb.l_fValue]; done) | (simp [ha.l_fVoter, hb.l_fVoter, ha.l_fValue, hb.l_fValue]; omega)))) ?_
      refine Tr.fld rfl rfl rfl Try.underlying43 rfl Sz24 (by decide) _ rfl ?_
      refine Tr.load1 rfl rfl rfl Try.underlying24 rfl (by first | exact mem0 | exact mem1 | exact mem2 | exact mem3 | exact mem4 | exact mem5 | exact mem6 | exact mem7) (by first | exact Vote.get_fRound (by first | assumption | (simp [ha.l_fVoter, hb.l_fVoter, ha.l_fValue, hb.l_fValue]; done)) | exact (by first | rfl | exact get_words (by first | omega | (simp [ha.l_fVoter, hb.l_fVoter, ha.l_fValue, hb.l_fValue]; done) | (simp [ha.l_fVoter, hb.l_fVoter, ha.l_fValue, hb.l_fValue]; omega)) | exact get_bytes (by first | omega | (simp [ha.l_fVoter, hb.l_fVoter, ha.l_fValue, hb.l_fValue]; done) | (simp [ha.l_fVoter, hb.l_fVoter, ha.l_fValue, hb.l_fValue]; omega)) | exact get_ints (by first | omega | (simp [ha.l_fVoter, hb.l_fVoter, ha.l_fValue, hb.l_fValue]; done) | (simp [ha.l_fVoter, hb.l_fVoter, ha.l_fValue, hb.l_fValue]; omega)))) ?_
      refine two (fun r hr k => Tr.eqi rfl rfl rfl rfl hr k) (fun hs1_170 => ?_) (fun hs1_170 => ?_)
      ·
        first | have hs1_17 := of_decide_eq_true hs1_170 | have hs1_17 := of_decide_eq_false hs1_170 | have hs1_17 := nd_t hs1_170 | have hs1_17 := nd_f hs1_170 | have hs1_17 := hs1_170
        refine Tr.pick rfl rfl rfl rfl rfl rfl ?_
        refine Tr.move rfl rfl rfl ?_
        refine Tr.fld rfl rfl rfl Try.underlying43 rfl Sz3 (by decide) _ rfl ?_
        refine Tr.load1 rfl rfl rfl Try.underlying3 rfl (by first | exact mem0 | exact mem1 | exact mem2 | exact mem3 | exact mem4 | exact mem5 | exact mem6 | exact mem7) (by first | exact Vote.get_fPhase (by first | assumption | (simp [ha.l_fVoter, hb.l_fVoter, ha.l_fValue, hb.l_fValue]; done)) | exact (by first | rfl | exact get_words (by first | omega | (simp [ha.l_fVoter, hb.l_fVoter, ha.l_fValue, hb.l_fValue]; done) | (simp [ha.l_fVoter, hb.l_fVoter, ha.l_fValue, hb.l_fValue]; omega)) | exact get_bytes (by first | omega | (simp [ha.l_fVoter, hb.l_fVoter, ha.l_fValue, hb.l_fValue]; done) | (simp [ha.l_fVoter, hb.l_fVoter, ha.l_fValue, hb.l_fValue]; omega)) | exact get_ints (by first | omega | (simp [ha.l_fVoter, hb.l_fVoter, ha.l_fValue, hb.l_fValue]; done) | (simp [ha.l_fVoter, hb.l_fVoter, ha.l_fValue, hb.l_fValue]; omega)))) ?_
        refine Tr.fld rfl rfl rfl Try.underlying43 rfl Sz3 (by decide) _ rfl ?_
        refine Tr.load1 rfl rfl rfl Try.underlying3 rfl (by first | exact mem0 | exact mem1 | exact mem2 | exact mem3 | exact mem4 | exact mem5 | exact mem6 | exact mem7) (by first | exact Vote.get_fPhase (by first | assumption | (simp [ha.l_fVoter, hb.l_fVoter, ha.l_fValue, hb.l_fValue]; done)) | exact (by first | rfl | exact get_words (by first | omega | (simp [ha.l_fVoter, hb.l_fVoter, ha.l_fValue, hb.l_fValue]; done) | (simp [ha.l_fVoter, hb.l_fVoter, ha.l_fValue, hb.l_fValue]; omega)) | exact get_bytes (by first | omega | (simp [ha.l_fVoter, hb.l_fVoter, ha.l_fValue, hb.l_fValue]; done) | (simp [ha.l_fVoter, hb.l_fVoter, ha.l_fValue, hb.l_fValue]; omega)) | exact get_ints (by first | omega | (simp [ha.l_fVoter, hb.l_fVoter, ha.l_fValue, hb.l_fValue]; done) | (simp [ha.l_fVoter, hb.l_fVoter, ha.l_fValue, hb.l_fValue]; omega)))) ?_
        refine two (fun r hr k => Tr.eqi rfl rfl rfl rfl hr k) (fun hs1_240 => ?_) (fun hs1_240 => ?_)
        ·
          first | have hs1_24 := of_decide_eq_true hs1_240 | have hs1_24 := of_decide_eq_false hs1_240 | have hs1_24 := nd_t hs1_240 | have hs1_24 := nd_f hs1_240 | have hs1_24 := hs1_240
          refine Tr.pick rfl rfl rfl rfl rfl rfl ?_
          refine Tr.move rfl rfl rfl ?_
          refine Tr.fld rfl rfl rfl Try.underlying43 rfl Sz25 (by decide) _ rfl ?_
          first
            | refine Tr.loadN (bytesV _) rfl rfl rfl Try.underlying25 rfl Sz25 (by first | exact mem0 | exact mem1 | exact mem2 | exact mem3 | exact mem4 | exact mem5 | exact mem6 | exact mem7) (Vote.row_fValue (by first | assumption | (simp [ha.l_fVoter, hb.l_fVoter, ha.l_fValue, hb.l_fValue]; done))) (Vote.rl_fValue (by first | assumption | (simp [ha.l_fVoter, hb.l_fVoter, ha.l_fValue, hb.l_fValue]; done))) ?_
          refine Tr.fld rfl rfl rfl Try.underlying43 rfl Sz25 (by decide) _ rfl ?_
          first
            | refine Tr.loadN (bytesV _) rfl rfl rfl Try.underlying25 rfl Sz25 (by first | exact mem0 | exact mem1 | exact mem2 | exact mem3 | exact mem4 | exact mem5 | exact mem6 | exact mem7) (Vote.row_fValue (by first | assumption | (simp [ha.l_fVoter, hb.l_fVoter, ha.l_fValue, hb.l_fValue]; done))) (Vote.rl_fValue (by first | assumption | (simp [ha.l_fVoter, hb.l_fVoter, ha.l_fValue, hb.l_fValue]; done))) ?_
          refine two (fun r hr k => Tr.neq_bytes rfl rfl rfl rfl Try.eqGuardType25 Try.underlying25 Try.underlying5 Sz5 (by simp [ha.l_fVoter, hb.l_fVoter, ha.l_fValue, hb.l_fValue]) (by simp [ha.l_fVoter, hb.l_fVoter, ha.l_fValue, hb.l_fValue]) hr k) (fun hs1_310 => ?_) (fun hs1_310 => ?_)
          ·
            first | have hs1_31 := of_decide_eq_true hs1_310 | have hs1_31 := of_decide_eq_false hs1_310 | have hs1_31 := nd_t hs1_310 | have hs1_31 := nd_f hs1_310 | have hs1_31 := hs1_310
            refine Tr.move rfl rfl rfl ?_
            refine Tr.skp rfl rfl ?_
            refine Tr.skp rfl rfl ?_
            refine Tr.skp rfl rfl ?_
            refine Tr.skp rfl rfl ?_
            refine Tr.skp rfl rfl ?_
            refine Tr.pick rfl rfl rfl rfl rfl rfl ?_
            refine Tr.pick rfl rfl rfl rfl rfl rfl ?_
            refine Tr.assign rfl rfl rfl ?_
            refine Tr.nil ?_
            refine at_n ?_
            refine Sat.ret ?_
            refine en_r ?_
            refine ⟨_, [], res_tmp rfl rfl, (by simp), (by simp), ?_, rfl⟩
            simp [against, same4, *]
          ·
            first | have hs1_31 := of_decide_eq_true hs1_310 | have hs1_31 := of_decide_eq_false hs1_310 | have hs1_31 := nd_t hs1_310 | have hs1_31 := nd_f hs1_310 | have hs1_31 := hs1_310
            refine Tr.move rfl rfl rfl ?_
            refine Tr.fld rfl rfl rfl Try.underlying43 rfl Sz24 (by decide) _ rfl ?_
            refine Tr.load1 rfl rfl rfl Try.underlying24 rfl (by first | exact mem0 | exact mem1 | exact mem2 | exact mem3 | exact mem4 | exact mem5 | exact mem6 | exact mem7) (by first | exact Vote.get_fProof (by first | assumption | (simp [ha.l_fVoter, hb.l_fVoter, ha.l_fValue, hb.l_fValue]; done)) | exact (by first | rfl | exact get_words (by first | omega | (simp [ha.l_fVoter, hb.l_fVoter, ha.l_fValue, hb.l_fValue]; done) | (simp [ha.l_fVoter, hb.l_fVoter, ha.l_fValue, hb.l_fValue]; omega)) | exact get_bytes (by first | omega | (simp [ha.l_fVoter, hb.l_fVoter, ha.l_fValue, hb.l_fValue]; done) | (simp [ha.l_fVoter, hb.l_fVoter, ha.l_fValue, hb.l_fValue]; omega)) | exact get_ints (by first | omega | (simp [ha.l_fVoter, hb.l_fVoter, ha.l_fValue, hb.l_fValue]; done) | (simp [ha.l_fVoter, hb.l_fVoter, ha.l_fValue, hb.l_fValue]; omega)))) ?_
            refine Tr.fld rfl rfl rfl Try.underlying43 rfl Sz24 (by decide) _ rfl ?_
            refine Tr.load1 rfl rfl rfl Try.underlying24 rfl (by first | exact mem0 | exact mem1 | exact mem2 | exact mem3 | exact mem4 | exact mem5 | exact mem6 | exact mem7) (by first | exact Vote.get_fProof (by first | assumption | (simp [ha.l_fVoter, hb.l_fVoter, ha.l_fValue, hb.l_fValue]; done)) | exact (by first | rfl | exact get_words (by first | omega | (simp [ha.l_fVoter, hb.l_fVoter, ha.l_fValue, hb.l_fValue]; done) | (simp [ha.l_fVoter, hb.l_fVoter, ha.l_fValue, hb.l_fValue]; omega)) | exact get_bytes (by first | omega | (simp [ha.l_fVoter, hb.l_fVoter, ha.l_fValue, hb.l_fValue]; done) | (simp [ha.l_fVoter, hb.l_fVoter, ha.l_fValue, hb.l_fValue]; omega)) | exact get_ints (by first | omega | (simp [ha.l_fVoter, hb.l_fVoter, ha.l_fValue, hb.l_fValue]; done) | (simp [ha.l_fVoter, hb.l_fVoter, ha.l_fValue, hb.l_fValue]; omega)))) ?_
            refine Tr.nei rfl rfl rfl rfl rfl ?_
            refine Tr.pick rfl rfl rfl rfl rfl rfl ?_
            refine Tr.pick rfl rfl rfl rfl rfl rfl ?_
            refine Tr.assign rfl rfl rfl ?_
            refine Tr.nil ?_
            refine at_n ?_
            refine Sat.ret ?_
            refine en_r ?_
            refine ⟨_, [], res_tmp rfl rfl, (by simp), (by simp), ?_, rfl⟩
            simp [against, same4, *]
        ·
          first | have hs1_24 := of_decide_eq_true hs1_240 | have hs1_24 := of_decide_eq_false hs1_240 | have hs1_24 := nd_t hs1_240 | have hs1_24 := nd_f hs1_240 | have hs1_24 := hs1_240
          refine Tr.pick rfl rfl rfl rfl rfl rfl ?_
          refine Tr.move rfl rfl rfl ?_
          refine Tr.skp rfl rfl ?_
          refine Tr.skp rfl rfl ?_
          refine Tr.skp rfl rfl ?_
          refine Tr.skp rfl rfl ?_
          refine Tr.skp rfl rfl ?_
          refine Tr.skp rfl rfl ?_
          refine Tr.skp rfl rfl ?_
          refine Tr.skp rfl rfl ?_
          refine Tr.skp rfl rfl ?_
          refine Tr.skp rfl rfl ?_
          refine Tr.skp rfl rfl ?_
          refine Tr.skp rfl rfl ?_
          refine Tr.pick rfl rfl rfl rfl rfl rfl ?_
          refine Tr.assign rfl rfl rfl ?_
          refine Tr.nil ?_
          refine at_n ?_
          refine Sat.ret ?_
          refine en_r ?_
          refine ⟨_, [], res_tmp rfl rfl, (by simp), (by simp), ?_, rfl⟩
          simp [against, same4, *]
      ·
        first | have hs1_17 := of_decide_eq_true hs1_170 | have hs1_17 := of_decide_eq_false hs1_170 | have hs1_17 := nd_t hs1_170 | have hs1_17 := nd_f hs1_170 | have hs1_17 := hs1_170
        refine Tr.pick rfl rfl rfl rfl rfl rfl ?_
        refine Tr.move rfl rfl rfl ?_
        refine Tr.skp rfl rfl ?_
        refine Tr.skp rfl rfl ?_
        refine Tr.skp rfl rfl ?_
        refine Tr.skp rfl rfl ?_
        refine Tr.skp rfl rfl ?_
        refine Tr.pick rfl rfl rfl rfl rfl rfl ?_
        refine Tr.move rfl rfl rfl ?_
        refine Tr.skp rfl rfl ?_
        refine Tr.skp rfl rfl ?_
        refine Tr.skp rfl rfl ?_
        refine Tr.skp rfl rfl ?_
        refine Tr.skp rfl rfl ?_
        refine Tr.skp rfl rfl ?_
        refine Tr.skp rfl rfl ?_
        refine Tr.skp rfl rfl ?_
        refine Tr.skp rfl rfl ?_
        refine Tr.skp rfl rfl ?_
        refine Tr.skp rfl rfl ?_
        refine Tr.skp rfl rfl ?_
        refine Tr.pick rfl rfl rfl rfl rfl rfl ?_
        refine Tr.assign rfl rfl rfl ?_
        refine Tr.nil ?_
        refine at_n ?_
        refine Sat.ret ?_
        refine en_r ?_
        refine ⟨_, [], res_tmp rfl rfl, (by simp), (by simp), ?_, rfl⟩
        simp [against, same4, *]
    ·
      first | have hs1_10 := of_decide_eq_true hs1_100 | have hs1_10 := of_decide_eq_false hs1_100 | have hs1_10 := nd_t hs1_100 | have hs1_10 := nd_f hs1_100 | have hs1_10 := hs1_100
      refine Tr.pick rfl rfl rfl rfl rfl rfl ?_
      refine Tr.move rfl rfl rfl ?_
      refine Tr.skp rfl rfl ?_
      refine Tr.skp rfl rfl ?_
      refine Tr.skp rfl rfl ?_
      refine Tr.skp rfl rfl ?_
      refine Tr.skp rfl rfl ?_
      refine Tr.pick rfl rfl rfl rfl rfl rfl ?_
      refine Tr.move rfl rfl rfl ?_
      refine Tr.skp rfl rfl ?_
      refine Tr.skp rfl rfl ?_
      refine Tr.skp rfl rfl ?_
      refine Tr.skp rfl rfl ?_
      refine Tr.skp rfl rfl ?_
      refine Tr.pick rfl rfl rfl rfl rfl rfl ?_
      refine Tr.move rfl rfl rfl ?_
      refine Tr.skp rfl rfl ?_
      refine Tr.skp rfl rfl ?_
      refine Tr.skp rfl rfl ?_
      refine Tr.skp rfl rfl ?_
      refine Tr.skp rfl rfl ?_
      refine Tr.skp rfl rfl ?_
      refine Tr.skp rfl rfl ?_
      refine Tr.skp rfl rfl ?_
      refine Tr.skp rfl rfl ?_
      refine Tr.skp rfl rfl ?_
      refine Tr.skp rfl rfl ?_
      refine Tr.skp rfl rfl ?_
      refine Tr.pick rfl rfl rfl rfl rfl rfl ?_
      refine Tr.assign rfl rfl rfl ?_
      refine Tr.nil ?_
      refine at_n ?_
      refine Sat.ret ?_
      refine en_r ?_
      refine ⟨_, [], res_tmp rfl rfl, (by simp), (by simp), ?_, rfl⟩
      simp [against, same4, *]
  ·
    first | have hs1_4 := of_decide_eq_true hs1_40 | have hs1_4 := of_decide_eq_false hs1_40 | have hs1_4 := nd_t hs1_40 | have hs1_4 := nd_f hs1_40 | have hs1_4 := hs1_40
    refine Tr.move rfl rfl rfl ?_
    refine Tr.skp rfl rfl ?_
    refine Tr.skp rfl rfl ?_
    refine Tr.skp rfl rfl ?_
    refine Tr.skp rfl rfl ?_
    refine Tr.skp rfl rfl ?_
    refine Tr.pick rfl rfl rfl rfl rfl rfl ?_
    refine Tr.move rfl rfl rfl ?_
    refine Tr.skp rfl rfl ?_
    refine Tr.skp rfl rfl ?_
    refine Tr.skp rfl rfl ?_
    refine Tr.skp rfl rfl ?_
    refine Tr.skp rfl rfl ?_
    refine Tr.pick rfl rfl rfl rfl rfl rfl ?_
    refine Tr.move rfl rfl rfl ?_
    refine Tr.skp rfl rfl ?_
    refine Tr.skp rfl rfl ?_
    refine Tr.skp rfl rfl ?_
    refine Tr.skp rfl rfl ?_
    refine Tr.skp rfl rfl ?_
    refine Tr.pick rfl rfl rfl rfl rfl rfl ?_
    refine Tr.move rfl rfl rfl ?_
    refine Tr.skp rfl rfl ?_
    refine Tr.skp rfl rfl ?_
    refine Tr.skp rfl rfl ?_
    refine Tr.skp rfl rfl ?_
    refine Tr.skp rfl rfl ?_
    refine Tr.skp rfl rfl ?_
    refine Tr.skp rfl rfl ?_
    refine Tr.skp rfl rfl ?_
    refine Tr.skp rfl rfl ?_
    refine Tr.skp rfl rfl ?_
    refine Tr.skp rfl rfl ?_
    refine Tr.skp rfl rfl ?_
    refine Tr.pick rfl rfl rfl rfl rfl rfl ?_
    refine Tr.assign rfl rfl rfl ?_
    refine Tr.nil ?_
    refine at_n ?_
    refine Sat.ret ?_
    refine en_r ?_
    refine ⟨_, [], res_tmp rfl rfl, (by simp), (by simp), ?_, rfl⟩
    simp [against, same4, *]

set_option maxRecDepth 100000 in
set_option maxHeartbeats 1000000 in
theorem vote_check (a : Vote) (ha : a.ok) : Meets Try.prog 40 [agg a.cells] [] (fun _ => True) (fun v out => v = i64 (vcheck a) ∧ out = []) := by
  intro W hW
  refine calls_of (hp0 := []) Try.func40 rfl 40 Try.ntmps40 rfl (HRep.nil _) ?_
  refine Sat.seq ?_
  -- region 0
  refine Sat.region ?_
  refine Tr.boxA rfl rfl ?_
  intro n1 hn1 hf1
  refine Tr.assign rfl rfl rfl ?_
  refine Tr.nil ?_
  refine at_n ?_
  refine Sat.seq ?_
  refine Sat.seq ?_
  -- region 1
  refine Sat.region ?_
  refine Tr.fld rfl rfl rfl Try.underlying43 rfl Sz24 (by decide) _ rfl ?_
  refine Tr.load1 rfl rfl rfl Try.underlying24 rfl (by first | exact mem0 | exact mem1 | exact mem2 | exact mem3 | exact mem4 | exact mem5 | exact mem6 | exact mem7) (by first | exact Vote.get_fHeight (by first | assumption | (simp [ha.l_fVoter, ha.l_fValue]; done)) | exact (by first | rfl | exact get_words (by first | omega | (simp [ha.l_fVoter, ha.l_fValue]; done) | (simp [ha.l_fVoter, ha.l_fValue]; omega)) | exact get_bytes (by first | omega | (simp [ha.l_fVoter, ha.l_fValue]; done) | (simp [ha.l_fVoter, ha.l_fValue]; omega)) | exact get_ints (by first | omega | (simp [ha.l_fVoter, ha.l_fValue]; done) | (simp [ha.l_fVoter, ha.l_fValue]; omega)))) ?_
  refine two (fun r hr k => Tr.lss rfl rfl rfl rfl hr k) (fun hs1_20 => ?_) (fun hs1_20 => ?_)
  ·
    first | have hs1_2 := of_decide_eq_true hs1_20 | have hs1_2 := of_decide_eq_false hs1_20 | have hs1_2 := nd_t hs1_20 | have hs1_2 := nd_f hs1_20 | have hs1_2 := hs1_20
    refine Tr.move rfl rfl rfl ?_
    refine Tr.skp rfl rfl ?_
    refine Tr.skp rfl rfl ?_
    refine Tr.skp rfl rfl ?_
    refine Tr.pick rfl rfl rfl rfl rfl rfl ?_
    refine Tr.move rfl rfl rfl ?_
    refine Tr.skp rfl rfl ?_
    refine Tr.skp rfl rfl ?_
    refine Tr.skp rfl rfl ?_
    refine Tr.pick rfl rfl rfl rfl rfl rfl ?_
    refine Tr.nil ?_
    refine at_n ?_
    refine Sat.cond_t rfl rfl ?_
    refine Sat.seq ?_
    -- region 2
    refine Sat.region ?_
    refine Tr.assign rfl rfl rfl ?_
    refine Tr.nil ?_
    refine at_n ?_
    refine Sat.ret ?_
    refine at_r ?_
    refine en_r ?_
    refine ⟨_, [], res_tmp rfl rfl, (by simp), (by simp), ?_, rfl⟩
    simp_all [vcheck]
  ·
    first | have hs1_2 := of_decide_eq_true hs1_20 | have hs1_2 := of_decide_eq_false hs1_20 | have hs1_2 := nd_t hs1_20 | have hs1_2 := nd_f hs1_20 | have hs1_2 := hs1_20
    refine Tr.move rfl rfl rfl ?_
    refine Tr.fld rfl rfl rfl Try.underlying43 rfl Sz24 (by decide) _ rfl ?_
    refine Tr.load1 rfl rfl rfl Try.underlying24 rfl (by first | exact mem0 | exact mem1 | exact mem2 | exact mem3 | exact mem4 | exact mem5 | exact mem6 | exact mem7) (by first | exact Vote.get_fHeight (by first | assumption | (simp [ha.l_fVoter, ha.l_fValue]; done)) | exact (by first | rfl | exact get_words (by first | omega | (simp [ha.l_fVoter, ha.l_fValue]; done) | (simp [ha.l_fVoter, ha.l_fValue]; omega)) | exact get_bytes (by first | omega | (simp [ha.l_fVoter, ha.l_fValue]; done) | (simp [ha.l_fVoter, ha.l_fValue]; omega)) | exact get_ints (by first | omega | (simp [ha.l_fVoter, ha.l_fValue]; done) | (simp [ha.l_fVoter, ha.l_fValue]; omega)))) ?_
    refine two (fun r hr k => Tr.gtr rfl rfl rfl rfl hr k) (fun hs1_60 => ?_) (fun hs1_60 => ?_)
    ·
      first | have hs1_6 := of_decide_eq_true hs1_60 | have hs1_6 := of_decide_eq_false hs1_60 | have hs1_6 := nd_t hs1_60 | have hs1_6 := nd_f hs1_60 | have hs1_6 := hs1_60
      refine Tr.pick rfl rfl rfl rfl rfl rfl ?_
      refine Tr.move rfl rfl rfl ?_
      refine Tr.skp rfl rfl ?_
      refine Tr.skp rfl rfl ?_
      refine Tr.skp rfl rfl ?_
      refine Tr.pick rfl rfl rfl rfl rfl rfl ?_
      refine Tr.nil ?_
      refine at_n ?_
      refine Sat.cond_t rfl rfl ?_
      refine Sat.seq ?_
      -- region 2
      refine Sat.region ?_
      refine Tr.assign rfl rfl rfl ?_
      refine Tr.nil ?_
      refine at_n ?_
      refine Sat.ret ?_
      refine at_r ?_
      refine en_r ?_
      refine ⟨_, [], res_tmp rfl rfl, (by simp), (by simp), ?_, rfl⟩
      simp_all [vcheck]
    ·
      first | have hs1_6 := of_decide_eq_true hs1_60 | have hs1_6 := of_decide_eq_false hs1_60 | have hs1_6 := nd_t hs1_60 | have hs1_6 := nd_f hs1_60 | have hs1_6 := hs1_60
      refine Tr.pick rfl rfl rfl rfl rfl rfl ?_
      refine Tr.move rfl rfl rfl ?_
      refine Tr.fld rfl rfl rfl Try.underlying43 rfl Sz24 (by decide) _ rfl ?_
      refine Tr.load1 rfl rfl rfl Try.underlying24 rfl (by first | exact mem0 | exact mem1 | exact mem2 | exact mem3 | exact mem4 | exact mem5 | exact mem6 | exact mem7) (by first | exact Vote.get_fRound (by first | assumption | (simp [ha.l_fVoter, ha.l_fValue]; done)) | exact (by first | rfl | exact get_words (by first | omega | (simp [ha.l_fVoter, ha.l_fValue]; done) | (simp [ha.l_fVoter, ha.l_fValue]; omega)) | exact get_bytes (by first | omega | (simp [ha.l_fVoter, ha.l_fValue]; done) | (simp [ha.l_fVoter, ha.l_fValue]; omega)) | exact get_ints (by first | omega | (simp [ha.l_fVoter, ha.l_fValue]; done) | (simp [ha.l_fVoter, ha.l_fValue]; omega)))) ?_
      refine Tr.gtr rfl rfl rfl rfl rfl ?_
      refine Tr.pick rfl rfl rfl rfl rfl rfl ?_
      refine Tr.nil ?_
      refine at_n ?_
      first
        | refine Sat.condP rfl (fun hc0 => ?_) (fun hc0 => ?_)
        | refine Sat.condNP rfl (fun hc0 => ?_) (fun hc0 => ?_)
        | refine Sat.cond rfl (fun hc0 => ?_) (fun hc0 => ?_)
      ·
        refine Sat.seq ?_
        -- region 2
        refine Sat.region ?_
        refine Tr.assign rfl rfl rfl ?_
        refine Tr.nil ?_
        refine at_n ?_
        refine Sat.ret ?_
        refine at_r ?_
        refine en_r ?_
        refine ⟨_, [], res_tmp rfl rfl, (by simp), (by simp), ?_, rfl⟩
        simp_all [vcheck]
      ·
        refine Sat.skip ?_
        refine at_n ?_
        refine Sat.seq ?_
        -- region 3
        refine Sat.region ?_
        refine Tr.assign rfl rfl rfl ?_
        refine Tr.nil ?_
        refine at_n ?_
        refine Sat.seq ?_
        refine Sat.seq ?_
        -- region 4
        refine Sat.region ?_
        refine Tr.fld rfl rfl rfl Try.underlying43 rfl Sz3 (by decide) _ rfl ?_
        refine Tr.load1 rfl rfl rfl Try.underlying3 rfl (by first | exact mem0 | exact mem1 | exact mem2 | exact mem3 | exact mem4 | exact mem5 | exact mem6 | exact mem7) (by first | exact Vote.get_fPhase (by first | assumption | (simp [ha.l_fVoter, ha.l_fValue]; done)) | exact (by first | rfl | exact get_words (by first | omega | (simp [ha.l_fVoter, ha.l_fValue]; done) | (simp [ha.l_fVoter, ha.l_fValue]; omega)) | exact get_bytes (by first | omega | (simp [ha.l_fVoter, ha.l_fValue]; done) | (simp [ha.l_fVoter, ha.l_fValue]; omega)) | exact get_ints (by first | omega | (simp [ha.l_fVoter, ha.l_fValue]; done) | (simp [ha.l_fVoter, ha.l_fValue]; omega)))) ?_
        refine Tr.nil ?_
        refine at_n ?_
        refine Sat.block ?_
        refine Sat.seq ?_
        -- region 5
        refine Sat.region ?_
        refine Tr.eqi rfl rfl rfl rfl rfl ?_
        refine Tr.assign rfl rfl rfl ?_
        refine Tr.nil ?_
        refine at_n ?_
        first
          | refine Sat.condP rfl (fun hc1 => ?_) (fun hc1 => ?_)
          | refine Sat.condNP rfl (fun hc1 => ?_) (fun hc1 => ?_)
          | refine Sat.cond rfl (fun hc1 => ?_) (fun hc1 => ?_)
        ·
          -- region 6
          refine Sat.region ?_
          refine Tr.fld rfl rfl rfl Try.underlying43 rfl Sz25 (by decide) _ rfl ?_
          first
            | refine Tr.loadN (bytesV _) rfl rfl rfl Try.underlying25 rfl Sz25 (by first | exact mem0 | exact mem1 | exact mem2 | exact mem3 | exact mem4 | exact mem5 | exact mem6 | exact mem7) (Vote.row_fValue (by first | assumption | (simp [ha.l_fVoter, ha.l_fValue]; done))) (Vote.rl_fValue (by first | assumption | (simp [ha.l_fVoter, ha.l_fValue]; done))) ?_
          refine Tr.build (cs := bytesV (List.replicate 32 0)) rfl rfl rfl (fun w => by kernel_rfl) ?_
          refine two (fun r hr k => Tr.neq_bytes rfl rfl rfl rfl Try.eqGuardType25 Try.underlying25 Try.underlying5 Sz5 (by simp [ha.l_fVoter, ha.l_fValue]) (by simp [ha.l_fVoter, ha.l_fValue]) hr k) (fun hs6_30 => ?_) (fun hs6_30 => ?_)
          ·
            first | have hs6_3 := of_decide_eq_true hs6_30 | have hs6_3 := of_decide_eq_false hs6_30 | have hs6_3 := nd_t hs6_30 | have hs6_3 := nd_f hs6_30 | have hs6_3 := hs6_30
            refine Tr.move rfl rfl rfl ?_
            refine Tr.fld rfl rfl rfl Try.underlying43 rfl Sz24 (by decide) _ rfl ?_
            refine Tr.load1 rfl rfl rfl Try.underlying24 rfl (by first | exact mem0 | exact mem1 | exact mem2 | exact mem3 | exact mem4 | exact mem5 | exact mem6 | exact mem7) (by first | exact Vote.get_fProof (by first | assumption | (simp [ha.l_fVoter, ha.l_fValue]; done)) | exact (by first | rfl | exact get_words (by first | omega | (simp [ha.l_fVoter, ha.l_fValue]; done) | (simp [ha.l_fVoter, ha.l_fValue]; omega)) | exact get_bytes (by first | omega | (simp [ha.l_fVoter, ha.l_fValue]; done) | (simp [ha.l_fVoter, ha.l_fValue]; omega)) | exact get_ints (by first | omega | (simp [ha.l_fVoter, ha.l_fValue]; done) | (simp [ha.l_fVoter, ha.l_fValue]; omega)))) ?_
            refine Tr.fld rfl rfl rfl Try.underlying43 rfl Sz24 (by decide) _ rfl ?_
            refine Tr.load1 rfl rfl rfl Try.underlying24 rfl (by first | exact mem0 | exact mem1 | exact mem2 | exact mem3 | exact mem4 | exact mem5 | exact mem6 | exact mem7) (by first | exact Vote.get_fRound (by first | assumption | (simp [ha.l_fVoter, ha.l_fValue]; done)) | exact (by first | rfl | exact get_words (by first | omega | (simp [ha.l_fVoter, ha.l_fValue]; done) | (simp [ha.l_fVoter, ha.l_fValue]; omega)) | exact get_bytes (by first | omega | (simp [ha.l_fVoter, ha.l_fValue]; done) | (simp [ha.l_fVoter, ha.l_fValue]; omega)) | exact get_ints (by first | omega | (simp [ha.l_fVoter, ha.l_fValue]; done) | (simp [ha.l_fVoter, ha.l_fValue]; omega)))) ?_
            refine Tr.leq rfl rfl rfl rfl rfl ?_
            refine Tr.pick rfl rfl rfl rfl rfl rfl ?_
            refine Tr.assign rfl rfl rfl ?_
            refine Tr.nil ?_
            refine bl_n ?_
            refine at_n ?_
            refine Sat.seq ?_
            refine Sat.seq ?_
            -- region 10
            refine Sat.region ?_
            refine Tr.move rfl rfl rfl ?_
            refine Tr.not rfl rfl rfl ?_
            refine Tr.nil ?_
            refine at_n ?_
            first
              | refine Sat.condP rfl (fun hc4 => ?_) (fun hc4 => ?_)
              | refine Sat.condNP rfl (fun hc4 => ?_) (fun hc4 => ?_)
              | refine Sat.cond rfl (fun hc4 => ?_) (fun hc4 => ?_)
            ·
              refine Sat.seq ?_
              -- region 11
              refine Sat.region ?_
              refine Tr.assign rfl rfl rfl ?_
              refine Tr.nil ?_
              refine at_n ?_
              refine Sat.ret ?_
              refine at_r ?_
              refine en_r ?_
              refine ⟨_, [], res_tmp rfl rfl, (by simp), (by simp), ?_, rfl⟩
              simp_all [vcheck]
            ·
              refine Sat.skip ?_
              refine at_n ?_
              refine Sat.seq ?_
              -- region 12
              refine Sat.region ?_
              refine Tr.assign rfl rfl rfl ?_
              refine Tr.nil ?_
              refine at_n ?_
              refine Sat.ret ?_
              refine en_r ?_
              refine ⟨_, [], res_tmp rfl rfl, (by simp), (by simp), ?_, rfl⟩
              simp_all [vcheck]
          ·
            first | have hs6_3 := of_decide_eq_true hs6_30 | have hs6_3 := of_decide_eq_false hs6_30 | have hs6_3 := nd_t hs6_30 | have hs6_3 := nd_f hs6_30 | have hs6_3 := hs6_30
            refine Tr.move rfl rfl rfl ?_
            refine Tr.skp rfl rfl ?_
            refine Tr.skp rfl rfl ?_
            refine Tr.skp rfl rfl ?_
            refine Tr.skp rfl rfl ?_
            refine Tr.skp rfl rfl ?_
            refine Tr.pick rfl rfl rfl rfl rfl rfl ?_
            refine Tr.assign rfl rfl rfl ?_
            refine Tr.nil ?_
            refine bl_n ?_
            refine at_n ?_
            refine Sat.seq ?_
            refine Sat.seq ?_
            -- region 10
            refine Sat.region ?_
            refine Tr.move rfl rfl rfl ?_
            refine Tr.not rfl rfl rfl ?_
            refine Tr.nil ?_
            refine at_n ?_
            refine Sat.cond_t rfl rfl ?_
            refine Sat.seq ?_
            -- region 11
            refine Sat.region ?_
            refine Tr.assign rfl rfl rfl ?_
            refine Tr.nil ?_
            refine at_n ?_
            refine Sat.ret ?_
            refine at_r ?_
            refine en_r ?_
            refine ⟨_, [], res_tmp rfl rfl, (by simp), (by simp), ?_, rfl⟩
            simp_all [vcheck]
        ·
          refine Sat.seq ?_
          refine Sat.seq ?_
          -- region 7
          refine Sat.region ?_
          refine Tr.eqi rfl rfl rfl rfl rfl ?_
          refine Tr.assign rfl rfl rfl ?_
          refine Tr.nil ?_
          refine at_n ?_
          first
            | refine Sat.condP rfl (fun hc2 => ?_) (fun hc2 => ?_)
            | refine Sat.condNP rfl (fun hc2 => ?_) (fun hc2 => ?_)
            | refine Sat.cond rfl (fun hc2 => ?_) (fun hc2 => ?_)
          ·
            refine Sat.skip ?_
            refine at_n ?_
            first
              | refine Sat.condP rfl (fun hc3 => ?_) (fun hc3 => ?_)
              | refine Sat.condNP rfl (fun hc3 => ?_) (fun hc3 => ?_)
              | refine Sat.cond rfl (fun hc3 => ?_) (fun hc3 => ?_)
            ·
              -- region 9
              refine Sat.region ?_
              refine Tr.fld rfl rfl rfl Try.underlying43 rfl Sz24 (by decide) _ rfl ?_
              refine Tr.load1 rfl rfl rfl Try.underlying24 rfl (by first | exact mem0 | exact mem1 | exact mem2 | exact mem3 | exact mem4 | exact mem5 | exact mem6 | exact mem7) (by first | exact Vote.get_fProof (by first | assumption | (simp [ha.l_fVoter, ha.l_fValue]; done)) | exact (by first | rfl | exact get_words (by first | omega | (simp [ha.l_fVoter, ha.l_fValue]; done) | (simp [ha.l_fVoter, ha.l_fValue]; omega)) | exact get_bytes (by first | omega | (simp [ha.l_fVoter, ha.l_fValue]; done) | (simp [ha.l_fVoter, ha.l_fValue]; omega)) | exact get_ints (by first | omega | (simp [ha.l_fVoter, ha.l_fValue]; done) | (simp [ha.l_fVoter, ha.l_fValue]; omega)))) ?_
              refine Tr.eqi rfl rfl rfl rfl rfl ?_
              refine Tr.assign rfl rfl rfl ?_
              refine Tr.nil ?_
              refine bl_n ?_
              refine at_n ?_
              refine Sat.seq ?_
              refine Sat.seq ?_
              -- region 10
              refine Sat.region ?_
              refine Tr.move rfl rfl rfl ?_
              refine Tr.not rfl rfl rfl ?_
              refine Tr.nil ?_
              refine at_n ?_
              first
                | refine Sat.condP rfl (fun hc4 => ?_) (fun hc4 => ?_)
                | refine Sat.condNP rfl (fun hc4 => ?_) (fun hc4 => ?_)
                | refine Sat.cond rfl (fun hc4 => ?_) (fun hc4 => ?_)
              ·
                refine Sat.seq ?_
                -- region 11
                refine Sat.region ?_
                refine Tr.assign rfl rfl rfl ?_
                refine Tr.nil ?_
                refine at_n ?_
                refine Sat.ret ?_
                refine at_r ?_
                refine en_r ?_
                refine ⟨_, [], res_tmp rfl rfl, (by simp), (by simp), ?_, rfl⟩
                simp_all [vcheck]
              ·
                refine Sat.skip ?_
                refine at_n ?_
                refine Sat.seq ?_
                -- region 12
                refine Sat.region ?_
                refine Tr.assign rfl rfl rfl ?_
                refine Tr.nil ?_
                refine at_n ?_
                refine Sat.ret ?_
                refine en_r ?_
                refine ⟨_, [], res_tmp rfl rfl, (by simp), (by simp), ?_, rfl⟩
                simp_all [vcheck]
            ·
              refine Sat.skip ?_
              refine bl_n ?_
              refine at_n ?_
              refine Sat.seq ?_
              refine Sat.seq ?_
              -- region 10
              refine Sat.region ?_
              refine Tr.move rfl rfl rfl ?_
              refine Tr.not rfl rfl rfl ?_
              refine Tr.nil ?_
              refine at_n ?_
              refine Sat.cond_t rfl rfl ?_
              refine Sat.seq ?_
              -- region 11
              refine Sat.region ?_
              refine Tr.assign rfl rfl rfl ?_
              refine Tr.nil ?_
              refine at_n ?_
              refine Sat.ret ?_
              refine at_r ?_
              refine en_r ?_
              refine ⟨_, [], res_tmp rfl rfl, (by simp), (by simp), ?_, rfl⟩
              simp_all [vcheck]
          ·
            -- region 8
            refine Sat.region ?_
            refine Tr.eqi rfl rfl rfl rfl rfl ?_
            refine Tr.assign rfl rfl rfl ?_
            refine Tr.nil ?_
            refine at_n ?_
            first
              | refine Sat.condP rfl (fun hc3 => ?_) (fun hc3 => ?_)
              | refine Sat.condNP rfl (fun hc3 => ?_) (fun hc3 => ?_)
              | refine Sat.cond rfl (fun hc3 => ?_) (fun hc3 => ?_)
            ·
              -- region 9
              refine Sat.region ?_
              refine Tr.fld rfl rfl rfl Try.underlying43 rfl Sz24 (by decide) _ rfl ?_
              refine Tr.load1 rfl rfl rfl Try.underlying24 rfl (by first | exact mem0 | exact mem1 | exact mem2 | exact mem3 | exact mem4 | exact mem5 | exact mem6 | exact mem7) (by first | exact Vote.get_fProof (by first | assumption | (simp [ha.l_fVoter, ha.l_fValue]; done)) | exact (by first | rfl | exact get_words (by first | omega | (simp [ha.l_fVoter, ha.l_fValue]; done) | (simp [ha.l_fVoter, ha.l_fValue]; omega)) | exact get_bytes (by first | omega | (simp [ha.l_fVoter, ha.l_fValue]; done) | (simp [ha.l_fVoter, ha.l_fValue]; omega)) | exact get_ints (by first | omega | (simp [ha.l_fVoter, ha.l_fValue]; done) | (simp [ha.l_fVoter, ha.l_fValue]; omega)))) ?_
              refine Tr.eqi rfl rfl rfl rfl rfl ?_
              refine Tr.assign rfl rfl rfl ?_
              refine Tr.nil ?_
              refine bl_n ?_
              refine at_n ?_
              refine Sat.seq ?_
              refine Sat.seq ?_
              -- region 10
              refine Sat.region ?_
              refine Tr.move rfl rfl rfl ?_
              refine Tr.not rfl rfl rfl ?_
              refine Tr.nil ?_
              refine at_n ?_
              first
                | refine Sat.condP rfl (fun hc4 => ?_) (fun hc4 => ?_)
                | refine Sat.condNP rfl (fun hc4 => ?_) (fun hc4 => ?_)
                | refine Sat.cond rfl (fun hc4 => ?_) (fun hc4 => ?_)
              ·
                refine Sat.seq ?_
                -- region 11
                refine Sat.region ?_
                refine Tr.assign rfl rfl rfl ?_
                refine Tr.nil ?_
                refine at_n ?_
                refine Sat.ret ?_
                refine at_r ?_
                refine en_r ?_
                refine ⟨_, [], res_tmp rfl rfl, (by simp), (by simp), ?_, rfl⟩
                simp_all [vcheck]
              ·
                refine Sat.skip ?_
                refine at_n ?_
                refine Sat.seq ?_
                -- region 12
                refine Sat.region ?_
                refine Tr.assign rfl rfl rfl ?_
                refine Tr.nil ?_
                refine at_n ?_
                refine Sat.ret ?_
                refine en_r ?_
                refine ⟨_, [], res_tmp rfl rfl, (by simp), (by simp), ?_, rfl⟩
                simp_all [vcheck]
            ·
              refine Sat.skip ?_
              refine bl_n ?_
              refine at_n ?_
              refine Sat.seq ?_
              refine Sat.seq ?_
              -- region 10
              refine Sat.region ?_
              refine Tr.move rfl rfl rfl ?_
              refine Tr.not rfl rfl rfl ?_
              refine Tr.nil ?_
              refine at_n ?_
              refine Sat.cond_t rfl rfl ?_
              refine Sat.seq ?_
              -- region 11
              refine Sat.region ?_
              refine Tr.assign rfl rfl rfl ?_
              refine Tr.nil ?_
              refine at_n ?_
              refine Sat.ret ?_
              refine at_r ?_
              refine en_r ?_
              refine ⟨_, [], res_tmp rfl rfl, (by simp), (by simp), ?_, rfl⟩
              simp_all [vcheck]

end Go.Proofs.Ytjeggfgbcafenaa
