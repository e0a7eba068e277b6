/- headwaterlaw20.VoteBack returns true at every input, and all that it reads reads behind the call as before. Conditions: none beyond the given statement's own. -/
import Derived.WalkKit
import Derived.Orders
import Derived.Deep.LoopGhost
import Derived.IntWalk
import Derived.Laws.StructEq
import Derived.Test.YtpacobmjjjillaaGreatRows
import Derived.KernelRfl
import Derived.ArgAppend
import Derived.Deep.AppendSrc
import Derived.Lib.Bytealg
import Derived.Lib.BytesEntry
import Derived.Laws.IdiomStrings
import Derived.Laws.Externs
import Derived.WideKeyArr2
import Derived.ProofKit
import Derived.OpenShut
import Derived.Deep.Slices
import Derived.Laws.Pointers
import Derived.Laws.Cover3
import Derived.LaidEqlPtr
import Derived.LoopN
import Derived.RangeFuncLeaves
import Derived.RangeFuncSeq
import Derived.OrdersIn
import Derived.Defers
import Derived.Laws.MathBits
import Derived.ChangeOld
import Derived.Below
import Derived.Test.YtpacobmjjjillaaGreatVBackC5
section
namespace Go.Proofs.YtpacobmjjjillaaGreat
open Go Hw
set_option linter.unusedVariables false
set_option linter.unusedSimpArgs false

open Ed

theorem vtxt_vsg (V : Vote) (K G H : List UInt8) : vtxt (vsg V K G) = vtxt (vsg V K H) := rfl
theorem vgood_eq {V : Vote} {K G : List UInt8} (hc : vcheck V = 0) (h : goodB K (vtxt (vsg V K V.fSig)) G = true) : vgood (vsg V K G) = 0 := by
  unfold vgood
  rw [vcheck_vsg, if_pos hc, if_pos]
  rw [vtxt_vsg V K G V.fSig]
  exact h
theorem vgood_self {V : Vote} (hc : vcheck V = 0) (s s1 : List UInt8) {s2 : List UInt8} (hs2 : sha512 (sgF s1 ++ (sgK s ++ vtxt (vsg V (sgK s) V.fSig))) = s2) : vgood (vsg V (sgK s) (sgF s1 ++ sgS s s1 s2)) = 0 :=
  vgood_eq hc (good_self s s1 (vtxt (vsg V (sgK s) V.fSig)) hs2)
theorem vgood_bad {V : Vote} (hc : ¬ vcheck V = 0) : vgood V = vcheck V := if_neg hc
theorem voteRd_vok' (xs : List UInt8) : (voteRd xs).1.ok := by
  rcases voteRd_two xs with h | h
  · exact (voteRd_only h).2.2
  · rw [h]; exact Vote.zero_ok
theorem voteBy_pos {V : Vote} (hV : V.ok) (hc : vcheck V = 0) : ∃ m, (voteBy V).length = m + 1 ∧ m ≤ 200 := by
  have h1 := voteT_length hV
  have h2 := voteN_le V
  refine ⟨(voteBy V).length - 1, ?_, ?_⟩ <;> rw [show voteBy V = voteT V ++ V.fSig from if_pos hc, List.length_append, hV.l_fSig] <;> omega
theorem seesP_take {w : World} {p : Option Addr} {l : List UInt8} {n : Nat} (h : SeesP w p (bytesV l)) : SeesP w p (bytesV (l.take n)) := fun j v hj => h j v (take_sees hj)

set_option maxRecDepth 100000 in
set_option maxHeartbeats 1000000 in
theorem law_voteback_long (V : Vote) (hV : V.ok) (seed : List UInt8) (h32 : seed.length = 32) (sb : Sl) (xs : List UInt8) (hn : 500 < sb.n) : Meets Tryz.prog 5 [agg V.cells, agg (bytesV seed), sb.v] [] (fun W => BytesAt W sb xs) (fun v out => v = .bool true ∧ out = []) := by
 intro W hW
 refine calls_of (hp0 := []) Tryz.func5 rfl 139 Tryz.ntmps5 rfl (HRep.nil _) ?_
 refine Sat.seq (Sat.region ?_)
 refine Tr.boxA rfl rfl ?_
 intro n3 hn3 hf3
 refine Tr.boxA rfl rfl ?_
 intro n4 hn4 hf4
 refine Tr.assign rfl rfl rfl ?_
 refine Tr.nil (at_n (Sat.seq (Sat.seq (Sat.region ?_))))
 refine Tr.callV rfl rfl rfl rfl Body10 (law20_lives) (fun _ _ => trivial) ?_
 refine Tr.not rfl rfl rfl ?_
 refine Tr.nil (at_n ?_)
 refine Sat.cond_f rfl (rfl) ?_
 refine Sat.skip (at_n (Sat.seq (Sat.seq (Sat.region ?_))))
 refine Tr.move rfl rfl rfl ?_
 refine Tr.lenSl rfl rfl rfl Tryz.underlying39 ?_
 refine Tr.gtr rfl rfl rfl rfl rfl ?_
 refine Tr.nil (at_n ?_)
 refine Sat.cond_t rfl (decide_eq_true oM) ?_
 refine Sat.seq (Sat.region ?_)
 refine Tr.assign rfl rfl rfl ?_
 refine Tr.nil (at_n (Sat.ret (at_r (en_r ?_))))
 refine ⟨_, [], res_tmp rfl rfl, sP, sP, ?_, rfl⟩
 rfl

set_option maxRecDepth 100000 in
set_option maxHeartbeats 8000000 in
theorem law_voteback (V : Vote) (hV : V.ok) (seed : List UInt8) (h32 : seed.length = 32) (sb : Sl) (xs : List UInt8) (hn : sb.n ≤ 500) (hbl : xs.length = sb.n) : Meets Tryz.prog 5 [agg V.cells, agg (bytesV seed), sb.v] [] (fun W => BytesAt W sb xs) (fun v out => v = .bool true ∧ out = []) := by
 intro W hW
 obtain ⟨s, hs⟩ : ∃ s, Hid (sha512 seed = s) := ⟨_, ⟨rfl⟩⟩
 obtain ⟨s1, hs1⟩ : ∃ s1, Hid (sha512 (s.drop 32 ++ vtxt (vsg V (sgK s) V.fSig)) = s1) := ⟨_, ⟨rfl⟩⟩
 obtain ⟨s2, hs2⟩ : ∃ s2, Hid (sha512 (sgF s1 ++ (sgK s ++ vtxt (vsg V (sgK s) V.fSig))) = s2) := ⟨_, ⟨rfl⟩⟩
 have lK := sgK_length s
 have lG : (sgF s1 ++ sgS s s1 s2).length = 64 := by rw [List.length_append, sgF_length, sgS_length]
 have rK := r6_Key seed h32 s hs
 have cSg := fun hc => vote_sign seed h32 V hV s s1 s2 hs hs1 hs2 hc
 have hgs := fun hc => vgood_self (V := V) hc s s1 hs2.out
 have hVS : (vsg V (sgK s) (sgF s1 ++ sgS s s1 s2)).ok := vsg_ok hV lK lG
 have cGd := vote_good _ hVS
 clear hs hs1 hs2
 have cR := fun a c hp => vote_read a sb.n c xs hbl hp oM
 have hW1 := voteRd_vok' xs
 have hr := fun h => voteRd_only (xs := xs) h
 obtain ⟨⟨W1, e1⟩, hre⟩ : ∃ r, voteRd xs = r := ⟨_, rfl⟩
 rw [hre] at cR hW1 hr
 simp only at cR hW1 hr
 obtain ⟨VS, hVSe⟩ : ∃ X, vsg V (sgK s) (sgF s1 ++ sgS s s1 s2) = X := ⟨_, rfl⟩
 rw [hVSe] at cSg hgs hVS cGd
 have hVS2 : VS = { V with fVoter := sgK s, fSig := VS.fSig } := by rw [← hVSe]; rfl
 clear hVSe
 revert lK rK hVS2
 generalize sgK s = K
 intro lK rK hVS2
 have lV := hVS.l_fSig
 refine calls_of (hp0 := []) Tryz.func5 rfl 139 Tryz.ntmps5 rfl (HRep.nil _) ?_
 refine Sat.seq (Sat.region ?_)
 refine Tr.boxA rfl rfl ?_
 intro n3 hn3 hf3
 refine Tr.boxA rfl rfl ?_
 intro n4 hn4 hf4
 refine Tr.assign rfl rfl rfl ?_
 refine Tr.nil (at_n (Sat.seq (Sat.seq (Sat.region ?_))))
 refine Tr.callV rfl rfl rfl rfl Body10 (law20_lives) (fun _ _ => trivial) ?_
 refine Tr.not rfl rfl rfl ?_
 refine Tr.nil (at_n ?_)
 refine Sat.cond_f rfl (rfl) ?_
 refine Sat.skip (at_n (Sat.seq (Sat.seq (Sat.region ?_))))
 refine Tr.move rfl rfl rfl ?_
 refine Tr.lenSl rfl rfl rfl Tryz.underlying39 ?_
 refine Tr.gtr rfl rfl rfl rfl (decide_eq_false oM) ?_
 refine Tr.nil (at_n ?_)
 refine Sat.cond_f rfl rfl ?_
 refine Sat.skip (at_n (Sat.seq (Sat.region ?_)))
 refine Tr.move rfl rfl rfl ?_
 refine Tr.call4 rfl rfl rfl rfl rfl Body24 (kit_own sb xs oM) (fun w h => bytes_ext h rfl hW) ?_
 rintro v26 out26 ⟨q26, c26, rfl, hc26, rfl⟩
 refine Tr.callV rfl rfl rfl rfl Body23 (cR (some ⟨q26, 0, none⟩) c26 (fun e => by cases e)) (fun w h => SeesP.of (sees_own h (by exact mem0))) ?_
 refine Tr.move rfl rfl rfl ?_
 refine Tr.extract rfl rfl rfl rfl ?_
 refine Tr.extract rfl rfl rfl rfl ?_
 refine Tr.alloc (cs := Vote.zero.cells) rfl Vote.zr rfl ?_
 intro n7 hn7 hf7
 refine Tr.storeAll rfl rfl rfl rfl (Vote.isCell (by assumption)) Sz29 (Vote.length (by assumption)) (by exact mem0) (Vote.length (by exact Vote.zero_ok)) (by exact upd0) ?_
 refine Tr.assign rfl rfl rfl ?_
 refine Tr.nil (at_n ?_)
 refine Sat.join (ι := Unit) (fun _u => ⟨[(3, ptr n3 0), (4, ptr n4 0), (7, ptr n7 0)], [⟨n7, W1.cells, 29, 132⟩, ⟨n4, bytesV seed, 23, (bytesV seed).length⟩, ⟨n3, V.cells, 29, V.cells.length⟩]⟩) (fun _u => True) ?_ ?_
 ·
  refine Sat.seq (Sat.region ?_)
  refine Tr.move rfl rfl rfl ?_
  refine Tr.eqi rfl rfl rfl rfl rfl ?_
  refine Tr.nil (at_n ?_)
  refine Sat.condP rfl (fun hc2 => ?_) (fun hc2 => ?_)
  ·
   refine Sat.seq (Sat.region ?_)
   refine Tr.loadAll rfl rfl rfl Tryz.underlying29 rfl Sz29 (by exact mem0) (Vote.length (by assumption)) ?_
   refine Tr.call4 rfl rfl rfl rfl rfl Body17 (vote_bytes W1 hW1) (fun _ _ => trivial) ?_
   rintro v34 out34 ⟨s34, rfl, hac34⟩
   refine Tr.move rfl rfl rfl ?_
   refine Tr.extract rfl rfl rfl rfl ?_
   refine Tr.extract rfl rfl rfl rfl ?_
   refine Tr.assign rfl rfl rfl ?_
   refine Tr.assign rfl rfl rfl ?_
   refine Tr.nil (at_n (Sat.seq (Sat.region ?_)))
   refine Tr.move rfl rfl rfl ?_
   refine Tr.nei rfl rfl rfl rfl (show (!decide _) = false from congrArg not (decide_eq_true ((hr hc2).1))) ?_
   refine Tr.move rfl rfl rfl ?_
   refine Tr.move rfl rfl rfl ?_
   refine Tr.toStr rfl rfl rfl Tryz.underlying39 Tryz.underlying5 Tryz.underlying9 (fun w h => hac34.see (Lies.of h (by repeat (exact in_here)))) (by rw [hac34.num]) ?_
   refine Tr.move rfl rfl rfl ?_
   refine Tr.toStr rfl rfl rfl Tryz.underlying39 Tryz.underlying5 Tryz.underlying9 (fun w h => seesP_ext h rfl hW.see) hW.len ?_
   refine Tr.neq_str rfl rfl rfl rfl (show (!decide _) = false from congrArg not (decide_eq_true ((hr hc2).2.1))) ?_
   refine Tr.pick rfl rfl rfl rfl rfl rfl ?_
   refine Tr.nil (at_n ?_)
   refine Sat.cond_f rfl rfl ?_
   refine Sat.skip (at_n ?_)
   exact ⟨(), trivial, weak_perm (wk1 rfl (wk1 rfl (wk1 rfl wk0))) (pm_cons (by repeat (first | exact rem_here | apply rem_seg)) (pm_cons rM (pm_cons rM pm_nil)))⟩
  ·
   refine Sat.skip (at_n ?_)
   exact ⟨(), trivial, weak_perm (wk1 rfl (wk1 rfl (wk1 rfl wk0))) (pm_cons (by repeat (exact rem_here)) (pm_cons (by repeat (first | exact rem_here | apply rem_there)) (pm_cons (by repeat (first | exact rem_here | apply rem_there)) pm_nil)))⟩
 ·
  intro _u hj
  skip
  refine Sat.seq (Sat.region ?_)
  refine Tr.loadAll rfl rfl rfl Tryz.underlying29 rfl Sz29 (by exact mem2) (Vote.length (by assumption)) ?_
  refine Tr.call4 rfl rfl rfl rfl rfl Body17 (vote_bytes V hV) (fun _ _ => trivial) ?_
  rintro v48 out48 ⟨s48, rfl, hac48⟩
  refine Tr.move rfl rfl rfl ?_
  refine Tr.extract rfl rfl rfl rfl ?_
  refine Tr.extract rfl rfl rfl rfl ?_
  refine Tr.assign rfl rfl rfl ?_
  refine Tr.assign rfl rfl rfl ?_
  refine Tr.nil (at_n (Sat.seq (Sat.seq (Sat.region ?_))))
  refine Tr.move rfl rfl rfl ?_
  refine Tr.nei rfl rfl rfl rfl rfl ?_
  refine Tr.nil (at_n ?_)
  refine Sat.condNP rfl (fun hc4 => ?_) (fun hc4 => ?_)
  ·
   have cGb := vote_good V hV
   rw [vgood_bad hc4] at cGb
   refine Sat.seq (Sat.region ?_)
   refine Tr.loadAll rfl rfl rfl Tryz.underlying23 rfl Sz23 (by (repeat (first | exact List.mem_cons_self | refine List.mem_cons_of_mem _ ?_ | refine mem_seg ?_))) (by (simp [h32]; done)) ?_
   refine Tr.loadAll rfl rfl rfl Tryz.underlying29 rfl Sz29 (by (repeat (first | exact List.mem_cons_self | refine List.mem_cons_of_mem _ ?_ | refine mem_seg ?_))) (Vote.length (by assumption)) ?_
   refine Tr.callV rfl rfl rfl rfl Body11 (vote_sign_bad seed h32 V hV hc4) (fun _ _ => trivial) ?_
   refine Tr.move rfl rfl rfl ?_
   refine Tr.extract rfl rfl rfl rfl ?_
   refine Tr.extract rfl rfl rfl rfl ?_
   refine Tr.alloc (cs := Vote.zero.cells) rfl Vote.zr rfl ?_
   intro n12 hn12 hf12
   refine Tr.storeAll rfl rfl rfl rfl (Vote.isCell (by exact Vote.zero_ok)) Sz29 (Vote.length (by exact Vote.zero_ok)) (by exact mem0) (Vote.length (by exact Vote.zero_ok)) (by exact upd0) ?_
   refine Tr.assign rfl rfl rfl ?_
   refine Tr.nil (at_n (Sat.seq (Sat.region ?_)))
   refine Tr.move rfl rfl rfl ?_
   refine Tr.loadAll rfl rfl rfl Tryz.underlying29 rfl Sz29 (by (repeat (first | exact List.mem_cons_self | refine List.mem_cons_of_mem _ ?_ | refine mem_seg ?_))) (Vote.length (by assumption)) ?_
   refine Tr.callV rfl rfl rfl rfl Body13 (vote_check V hV) (fun _ _ => trivial) ?_
   refine Tr.eqi rfl rfl rfl rfl (decide_eq_true (rfl)) ?_
   refine Tr.move rfl rfl rfl ?_
   refine Tr.move rfl rfl rfl ?_
   refine Tr.move rfl rfl rfl ?_
   refine Tr.eqi rfl rfl rfl rfl (decide_eq_true (rfl)) ?_
   refine Tr.pick rfl rfl rfl rfl rfl rfl ?_
   refine Tr.move rfl rfl rfl ?_
   refine Tr.loadAll rfl rfl rfl Tryz.underlying29 rfl Sz29 (by (repeat (first | exact List.mem_cons_self | refine List.mem_cons_of_mem _ ?_ | refine mem_seg ?_))) (Vote.length (by assumption)) ?_
   refine Tr.callV rfl rfl rfl rfl Body14 (cGb) (fun _ _ => trivial) ?_
   refine Tr.move rfl rfl rfl ?_
   refine Tr.eqi rfl rfl rfl rfl (decide_eq_true (rfl)) ?_
   refine Tr.pick rfl rfl rfl rfl rfl rfl ?_
   refine Tr.assign rfl rfl rfl ?_
   refine Tr.nil (at_n (Sat.ret (at_r (en_r ?_))))
   refine ⟨_, [], res_tmp rfl rfl, sP, sP, ?_, rfl⟩
   rfl
  ·
   have hc : vcheck V = 0 := by omega
   obtain ⟨m, hm, hm2⟩ := voteBy_pos hV hc
   rw [hm] at hac48
   obtain ⟨q48, c48, rfl, hc48, rfl⟩ := acc_pos hac48 oM
   simp only [Sl.v]
   have cR0 := fun a c hp => vote_read a (m + 1) c (voteBy V) hm hp oM
   rw [voteRd_bytes hV hc] at cR0
   have cR1 := fun a c hp => vote_read a (m + 1 + 1) c (voteBy V ++ [0]) (by rw [List.length_append, hm]; rfl) hp oM
   rw [voteRd_more hV hc 0] at cR1
   have cR2 := fun a c hp => vote_read a m c ((voteBy V).take m) (by rw [List.length_take, hm]; omega) hp oM
   have hls := voteRd_less hV hc
   rw [hm, Nat.add_sub_cancel] at hls
   rw [hls] at cR2
   refine Sat.skip (at_n (Sat.seq (Sat.seq (Sat.region ?_))))
   refine Tr.move rfl rfl rfl ?_
   refine Tr.lenSl rfl rfl rfl Tryz.underlying39 ?_
   refine Tr.eqi rfl rfl rfl rfl rfl ?_
   refine Tr.nil (at_n ?_)
   refine Sat.cond_f rfl (decide_eq_false (by show ¬ ((m + 1 : Nat) : Int) = 0; omega)) ?_
   refine Sat.skip (at_n (Sat.seq (Sat.region ?_)))
   refine Tr.move rfl rfl rfl ?_
   refine Tr.call4 rfl rfl rfl rfl rfl Body24 (kit_own ⟨some ⟨q48, 0, none⟩, m + 1, c48⟩ (voteBy V) (by show m + 1 ≤ _; omega)) (fun w h => own_bytes (SeesP.of (sees_own h (by exact mem0))) hm hc48 (by unfold maxLen; omega)) ?_
   rintro v79 out79 ⟨q79, c79, rfl, hc79, rfl⟩
   dsimp only at hc79 ⊢
   refine Tr.callV rfl rfl rfl rfl Body23 (cR0 (some ⟨q79, 0, none⟩) c79 (fun e => by cases e)) (fun w h => SeesP.of (sees_own h (by exact mem0))) ?_
   refine Tr.move rfl rfl rfl ?_
   refine Tr.extract rfl rfl rfl rfl ?_
   refine Tr.extract rfl rfl rfl rfl ?_
   refine Tr.storeAll rfl rfl rfl rfl (Vote.isCell (by assumption)) Sz29 (Vote.length (by assumption)) (by exact mem2) (Vote.length (by assumption)) (by exact upd2) ?_
   refine Tr.assign rfl rfl rfl ?_
   refine Tr.nil (at_n (Sat.seq (Sat.region ?_)))
   refine Tr.move rfl rfl rfl ?_
   refine Tr.call4 rfl rfl rfl rfl rfl Body24 (kit_own ⟨some ⟨q48, 0, none⟩, m + 1, c48⟩ (voteBy V) (by show m + 1 ≤ _; omega)) (fun w h => own_bytes (SeesP.of (sees_own h (by exact mem1))) hm hc48 (by unfold maxLen; omega)) ?_
   rintro v85 out85 ⟨q85, c85, rfl, hc85, rfl⟩
   dsimp only at hc85 ⊢
   refine Tr.mkRow (z := u8 0) [u8 (0)] (bytesV [0]) rfl rfl rfl Tryz.underlying39 Sz5 Zr5 rfl rfl (by intro v hv; rw [List.mem_singleton.1 hv]; rfl) dE rfl ?_
   intro q86
   refine Tr.appendSl (z := u8 0) (by' := 1) (bytesV [0]) rfl rfl rfl rfl rfl Tryz.underlying39 Tryz.underlying39 Sz5 Zr5 (by unfold By; kernel_rfl) rfl (fun w h => SeesP.of (sees_own h (by exact mem0))) (fun e => by cases e) (bytesV_cell _) (by repeat (first | exact rem_here | apply rem_there)) rfl (by rw [bytesV, List.length_map, hm, Nat.mul_one]) oM oM oM (by rfl) ?_
   intro q87 c87 hq87
   refine Tr.callV rfl rfl rfl rfl Body23 (cR1 (some ⟨q87, 0, none⟩) c87 (fun e => by cases e)) (fun w h => by rw [bytesV_app]; exact SeesP.of (sees_own h (by exact mem0))) ?_
   refine Tr.move rfl rfl rfl ?_
   refine Tr.extract rfl rfl rfl rfl ?_
   refine Tr.extract rfl rfl rfl rfl ?_
   refine Tr.alloc (cs := Vote.zero.cells) rfl Vote.zr rfl ?_
   intro n14 hn14 hf14
   refine Tr.storeAll rfl rfl rfl rfl (Vote.isCell (by exact Vote.zero_ok)) Sz29 (Vote.length (by exact Vote.zero_ok)) (by exact mem0) (Vote.length (by exact Vote.zero_ok)) (by exact upd0) ?_
   refine Tr.assign rfl rfl rfl ?_
   refine Tr.nil (at_n (Sat.seq (Sat.region ?_)))
   refine Tr.move rfl rfl rfl ?_
   refine Tr.move rfl rfl rfl ?_
   refine Tr.lenSl rfl rfl rfl Tryz.underlying39 ?_
   refine Tr.sub_i64 rfl rfl rfl rfl oM ?_
   refine Tr.sliceHi m rfl rfl rfl rfl oM oM Tryz.underlying39 Sz5 ?_
   refine Tr.callV rfl rfl rfl rfl Body23 (cR2 (some ⟨q48, 0, none⟩) c48 (fun e => by cases e)) (fun w h => seesP_take (SeesP.of (sees_own h (by exact mem4)))) ?_
   refine Tr.move rfl rfl rfl ?_
   refine Tr.extract rfl rfl rfl rfl ?_
   refine Tr.extract rfl rfl rfl rfl ?_
   refine Tr.alloc (cs := Vote.zero.cells) rfl Vote.zr rfl ?_
   intro n16 hn16 hf16
   refine Tr.storeAll rfl rfl rfl rfl (Vote.isCell (by exact Vote.zero_ok)) Sz29 (Vote.length (by exact Vote.zero_ok)) (by exact mem0) (Vote.length (by exact Vote.zero_ok)) (by exact upd0) ?_
   refine Tr.assign rfl rfl rfl ?_
   refine Tr.nil (at_n (Sat.seq (Sat.seq (Sat.region ?_))))
   refine Tr.move rfl rfl rfl ?_
   refine Tr.nei rfl rfl rfl rfl (show (!decide _) = false from congrArg not (decide_eq_true (rfl))) ?_
   refine Tr.move rfl rfl rfl ?_
   refine Tr.loadAll rfl rfl rfl Tryz.underlying29 rfl Sz29 (by exact mem6) (Vote.length (by assumption)) ?_
   refine Tr.loadAll rfl rfl rfl Tryz.underlying29 rfl Sz29 (by (repeat (first | exact List.mem_cons_self | refine List.mem_cons_of_mem _ ?_))) (Vote.length (by assumption)) ?_
   refine Tr.neq_rec rfl rfl rfl rfl Vote.eg (fun w => Vote.eq_runC hV hV w) (show (!@decide (V = V) (Classical.propDecidable _)) = false from by simp) ?_
   refine Tr.pick rfl rfl rfl rfl rfl rfl ?_
   refine Tr.move rfl rfl rfl ?_
   refine Tr.move rfl rfl rfl ?_
   refine Tr.nei rfl rfl rfl rfl (show (!decide _) = false from congrArg not (decide_eq_true (rfl))) ?_
   refine Tr.pick rfl rfl rfl rfl rfl rfl ?_
   refine Tr.move rfl rfl rfl ?_
   refine Tr.move rfl rfl rfl ?_
   refine Tr.nei rfl rfl rfl rfl (show (!decide _) = false from congrArg not (decide_eq_true (rfl))) ?_
   refine Tr.pick rfl rfl rfl rfl rfl rfl ?_
   refine Tr.nil (at_n ?_)
   refine Sat.cond_f rfl rfl ?_
   refine Sat.skip (at_n ?_)
   refine Sat.join (ι := Nat) (fun n18 => ⟨[(3, ptr n3 0), (4, ptr n4 0), (8, i64 0), (18, ptr n18 0)], [⟨n18, VS.cells, 29, 132⟩, ⟨n4, bytesV seed, 23, (bytesV seed).length⟩, ⟨n3, V.cells, 29, V.cells.length⟩]⟩) (fun n18 => True) ?_ ?_
   ·
    refine Sat.region ?_
    refine Tr.loadAll rfl rfl rfl Tryz.underlying23 rfl Sz23 (by exact mem7) (by (simp [h32]; done)) ?_
    refine Tr.loadAll rfl rfl rfl Tryz.underlying29 rfl Sz29 (by (repeat (first | exact List.mem_cons_self | refine List.mem_cons_of_mem _ ?_))) (Vote.length (by assumption)) ?_
    refine Tr.callV rfl rfl rfl rfl Body11 (cSg hc) (fun _ _ => trivial) ?_
    refine Tr.move rfl rfl rfl ?_
    refine Tr.extract rfl rfl rfl rfl ?_
    refine Tr.extract rfl rfl rfl rfl ?_
    refine Tr.alloc (cs := Vote.zero.cells) rfl Vote.zr rfl ?_
    intro n18 hn18 hf18
    refine Tr.storeAll rfl rfl rfl rfl (Vote.isCell (by assumption)) Sz29 (Vote.length (by assumption)) (by exact mem0) (Vote.length (by exact Vote.zero_ok)) (by exact upd0) ?_
    refine Tr.assign rfl rfl rfl ?_
    refine Tr.nil (at_n ?_)
    exact ⟨n18, trivial, weak_perm (wk1 rfl (wk1 rfl (wk1 rfl (wk1 rfl wk0)))) (pm_cons (by repeat (exact rem_here)) (pm_cons (by repeat (first | exact rem_here | apply rem_there)) (pm_cons (by repeat (first | exact rem_here | apply rem_there)) pm_nil)))⟩
   ·
    intro n18 hj
    skip
    refine Sat.seq ?_
    refine Sat.withK (sp_k (sp_k (sp_v sp_n))) rfl ?_
    refine Sat.draw [(0, 0), (0, 2), (0, 3), (3, 1), (0, 4), (4, 5), (0, 6), (4, 7)] Mixed (by kernel_rfl) ?_
    refine Tr.kloadAll rfl rfl rfl Tryz.underlying23 rfl Sz23 (by exact mem1) (by (simp [h32]; done)) ?_
    refine Tr.fld rfl rfl rfl Tryz.underlying29 rfl Sz27 dE _ rfl ?_
    refine Tr.kloadN (bytesV _) rfl rfl rfl Tryz.underlying27 rfl Sz27 (by exact mem0) (Vote.row_fSig (by assumption)) (Vote.rl_fSig (by assumption)) ?_
    refine Tr.callV rfl rfl rfl rfl Body18 (rK) (fun _ _ => trivial) ?_
    refine Tr.fld rfl rfl rfl Tryz.underlying29 rfl Sz25 dE _ rfl ?_
    refine Tr.storeN (bytesV _) rfl rfl rfl rfl rfl (by exact bytesV_cell _) Sz25 (by simp [lK]) (by exact mem0) (by rw [Vote.length (by assumption)]; simp [lK]) (Vote.upd_fVoter (by assumption) _ (by simp [lK])) (by exact upd0) ?_
    refine Tr.fld rfl rfl rfl Tryz.underlying29 rfl Sz27 dE _ rfl ?_
    refine Tr.storeN (bytesV _) rfl rfl rfl rfl rfl (by exact bytesV_cell _) Sz27 (by simp [lV]) (by exact mem0) (by rw [Vote.length (by exact ⟨hV.l_fValue, lK, hV.l_fSig⟩)]; simp [lV]) (Vote.upd_fSig (by exact ⟨hV.l_fValue, lK, hV.l_fSig⟩) _ (by simp [lV])) (by exact upd0) ?_
    refine Tr.nil (at_n (Sat.seq (Sat.region ?_)))
    simp only [List.cons_append, List.nil_append, List.append_nil]
    refine Tr.move rfl rfl rfl ?_
    refine Tr.eqi rfl rfl rfl rfl (decide_eq_true (rfl)) ?_
    refine Tr.move rfl rfl rfl ?_
    refine Tr.loadAll rfl rfl rfl Tryz.underlying29 rfl Sz29 (by exact mem1) (Vote.length (by assumption)) ?_
    refine Tr.loadAll rfl rfl rfl Tryz.underlying29 rfl Sz29 (by exact mem0) (Vote.length (by exact ⟨hV.l_fValue, lK, hVS.l_fSig⟩)) ?_
    refine Tr.eql_rec rfl rfl rfl rfl Vote.eg (fun w => Vote.eq_runC (x := VS) (y := { V with fVoter := K, fSig := VS.fSig }) hVS ⟨hV.l_fValue, lK, hVS.l_fSig⟩ w) (@decide_eq_true _ (Classical.propDecidable _) hVS2) ?_
    refine Tr.pick rfl rfl rfl rfl rfl rfl ?_
    refine Tr.move rfl rfl rfl ?_
    refine Tr.loadAll rfl rfl rfl Tryz.underlying29 rfl Sz29 (by exact mem1) (Vote.length (by assumption)) ?_
    refine Tr.callV rfl rfl rfl rfl Body14 (cGd) (fun _ _ => trivial) ?_
    refine Tr.eqi rfl rfl rfl rfl (decide_eq_true (hgs hc)) ?_
    refine Tr.pick rfl rfl rfl rfl rfl rfl ?_
    refine Tr.assign rfl rfl rfl ?_
    refine Tr.nil (at_n (Sat.ret (en_r ?_)))
    refine ⟨_, [], res_tmp rfl rfl, sP, sP, ?_, rfl⟩
    rfl

theorem law_voteback_all (V : Vote) (hV : V.ok) (seed : List UInt8) (h32 : seed.length = 32) (sb : Sl) (xs : List UInt8) : Meets Tryz.prog 5 [agg V.cells, agg (bytesV seed), sb.v] [] (fun W => BytesAt W sb xs) (fun v out => v = .bool true ∧ out = []) := by
  intro W hW
  rcases Nat.lt_or_ge 500 sb.n with h | h
  · exact law_voteback_long V hV seed h32 sb xs h W hW
  · exact law_voteback V hV seed h32 sb xs h hW.len W hW

end Go.Proofs.YtpacobmjjjillaaGreat
end

section
namespace Go.Proofs.YtpacobmjjjillaaGreat
open Go Go.ChangeShapes Go.WideShapes Go.ChangeAt Go.RowKit
set_option linter.unusedVariables false

theorem ownVBack : ownKnob Tryz.prog.godebug = none := by kernel_rfl
theorem laidOutVBack : laidOutB Tryz.prog = true := by kernel_rfl

theorem openSlVBack {H : Type} {enc : TypeId × Value → H} {P : Program} {W : World} {base : Nat} {sp : Nat → Bool} {held : Bool} {k e : TypeId} (hu : P.underlying k = some (.slice e)) (he : P.underlying e = some (.int .u8)) (hc : P.cellsOf e = 1) {r : Reach} {b0 : Nat} {v : Value} {d : DataW H} {ps : List MemPlace}
    (hval : Value.okWide P W r b0 k v) (hd : DataW.Trod enc P W base sp held k v d ps) : ∃ s l, v = Hw.Sl.v s ∧ Hw.BytesAt W s l := by
  simp only [Value.okWide, hu, Cell.okWide] at hval
  obtain ⟨a1, len, cap, rfl⟩ : ∃ a1 len cap, v = .slice a1 len cap := by
    unfold Cell.ok at hval
    rw [hu] at hval
    split at hval <;> first | exact hval.elim | exact ⟨_, _, _, rfl⟩ | simp_all
  obtain ⟨fuel, hf⟩ := hd
  obtain ⟨s, l, h1, h2⟩ := Hw.open_bytesS hu he hc hf
  refine ⟨s, l, ?_, h2⟩
  simp [Value.cells] at h1
  exact h1

theorem walkVBack (w : World) (x0 : Vote) (ok0 : x0.ok) (l1 : List UInt8) (hl1 : l1.length = 32) (s2 : Hw.Sl) (l2 : List UInt8) (hs2 : Hw.BytesAt w s2 l2) : Calls Tryz.prog 5 #[Hw.agg x0.cells, Hw.agg (Hw.bytesV l1), Hw.Sl.v s2] w fun e w' => e = .returned (.bool true) ∧ Below w.heap.size w w' :=
  by
  have fin : ∀ {us : Array Value}, Calls Tryz.prog 5 us w (fun e W' => ∃ v out, e = .returned v ∧ (v = .bool true ∧ out = []) ∧ Hw.Ret [] out w W') → Calls Tryz.prog 5 us w (fun e w' => e = .returned (.bool true) ∧ Below w.heap.size w w') :=
    fun h => h.mono fun e w' ⟨v, out, he, ⟨hv, ho⟩, hr⟩ => ⟨by rw [he, hv], Hw.Keeps.below hr.keeps⟩
  exact fin (law_voteback_all x0 ok0 l1 hl1 s2 l2 w hs2)

set_option maxRecDepth 100000 in
theorem liftedVBack (os : Os) (started : os.Started) (H : Type) (enc : TypeId × Value → H) :
    ReturnsInHanded {} Tryz.checked os 5 .any (Rows.voteBackSpec.pre6 enc Tryz.prog Tryz.f5 Rows.voteBackRow.domain false) (Rows.voteBackSpec.post enc Tryz.prog Tryz.f5 false true false false) := by
  refine returnsInHanded_of_change (C := Tryz.checked) ownVBack started (by kernel_rfl) Tryz.func5
    (ChangeSpec.witness6 (enc := enc) (C := Tryz.checked) false ⟨#[], #[.agg (#[.int .u64 0, .int .u64 0, .int .i64 0] ++ Array.replicate 32 (.int .u8 0) ++ #[.int .u64 0] ++ Array.replicate 96 (.int .u8 0)), .agg (Array.replicate 32 (.int .u8 0)), .slice none 0 0], []⟩ 8 (by kernel_rfl) (by kernel_rfl) (by kernel_rfl) (by kernel_rfl)) ?_
  intro W base args ds gs before hval0 hW hcnd _
  have hval : ∀ (j : Nat) t v, Tryz.f5.params[j]? = some t → args[j]? = some v → Value.okWide Tryz.prog W .any base t v := hval0
  have hW' := hW
  obtain ⟨p, q, hA0, hV, rfl, hfz, hnd⟩ := hW
  have hA : DataW.TrodAll enc Tryz.prog W 0 (fun _ => true) true Tryz.f5.params.toList args.toList ds p := hA0
  rw [Tryz.params5] at hA hval
  obtain ⟨v0, vs0, d0, ds0, p0, q0, hargs, rfl, rfl, h0, r0⟩ := trodAll_cons hA
  obtain ⟨v1, vs1, d1, ds1, p1, q1, rfl, rfl, rfl, h1, r1⟩ := trodAll_cons r0
  obtain ⟨v2, vs2, d2, ds2, p2, q2, rfl, rfl, rfl, h2, r2⟩ := trodAll_cons r1
  obtain ⟨rfl, rfl, rfl⟩ := trodAll_nil r2
  obtain rfl : args = #[v0, v1, v2] := by cases args; simp_all
  obtain ⟨rfl, rfl⟩ := trodVars_none hV
  have k0 := h0
  have lt0 : ∀ x ∈ p0, x.block < W.heap.size := by obtain ⟨m, hm⟩ := k0; exact DataW.trod_lt m _ _ _ hm
  have k1 := h1
  have lt1 : ∀ x ∈ p1, x.block < W.heap.size := by obtain ⟨m, hm⟩ := k1; exact DataW.trod_lt m _ _ _ hm
  have k2 := h2
  have lt2 : ∀ x ∈ p2, x.block < W.heap.size := by obtain ⟨m, hm⟩ := k2; exact DataW.trod_lt m _ _ _ hm
  obtain ⟨x0, ok0, rfl, xx0⟩ := Vote.openV (hval 0 29 v0 rfl rfl) h0
  obtain ⟨l1, rfl, hl1⟩ := Hw.open_bytes Tryz.underlying23 Tryz.underlying5 (by kernel_rfl) (by kernel_rfl) (hval 1 23 v1 rfl rfl) h1
  obtain ⟨s2, l2, rfl, hs2⟩ := openSlVBack Tryz.underlying39 Tryz.underlying5 (by kernel_rfl) (hval 2 39 v2 rfl rfl) h2
  clear hA0 hval0
  refine (walkVBack W x0 ok0 l1 hl1 s2 l2 hs2).mono fun e W' ⟨he, bel⟩ => ?_
  subst he
  exact ⟨_, rfl, _, _, _, [], _, [], hW', trodAll_mk1 (shut_bool Tryz.underlying4 _), (trodAll_cons_mk (Below.trod laidOutVBack (by kernel_rfl) (of_decide_eq_true (by kernel_rfl)) k0 bel lt0) (trodAll_cons_mk (Below.trod laidOutVBack (by kernel_rfl) (of_decide_eq_true (by kernel_rfl)) k1 bel lt1) (trodAll_cons_mk (Below.trod laidOutVBack (by kernel_rfl) (of_decide_eq_true (by kernel_rfl)) k2 bel lt2) trodAll_mk0))), rfl, bel.frame _, fun h => by cases h⟩

theorem voteBack_holds : Rows.VoteBackSaid :=
  OpenClaim.holds_of_wide 5 Tryz.f5 rfl rfl rfl rfl rfl rfl rfl ⟨rfl, rfl, rfl, rfl, rfl⟩ rfl rfl rfl rfl rfl (by kernel_rfl) Tryz.func5 (by kernel_rfl)
    (of_decide_eq_true (by kernel_rfl)) (by unfold Func.isWrapper; first | (rw [if_pos (by decide +kernel)]; kernel_rfl) | (rw [if_neg (by decide +kernel)]; exact ⟨rfl, rfl⟩))
    (fun os started H enc _ => liftedVBack os started H enc)

end Go.Proofs.YtpacobmjjjillaaGreat
end
