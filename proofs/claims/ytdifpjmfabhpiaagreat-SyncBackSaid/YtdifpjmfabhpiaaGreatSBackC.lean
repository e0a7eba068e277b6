/- headwaterlaw25.SyncBack returns true at every input, and all that it reads reads behind the call as before. Conditions: none beyond the given statement's own. -/
import Derived.WalkKit
import Derived.Orders
import Derived.Deep.LoopGhost
import Derived.IntWalk
import Derived.Laws.StructEq
import Derived.ArgAppend
import Derived.Deep.AppendSrc
import Derived.Lib.Bytealg
import Derived.Lib.BytesEntry
import Derived.Laws.IdiomStrings
import Derived.WideKeyArr2
import Derived.ProofKit
import Derived.OpenShut
import Derived.Deep.Slices
import Derived.Laws.Pointers
import Derived.Laws.Cover3
import Derived.LaidEqlPtr
import Derived.LoopN
import Derived.RangeFuncLeaves
import Derived.RangeFuncSeq
import Derived.OrdersIn
import Derived.Test.YtdifpjmfabhpiaaGreatRows
import Derived.KernelRfl
import Derived.Laws.Externs
import Derived.Defers
import Derived.ChangeOld
import Derived.Below
import Derived.Test.YtdifpjmfabhpiaaGreatSBackC5
set_option maxRecDepth 100000
set_option maxHeartbeats 8000000
set_option linter.unusedVariables false
set_option linter.unusedSimpArgs false
section
namespace Go.Proofs.YtdifpjmfabhpiaaGreat
open Go Hw

def sameC (a b : DCut) : Bool := decide ((a.dHeight.toNat : Int) = (b.dHeight.toNat : Int)) && (decide (a.dPrev = b.dPrev) && decide (a.dHeads = b.dHeads))

theorem kit_cut (A B : Cut) (a b : DCut) (hn : A.fHeads.n ≤ 1000000) : Meets Tryz.prog 90 [agg A.cells, agg B.cells] [] (fun W => CutIs W A a ∧ CutIs W B b) (fun v out => v = .bool (sameC a b) ∧ out = []) := by
 intro W hW
 have hA := hW.1.ok
 have hB := hW.2.ok
 have e1 := hW.1.fHeight
 have e2 := hW.2.fHeight
 have e3 := hW.1.fPrev
 have e4 := hW.2.fPrev
 refine An Tryz.func90 rfl 24 Tryz.ntmps90 rfl ?_
 refine Sat.seq (Sat.region ?_)
 refine Tr.boxA rfl rfl ?_
 intro n2 hn2 hf2
 refine Tr.boxA rfl rfl ?_
 intro n3 hn3 hf3
 refine Tr.a rfl rfl rfl ?_
 refine Tr.nil (Aa (Sat.seq (Sat.region ?_)))
 refine Tr.fld rfl rfl rfl Y53 rfl B6 dE _ rfl ?_
 refine Tr.load1 rfl rfl rfl Y48 rfl mM (by first | exact Cut.get_fHeight (by first | (simp [hA.l_fPrev, hB.l_fPrev]; done) | exact oK  | exact hA | exact hB) | exact (by first | rfl | exact Az (by first | omega | (simp [hA.l_fPrev, hB.l_fPrev]; done) | (simp [hA.l_fPrev, hB.l_fPrev]; omega)) | exact Ba (by first | omega | (simp [hA.l_fPrev, hB.l_fPrev]; done) | (simp [hA.l_fPrev, hB.l_fPrev]; omega)) | exact Bu (by first | omega | (simp [hA.l_fPrev, hB.l_fPrev]; done) | (simp [hA.l_fPrev, hB.l_fPrev]; omega)))) ?_
 refine Tr.fld rfl rfl rfl Y53 rfl B6 dE _ rfl ?_
 refine Tr.load1 rfl rfl rfl Y48 rfl mM (by first | exact Cut.get_fHeight (by first | (simp [hA.l_fPrev, hB.l_fPrev]; done) | exact oK  | exact hA | exact hB) | exact (by first | rfl | exact Az (by first | omega | (simp [hA.l_fPrev, hB.l_fPrev]; done) | (simp [hA.l_fPrev, hB.l_fPrev]; omega)) | exact Ba (by first | omega | (simp [hA.l_fPrev, hB.l_fPrev]; done) | (simp [hA.l_fPrev, hB.l_fPrev]; omega)) | exact Bu (by first | omega | (simp [hA.l_fPrev, hB.l_fPrev]; done) | (simp [hA.l_fPrev, hB.l_fPrev]; omega)))) ?_
 refine two (fun r hr k => Tr.eqi rfl rfl rfl rfl hr k) (fun hs1_40 => ?_) (fun hs1_40 => ?_)
 ·
  first | have hs1_4 := of_decide_eq_true hs1_40 | have hs1_4 := of_decide_eq_false hs1_40 | have hs1_4 := A0 hs1_40 | have hs1_4 := A1 hs1_40 | have hs1_4 := hs1_40
  refine Tr.m rfl rfl rfl ?_
  refine Tr.fld rfl rfl rfl Y53 rfl Be dE _ rfl ?_
  first
   | refine Tr.lN (Ab _) rfl rfl rfl Y50 rfl Be mM (Cut.row_fPrev (by first | (simp [hA.l_fPrev, hB.l_fPrev]; done) | exact oK  | exact hA | exact hB)) (Cut.rl_fPrev (by first | (simp [hA.l_fPrev, hB.l_fPrev]; done) | exact oK  | exact hA | exact hB)) ?_
  refine Tr.fld rfl rfl rfl Y53 rfl Be dE _ rfl ?_
  first
   | refine Tr.lN (Ab _) rfl rfl rfl Y50 rfl Be mM (Cut.row_fPrev (by first | (simp [hA.l_fPrev, hB.l_fPrev]; done) | exact oK  | exact hA | exact hB)) (Cut.rl_fPrev (by first | (simp [hA.l_fPrev, hB.l_fPrev]; done) | exact oK  | exact hA | exact hB)) ?_
  refine two (fun r hr k => Tr.eql_bytes rfl rfl rfl rfl Tryz.eqGuardType50 Y50 Y5 Sz5 (by first | (simp [hA.l_fPrev, hB.l_fPrev]; done) | assumption | (rw [Ab, List.length_map]; assumption)) (by first | (simp [hA.l_fPrev, hB.l_fPrev]; done) | assumption | (rw [Ab, List.length_map]; assumption)) hr k) (fun hs1_100 => ?_) (fun hs1_100 => ?_)
  ·
   first | have hs1_10 := of_decide_eq_true hs1_100 | have hs1_10 := of_decide_eq_false hs1_100 | have hs1_10 := A0 hs1_100 | have hs1_10 := A1 hs1_100 | have hs1_10 := hs1_100
   refine Tr.pick rfl rfl rfl rfl rfl rfl ?_
   refine Tr.m rfl rfl rfl ?_
   refine Tr.fld rfl rfl rfl Y53 rfl Sz51 dE _ rfl ?_
   refine Tr.load1 rfl rfl rfl Y51 rfl mM (by first | exact Cut.get_fHeads (by first | (simp [hA.l_fPrev, hB.l_fPrev]; done) | exact oK  | exact hA | exact hB) | exact (by first | rfl | exact Az (by first | omega | (simp [hA.l_fPrev, hB.l_fPrev]; done) | (simp [hA.l_fPrev, hB.l_fPrev]; omega)) | exact Ba (by first | omega | (simp [hA.l_fPrev, hB.l_fPrev]; done) | (simp [hA.l_fPrev, hB.l_fPrev]; omega)) | exact Bu (by first | omega | (simp [hA.l_fPrev, hB.l_fPrev]; done) | (simp [hA.l_fPrev, hB.l_fPrev]; omega)))) ?_
   refine Tr.fld rfl rfl rfl Y53 rfl Sz51 dE _ rfl ?_
   refine Tr.load1 rfl rfl rfl Y51 rfl mM (by first | exact Cut.get_fHeads (by first | (simp [hA.l_fPrev, hB.l_fPrev]; done) | exact oK  | exact hA | exact hB) | exact (by first | rfl | exact Az (by first | omega | (simp [hA.l_fPrev, hB.l_fPrev]; done) | (simp [hA.l_fPrev, hB.l_fPrev]; omega)) | exact Ba (by first | omega | (simp [hA.l_fPrev, hB.l_fPrev]; done) | (simp [hA.l_fPrev, hB.l_fPrev]; omega)) | exact Bu (by first | omega | (simp [hA.l_fPrev, hB.l_fPrev]; done) | (simp [hA.l_fPrev, hB.l_fPrev]; omega)))) ?_
   refine Tr.cV rfl rfl rfl rfl Body130 (digests_any2 _ _ _ _ _ _ a.dHeads b.dHeads hW.1.fHeads.row hW.2.fHeads.row hW.1.fHeads.len hW.2.fHeads.len hn) (fun w h => ⟨Aw h rfl hW.1.fHeads.see, Aw h rfl hW.2.fHeads.see⟩) ?_
   refine Tr.pick rfl rfl rfl rfl rfl rfl ?_
   refine Tr.a rfl rfl rfl ?_
   refine Tr.nil (Aa (Sat.ret (Ai ?_)))
   refine ⟨_, [], Ae rfl rfl, sP, sP, ?_, rfl⟩
   unfold sameC
   simp_all
  ·
   first | have hs1_10 := of_decide_eq_true hs1_100 | have hs1_10 := of_decide_eq_false hs1_100 | have hs1_10 := A0 hs1_100 | have hs1_10 := A1 hs1_100 | have hs1_10 := hs1_100
   refine Tr.pick rfl rfl rfl rfl rfl rfl ?_
   refine Tr.m rfl rfl rfl ?_
   refine Tr.skp rfl rfl ?_
   refine Tr.skp rfl rfl ?_
   refine Tr.skp rfl rfl ?_
   refine Tr.skp rfl rfl ?_
   refine Tr.skp rfl rfl ?_
   refine Tr.pick rfl rfl rfl rfl rfl rfl ?_
   refine Tr.a rfl rfl rfl ?_
   refine Tr.nil (Aa (Sat.ret (Ai ?_)))
   refine ⟨_, [], Ae rfl rfl, sP, sP, ?_, rfl⟩
   unfold sameC
   simp_all
 ·
  first | have hs1_4 := of_decide_eq_true hs1_40 | have hs1_4 := of_decide_eq_false hs1_40 | have hs1_4 := A0 hs1_40 | have hs1_4 := A1 hs1_40 | have hs1_4 := hs1_40
  refine Tr.m rfl rfl rfl ?_
  refine Tr.skp rfl rfl ?_
  refine Tr.skp rfl rfl ?_
  refine Tr.skp rfl rfl ?_
  refine Tr.skp rfl rfl ?_
  refine Tr.skp rfl rfl ?_
  refine Tr.pick rfl rfl rfl rfl rfl rfl ?_
  refine Tr.m rfl rfl rfl ?_
  refine Tr.skp rfl rfl ?_
  refine Tr.skp rfl rfl ?_
  refine Tr.skp rfl rfl ?_
  refine Tr.skp rfl rfl ?_
  refine Tr.skp rfl rfl ?_
  refine Tr.pick rfl rfl rfl rfl rfl rfl ?_
  refine Tr.a rfl rfl rfl ?_
  refine Tr.nil (Aa (Sat.ret (Ai ?_)))
  refine ⟨_, [], Ae rfl rfl, sP, sP, ?_, rfl⟩
  unfold sameC
  simp_all

def sameL {D : Type} (f : D → D → Bool) (xs ys : List D) : Bool := decide (xs.length = ys.length) && (xs.zip ys).all fun p => f p.1 p.2
theorem sameL_yes {D : Type} {f : D → D → Bool} {xs ys : List D} (hl : xs.length = ys.length) (h : ∀ (j : Nat) (a b : D), j < xs.length → xs[j]? = some a → ys[j]? = some b → f a b = true) : sameL f xs ys = true := by
  have e : ((xs.zip ys).all fun p => f p.1 p.2) = true := by
    rw [List.all_eq_true]
    rintro ⟨a, b⟩ hm
    obtain ⟨j, hj⟩ := List.getElem?_of_mem hm
    obtain ⟨h1, h2⟩ := List.getElem?_zip_eq_some.1 hj
    exact h j a b (List.getElem?_eq_some_iff.1 h1).1 h1 h2
  rw [sameL, e, decide_eq_true hl]; rfl
theorem sameL_no {D : Type} {f : D → D → Bool} {xs ys : List D} {k : Nat} {a b : D} (ha : xs[k]? = some a) (hb : ys[k]? = some b) (h : f a b = false) : sameL f xs ys = false := by
  have e : ((xs.zip ys).all fun p => f p.1 p.2) = false := by
    rw [List.all_eq_false]
    exact ⟨(a, b), List.mem_of_getElem? (List.getElem?_zip_eq_some.2 ⟨ha, hb⟩), by rw [h]; simp⟩
  rw [sameL, e, Bool.and_false]
theorem sameL_len {D : Type} {f : D → D → Bool} {xs ys : List D} (h : ¬ xs.length = ys.length) : sameL f xs ys = false := by rw [sameL, decide_eq_false h]; rfl

theorem kit_cuts (s u : Sl) (xs ys : List DCut) (hsm : ∀ d ∈ xs, d.dHeads.length ≤ 1000000) : Meets Tryz.prog 22 [s.v, u.v] [] (fun W => CutsAt W s xs ∧ CutsAt W u ys) (fun v out => v = .bool (sameL sameC xs ys) ∧ out = []) := by
 intro W hW
 obtain ⟨⟨rs, hs⟩, ⟨ru, hu⟩⟩ := hW
 have hnd := hs.nd
 have hnu := hu.nd
 have hmax := hs.max
 have hmaxu := hu.max
 simp only [maxLen] at hmax hmaxu
 refine An Tryz.func22 rfl 27 Tryz.ntmps22 rfl ?_
 refine Sat.seq (Sat.region ?_)
 refine Tr.a rfl rfl rfl ?_
 refine Tr.nil (Aa (Sat.seq (Sat.seq (Sat.region ?_))))
 refine Tr.m rfl rfl rfl ?_
 refine Tr.lenSl rfl rfl rfl Y25 ?_
 refine Tr.m rfl rfl rfl ?_
 refine Tr.lenSl rfl rfl rfl Y25 ?_
 refine Tr.nei rfl rfl rfl rfl rfl ?_
 refine Tr.nil (Aa ?_)
 first
  | refine Sat.condP rfl (fun hc0 => ?_) (fun hc0 => ?_)
  | refine Sat.condNP rfl (fun hc0 => ?_) (fun hc0 => ?_)
  | refine Sat.cond rfl (fun hc0 => ?_) (fun hc0 => ?_)
 ·
  refine Sat.seq (Sat.region ?_)
  refine Tr.a rfl rfl rfl ?_
  refine Tr.nil (Aa (Sat.ret (Ap (Ai ?_))))
  refine ⟨_, [], Ae rfl rfl, sP, sP, ?_, rfl⟩
  first
   | exact congrArg Value.bool (sameL_len (by rw [hnd, hnu]; omega)).symm
   | exact congrArg Value.bool (sameL_yes (by rw [hnd, hnu]; omega) (by rw [hnd]; exact hg)).symm
   | exact congrArg Value.bool (sameL_no hd hdu (by simp_all; done)).symm
 ·
  refine Sat.skip (Aa (Sat.seq (Sat.seq (Sat.region ?_))))
  refine Tr.a rfl rfl rfl ?_
  refine Tr.nil (Aa (Sat.block ?_))
  refine Sat.loop (ι := Nat) (fun k => ⟨[(0, s.v), (1, u.v), (5, i64 (k : Int))], []⟩) (fun k => k ≤ s.n ∧ s.n = u.n ∧ ∀ (j : Nat) (a b : DCut), j < k → xs[j]? = some a → ys[j]? = some b → sameC a b = true) (fun k => s.n - k) (0) ?_ ?_ ?_
  · exact ⟨by omega, by omega, fun j a b hj => by omega⟩
  · exact Ar (wk1 rfl (wk1 rfl (wk1 rfl wk0))) wh0 nD
  ·
   rintro k ⟨hk, hsu, hg⟩
   refine Sat.seq (Sat.seq (Sat.region ?_))
   refine Tr.m rfl rfl rfl ?_
   refine Tr.m rfl rfl rfl ?_
   refine Tr.lenSl rfl rfl rfl Y25 ?_
   refine Tr.lss rfl rfl rfl rfl rfl ?_
   refine Tr.nil (Aa ?_)
   first
    | refine Sat.condP rfl (fun hc1 => ?_) (fun hc1 => ?_)
    | refine Sat.condNP rfl (fun hc1 => ?_) (fun hc1 => ?_)
    | refine Sat.cond rfl (fun hc1 => ?_) (fun hc1 => ?_)
   ·
    have hk2 : k < s.n := by omega
    obtain ⟨b, o, r, d, hsp, hr, hd, his, hlen, hsee⟩ := hs.at dE hk2
    obtain ⟨b2, o2, r2, d2, hspu, hru, hdu, hiu, hlenu, hseeu⟩ := hu.at dE (show k < u.n by omega)
    refine Sat.skip (Aa (Sat.seq (Sat.block (Sat.seq ?_))))
    refine Sat.draw [(0, 0), (0, 1), (0, 2), (1, 3), (0, 4), (0, 5), (0, 6), (1, 7), (3, 8), (0, 9)] B2 zK ?_
    refine Tr.m rfl rfl rfl ?_
    refine Tr.m rfl rfl rfl ?_
    refine Tr.idxSlP 34 rfl rfl rfl hsp rfl Y25 Sz53 k rfl oM ?_
    refine Tr.loadEN r.cells rfl rfl rfl Y53 rfl Sz53 sP hlen hsee ?_
    refine Tr.m rfl rfl rfl ?_
    refine Tr.m rfl rfl rfl ?_
    refine Tr.idxSlP 34 rfl rfl rfl hspu rfl Y25 Sz53 k rfl oM ?_
    refine Tr.loadEN r2.cells rfl rfl rfl Y53 rfl Sz53 sP hlenu hseeu ?_
    refine Tr.cV rfl rfl rfl rfl Body90 (kit_cut r r2 d d2 (by rw [← his.fHeads.len]; exact hsm d (List.mem_of_getElem? hd))) (fun w h => ⟨his.ext h rfl, hiu.ext h rfl⟩) ?_
    refine Tr.not rfl rfl rfl ?_
    refine Tr.nil (Aa ?_)
    first
     | refine Sat.condP rfl (fun hc2 => ?_) (fun hc2 => ?_)
     | refine Sat.condNP rfl (fun hc2 => ?_) (fun hc2 => ?_)
     | refine Sat.cond rfl (fun hc2 => ?_) (fun hc2 => ?_)
    ·
     refine Sat.seq (Sat.region ?_)
     refine Tr.a rfl rfl rfl ?_
     refine Tr.nil (Aa (Sat.ret (B7 (Ap (Ap (B7 (Ap (Ai ?_))))))))
     refine ⟨_, [], Ae rfl rfl, sP, sP, ?_, rfl⟩
     first
      | exact congrArg Value.bool (sameL_len (by rw [hnd, hnu]; omega)).symm
      | exact congrArg Value.bool (sameL_yes (by rw [hnd, hnu]; omega) (by rw [hnd]; exact hg)).symm
      | exact congrArg Value.bool (sameL_no hd hdu (by simp_all; done)).symm
    ·
     refine Sat.skip (Cc (Aa (Sat.region ?_)))
     refine Tr.m rfl rfl rfl ?_
     refine Tr.aI rfl rfl rfl rfl oM ?_
     refine Tr.a rfl rfl rfl ?_
     refine Tr.nil (Aa ?_)
     exact ⟨k + 1, ⟨by omega, hsu, fun j a b hj ha hb => by rcases Nat.lt_succ_iff_lt_or_eq.1 hj with h | rfl; exact hg j a b h ha hb; exact (by rw [hd] at ha; rw [hdu] at hb; cases ha; cases hb; simp_all)⟩, by omega, Ar (wk1 rfl (wk1 rfl (wk1 rfl wk0))) wh0 nD⟩
   ·
    obtain rfl : k = s.n := by omega
    refine Sat.exit (Bi (Bi (bl_h (Aa (Sat.seq (Sat.region ?_))))))
    refine Tr.a rfl rfl rfl ?_
    refine Tr.nil (Aa (Sat.ret (Ai ?_)))
    refine ⟨_, [], Ae rfl rfl, sP, sP, ?_, rfl⟩
    first
     | exact congrArg Value.bool (sameL_len (by rw [hnd, hnu]; omega)).symm
     | exact congrArg Value.bool (sameL_yes (by rw [hnd, hnu]; omega) (by rw [hnd]; exact hg)).symm
     | exact congrArg Value.bool (sameL_no hd hdu (by simp_all; done)).symm

open Classical in
noncomputable def sameV (a b : Vote) : Bool := decide (a = b)
theorem sameV_eq {a b : Vote} (h : a = b) : sameV a b = true := by unfold sameV; simp [h]
theorem sameV_ne {a b : Vote} (h : ¬ a = b) : sameV a b = false := by unfold sameV; simp [h]

theorem kit_votes (s u : Sl) (xs ys : List Vote) : Meets Tryz.prog 21 [s.v, u.v] [] (fun W => VotesAt W s xs ∧ VotesAt W u ys) (fun v out => v = .bool (sameL sameV xs ys) ∧ out = []) := by
 intro W hW
 obtain ⟨⟨rs, hs⟩, ⟨ru, hu⟩⟩ := hW
 have hnd := hs.nd
 have hnu := hu.nd
 have hmax := hs.max
 have hmaxu := hu.max
 simp only [maxLen] at hmax hmaxu
 refine An Tryz.func21 rfl 26 Tryz.ntmps21 rfl ?_
 refine Sat.seq (Sat.region ?_)
 refine Tr.a rfl rfl rfl ?_
 refine Tr.nil (Aa (Sat.seq (Sat.seq (Sat.region ?_))))
 refine Tr.m rfl rfl rfl ?_
 refine Tr.lenSl rfl rfl rfl Y24 ?_
 refine Tr.m rfl rfl rfl ?_
 refine Tr.lenSl rfl rfl rfl Y24 ?_
 refine Tr.nei rfl rfl rfl rfl rfl ?_
 refine Tr.nil (Aa ?_)
 first
  | refine Sat.condP rfl (fun hc0 => ?_) (fun hc0 => ?_)
  | refine Sat.condNP rfl (fun hc0 => ?_) (fun hc0 => ?_)
  | refine Sat.cond rfl (fun hc0 => ?_) (fun hc0 => ?_)
 ·
  refine Sat.seq (Sat.region ?_)
  refine Tr.a rfl rfl rfl ?_
  refine Tr.nil (Aa (Sat.ret (Ap (Ai ?_))))
  refine ⟨_, [], Ae rfl rfl, sP, sP, ?_, rfl⟩
  first
   | exact congrArg Value.bool (sameL_len (by rw [hnd, hnu]; omega)).symm
   | exact congrArg Value.bool (sameL_yes (by rw [hnd, hnu]; omega) (by rw [hnd]; exact hg)).symm
   | exact congrArg Value.bool (sameL_no hd hdu (sameV_ne (by first | assumption | (intro h9; simp_all; done)))).symm
 ·
  refine Sat.skip (Aa (Sat.seq (Sat.seq (Sat.region ?_))))
  refine Tr.a rfl rfl rfl ?_
  refine Tr.nil (Aa (Sat.block ?_))
  refine Sat.loop (ι := Nat) (fun k => ⟨[(0, s.v), (1, u.v), (5, i64 (k : Int))], []⟩) (fun k => k ≤ s.n ∧ s.n = u.n ∧ ∀ (j : Nat) (a b : Vote), j < k → xs[j]? = some a → ys[j]? = some b → sameV a b = true) (fun k => s.n - k) (0) ?_ ?_ ?_
  · exact ⟨by omega, by omega, fun j a b hj => by omega⟩
  · exact Ar (wk1 rfl (wk1 rfl (wk1 rfl wk0))) wh0 nD
  ·
   rintro k ⟨hk, hsu, hg⟩
   refine Sat.seq (Sat.seq (Sat.region ?_))
   refine Tr.m rfl rfl rfl ?_
   refine Tr.m rfl rfl rfl ?_
   refine Tr.lenSl rfl rfl rfl Y24 ?_
   refine Tr.lss rfl rfl rfl rfl rfl ?_
   refine Tr.nil (Aa ?_)
   first
    | refine Sat.condP rfl (fun hc1 => ?_) (fun hc1 => ?_)
    | refine Sat.condNP rfl (fun hc1 => ?_) (fun hc1 => ?_)
    | refine Sat.cond rfl (fun hc1 => ?_) (fun hc1 => ?_)
   ·
    have hk2 : k < s.n := by omega
    obtain ⟨b, o, r, d, hsp, hr, hd, his, hlen, hsee⟩ := hs.at dE hk2
    obtain ⟨b2, o2, r2, d2, hspu, hru, hdu, hiu, hlenu, hseeu⟩ := hu.at dE (show k < u.n by omega)
    obtain rfl := his.eq
    obtain rfl := hiu.eq
    refine Sat.skip (Aa (Sat.seq (Sat.block (Sat.seq ?_))))
    refine Sat.draw [(0, 0), (0, 1), (0, 2), (1, 3), (0, 4), (0, 5), (0, 6), (1, 7), (0, 8)] B2 zK ?_
    refine Tr.m rfl rfl rfl ?_
    refine Tr.m rfl rfl rfl ?_
    refine Tr.idxSlP 132 rfl rfl rfl hsp rfl Y24 Sz81 k rfl oM ?_
    refine Tr.loadEN r.cells rfl rfl rfl Y81 rfl Sz81 sP hlen hsee ?_
    refine Tr.m rfl rfl rfl ?_
    refine Tr.m rfl rfl rfl ?_
    refine Tr.idxSlP 132 rfl rfl rfl hspu rfl Y24 Sz81 k rfl oM ?_
    refine Tr.loadEN r2.cells rfl rfl rfl Y81 rfl Sz81 sP hlenu hseeu ?_
    refine Tr.neq_rec rfl rfl rfl rfl Vote.eg (fun w => Vote.eq_runC (by first | exact oK  | exact his.ok | exact hiu.ok) (by first | exact oK  | exact his.ok | exact hiu.ok) w) rfl ?_
    refine Tr.nil (Aa ?_)
    first
     | refine Sat.condP rfl (fun hc2 => ?_) (fun hc2 => ?_)
     | refine Sat.condNP rfl (fun hc2 => ?_) (fun hc2 => ?_)
     | refine Sat.cond rfl (fun hc2 => ?_) (fun hc2 => ?_)
    ·
     refine Sat.seq (Sat.region ?_)
     refine Tr.a rfl rfl rfl ?_
     refine Tr.nil (Aa (Sat.ret (B7 (Ap (Ap (B7 (Ap (Ai ?_))))))))
     refine ⟨_, [], Ae rfl rfl, sP, sP, ?_, rfl⟩
     first
      | exact congrArg Value.bool (sameL_len (by rw [hnd, hnu]; omega)).symm
      | exact congrArg Value.bool (sameL_yes (by rw [hnd, hnu]; omega) (by rw [hnd]; exact hg)).symm
      | exact congrArg Value.bool (sameL_no hd hdu (sameV_ne (by first | assumption | (intro h9; simp_all; done)))).symm
    ·
     refine Sat.skip (Cc (Aa (Sat.region ?_)))
     refine Tr.m rfl rfl rfl ?_
     refine Tr.aI rfl rfl rfl rfl oM ?_
     refine Tr.a rfl rfl rfl ?_
     refine Tr.nil (Aa ?_)
     exact ⟨k + 1, ⟨by omega, hsu, fun j a b hj ha hb => by rcases Nat.lt_succ_iff_lt_or_eq.1 hj with h | rfl; exact hg j a b h ha hb; exact (by rw [hd] at ha; rw [hdu] at hb; cases ha; cases hb; exact sameV_eq (by first | assumption | (simp_all; done)))⟩, by omega, Ar (wk1 rfl (wk1 rfl (wk1 rfl wk0))) wh0 nD⟩
   ·
    obtain rfl : k = s.n := by omega
    refine Sat.exit (Bi (Bi (bl_h (Aa (Sat.seq (Sat.region ?_))))))
    refine Tr.a rfl rfl rfl ?_
    refine Tr.nil (Aa (Sat.ret (Ai ?_)))
    refine ⟨_, [], Ae rfl rfl, sP, sP, ?_, rfl⟩
    first
     | exact congrArg Value.bool (sameL_len (by rw [hnd, hnu]; omega)).symm
     | exact congrArg Value.bool (sameL_yes (by rw [hnd, hnu]; omega) (by rw [hnd]; exact hg)).symm
     | exact congrArg Value.bool (sameL_no hd hdu (sameV_ne (by first | assumption | (intro h9; simp_all; done)))).symm

noncomputable def sameE (a b : DCert) : Bool := sameC a.dCut b.dCut && sameL sameV a.dVotes b.dVotes

theorem kit_cert (A B : Cert) (a b : DCert) (hn : A.fCut.fHeads.n ≤ 1000000) : Meets Tryz.prog 32 [agg A.cells, agg B.cells] [] (fun W => CertIs W A a ∧ CertIs W B b) (fun v out => v = .bool (sameE a b) ∧ out = []) := by
 intro W hW
 have hA := hW.1.ok
 have hB := hW.2.ok
 refine An Tryz.func32 rfl 17 Tryz.ntmps32 rfl ?_
 refine Sat.seq (Sat.region ?_)
 refine Tr.boxA rfl rfl ?_
 intro n2 hn2 hf2
 refine Tr.boxA rfl rfl ?_
 intro n3 hn3 hf3
 refine Tr.a rfl rfl rfl ?_
 refine Tr.nil (Aa (Sat.seq (Sat.region ?_)))
 refine Tr.fld rfl rfl rfl Y55 rfl Sz53 dE _ rfl ?_
 refine Tr.lN (Cut.cells _) rfl rfl rfl Y53 rfl Sz53 mM (Cert.row_fCut (by first | exact oK  | exact hA | exact hB)) (Cert.rl_fCut (by first | exact oK  | exact hA | exact hB)) ?_
 refine Tr.fld rfl rfl rfl Y55 rfl Sz53 dE _ rfl ?_
 refine Tr.lN (Cut.cells _) rfl rfl rfl Y53 rfl Sz53 mM (Cert.row_fCut (by first | exact oK  | exact hA | exact hB)) (Cert.rl_fCut (by first | exact oK  | exact hA | exact hB)) ?_
 refine Tr.callB rfl rfl rfl rfl Body90 (kit_cut A.fCut B.fCut a.dCut b.dCut hn) (fun w h => ⟨hW.1.fCut.ext h rfl, hW.2.fCut.ext h rfl⟩) (fun hs1_40 => ?_) (fun hs1_40 => ?_)
 ·
  first | have hs1_4 := of_decide_eq_true hs1_40 | have hs1_4 := of_decide_eq_false hs1_40 | have hs1_4 := A0 hs1_40 | have hs1_4 := A1 hs1_40 | have hs1_4 := hs1_40
  refine Tr.m rfl rfl rfl ?_
  refine Tr.fld rfl rfl rfl Y55 rfl Sz24 dE _ rfl ?_
  refine Tr.load1 rfl rfl rfl Y24 rfl mM (by first | exact Cert.get_fVotes (by first | exact oK  | exact hA | exact hB) | exact vL) ?_
  refine Tr.fld rfl rfl rfl Y55 rfl Sz24 dE _ rfl ?_
  refine Tr.load1 rfl rfl rfl Y24 rfl mM (by first | exact Cert.get_fVotes (by first | exact oK  | exact hA | exact hB) | exact vL) ?_
  refine Tr.cV rfl rfl rfl rfl Body21 (kit_votes A.fVotes B.fVotes a.dVotes b.dVotes) (fun w h => ⟨Votes_ext h rfl hW.1.fVotes, Votes_ext h rfl hW.2.fVotes⟩) ?_
  refine Tr.pick rfl rfl rfl rfl rfl rfl ?_
  refine Tr.a rfl rfl rfl ?_
  refine Tr.nil (Aa (Sat.ret (Ai ?_)))
  refine ⟨_, [], Ae rfl rfl, sP, sP, ?_, rfl⟩
  simp_all [sameE]
 ·
  first | have hs1_4 := of_decide_eq_true hs1_40 | have hs1_4 := of_decide_eq_false hs1_40 | have hs1_4 := A0 hs1_40 | have hs1_4 := A1 hs1_40 | have hs1_4 := hs1_40
  refine Tr.m rfl rfl rfl ?_
  refine Tr.skp rfl rfl ?_
  refine Tr.skp rfl rfl ?_
  refine Tr.skp rfl rfl ?_
  refine Tr.skp rfl rfl ?_
  refine Tr.skp rfl rfl ?_
  refine Tr.pick rfl rfl rfl rfl rfl rfl ?_
  refine Tr.a rfl rfl rfl ?_
  refine Tr.nil (Aa (Sat.ret (Ai ?_)))
  refine ⟨_, [], Ae rfl rfl, sP, sP, ?_, rfl⟩
  simp_all [sameE]

theorem kit_certs (s u : Sl) (xs ys : List DCert) (hsm : ∀ d ∈ xs, d.dCut.dHeads.length ≤ 1000000) : Meets Tryz.prog 20 [s.v, u.v] [] (fun W => CertsAt W s xs ∧ CertsAt W u ys) (fun v out => v = .bool (sameL sameE xs ys) ∧ out = []) := by
 intro W hW
 obtain ⟨⟨rs, hs⟩, ⟨ru, hu⟩⟩ := hW
 have hnd := hs.nd
 have hnu := hu.nd
 have hmax := hs.max
 have hmaxu := hu.max
 simp only [maxLen] at hmax hmaxu
 refine An Tryz.func20 rfl 27 Tryz.ntmps20 rfl ?_
 refine Sat.seq (Sat.region ?_)
 refine Tr.a rfl rfl rfl ?_
 refine Tr.nil (Aa (Sat.seq (Sat.seq (Sat.region ?_))))
 refine Tr.m rfl rfl rfl ?_
 refine Tr.lenSl rfl rfl rfl Y23 ?_
 refine Tr.m rfl rfl rfl ?_
 refine Tr.lenSl rfl rfl rfl Y23 ?_
 refine Tr.nei rfl rfl rfl rfl rfl ?_
 refine Tr.nil (Aa ?_)
 first
  | refine Sat.condP rfl (fun hc0 => ?_) (fun hc0 => ?_)
  | refine Sat.condNP rfl (fun hc0 => ?_) (fun hc0 => ?_)
  | refine Sat.cond rfl (fun hc0 => ?_) (fun hc0 => ?_)
 ·
  refine Sat.seq (Sat.region ?_)
  refine Tr.a rfl rfl rfl ?_
  refine Tr.nil (Aa (Sat.ret (Ap (Ai ?_))))
  refine ⟨_, [], Ae rfl rfl, sP, sP, ?_, rfl⟩
  first
   | exact congrArg Value.bool (sameL_len (by rw [hnd, hnu]; omega)).symm
   | exact congrArg Value.bool (sameL_yes (by rw [hnd, hnu]; omega) (by rw [hnd]; exact hg)).symm
   | exact congrArg Value.bool (sameL_no hd hdu (by simp_all; done)).symm
 ·
  refine Sat.skip (Aa (Sat.seq (Sat.seq (Sat.region ?_))))
  refine Tr.a rfl rfl rfl ?_
  refine Tr.nil (Aa (Sat.block ?_))
  refine Sat.loop (ι := Nat) (fun k => ⟨[(0, s.v), (1, u.v), (5, i64 (k : Int))], []⟩) (fun k => k ≤ s.n ∧ s.n = u.n ∧ ∀ (j : Nat) (a b : DCert), j < k → xs[j]? = some a → ys[j]? = some b → sameE a b = true) (fun k => s.n - k) (0) ?_ ?_ ?_
  · exact ⟨by omega, by omega, fun j a b hj => by omega⟩
  · exact Ar (wk1 rfl (wk1 rfl (wk1 rfl wk0))) wh0 nD
  ·
   rintro k ⟨hk, hsu, hg⟩
   refine Sat.seq (Sat.seq (Sat.region ?_))
   refine Tr.m rfl rfl rfl ?_
   refine Tr.m rfl rfl rfl ?_
   refine Tr.lenSl rfl rfl rfl Y23 ?_
   refine Tr.lss rfl rfl rfl rfl rfl ?_
   refine Tr.nil (Aa ?_)
   first
    | refine Sat.condP rfl (fun hc1 => ?_) (fun hc1 => ?_)
    | refine Sat.condNP rfl (fun hc1 => ?_) (fun hc1 => ?_)
    | refine Sat.cond rfl (fun hc1 => ?_) (fun hc1 => ?_)
   ·
    have hk2 : k < s.n := by omega
    obtain ⟨b, o, r, d, hsp, hr, hd, his, hlen, hsee⟩ := hs.at dE hk2
    obtain ⟨b2, o2, r2, d2, hspu, hru, hdu, hiu, hlenu, hseeu⟩ := hu.at dE (show k < u.n by omega)
    refine Sat.skip (Aa (Sat.seq (Sat.block (Sat.seq ?_))))
    refine Sat.draw [(0, 0), (0, 1), (0, 2), (1, 3), (0, 4), (0, 5), (0, 6), (1, 7), (3, 8), (0, 9)] B2 zK ?_
    refine Tr.m rfl rfl rfl ?_
    refine Tr.m rfl rfl rfl ?_
    refine Tr.idxSlP 35 rfl rfl rfl hsp rfl Y23 Sz55 k rfl oM ?_
    refine Tr.loadEN r.cells rfl rfl rfl Y55 rfl Sz55 sP hlen hsee ?_
    refine Tr.m rfl rfl rfl ?_
    refine Tr.m rfl rfl rfl ?_
    refine Tr.idxSlP 35 rfl rfl rfl hspu rfl Y23 Sz55 k rfl oM ?_
    refine Tr.loadEN r2.cells rfl rfl rfl Y55 rfl Sz55 sP hlenu hseeu ?_
    refine Tr.cV rfl rfl rfl rfl Body32 (kit_cert r r2 d d2 (by rw [← his.fCut.fHeads.len]; exact hsm d (List.mem_of_getElem? hd))) (fun w h => ⟨his.ext h rfl, hiu.ext h rfl⟩) ?_
    refine Tr.not rfl rfl rfl ?_
    refine Tr.nil (Aa ?_)
    first
     | refine Sat.condP rfl (fun hc2 => ?_) (fun hc2 => ?_)
     | refine Sat.condNP rfl (fun hc2 => ?_) (fun hc2 => ?_)
     | refine Sat.cond rfl (fun hc2 => ?_) (fun hc2 => ?_)
    ·
     refine Sat.seq (Sat.region ?_)
     refine Tr.a rfl rfl rfl ?_
     refine Tr.nil (Aa (Sat.ret (B7 (Ap (Ap (B7 (Ap (Ai ?_))))))))
     refine ⟨_, [], Ae rfl rfl, sP, sP, ?_, rfl⟩
     first
      | exact congrArg Value.bool (sameL_len (by rw [hnd, hnu]; omega)).symm
      | exact congrArg Value.bool (sameL_yes (by rw [hnd, hnu]; omega) (by rw [hnd]; exact hg)).symm
      | exact congrArg Value.bool (sameL_no hd hdu (by simp_all; done)).symm
    ·
     refine Sat.skip (Cc (Aa (Sat.region ?_)))
     refine Tr.m rfl rfl rfl ?_
     refine Tr.aI rfl rfl rfl rfl oM ?_
     refine Tr.a rfl rfl rfl ?_
     refine Tr.nil (Aa ?_)
     exact ⟨k + 1, ⟨by omega, hsu, fun j a b hj ha hb => by rcases Nat.lt_succ_iff_lt_or_eq.1 hj with h | rfl; exact hg j a b h ha hb; exact (by rw [hd] at ha; rw [hdu] at hb; cases ha; cases hb; simp_all)⟩, by omega, Ar (wk1 rfl (wk1 rfl (wk1 rfl wk0))) wh0 nD⟩
   ·
    obtain rfl : k = s.n := by omega
    refine Sat.exit (Bi (Bi (bl_h (Aa (Sat.seq (Sat.region ?_))))))
    refine Tr.a rfl rfl rfl ?_
    refine Tr.nil (Aa (Sat.ret (Ai ?_)))
    refine ⟨_, [], Ae rfl rfl, sP, sP, ?_, rfl⟩
    first
     | exact congrArg Value.bool (sameL_len (by rw [hnd, hnu]; omega)).symm
     | exact congrArg Value.bool (sameL_yes (by rw [hnd, hnu]; omega) (by rw [hnd]; exact hg)).symm
     | exact congrArg Value.bool (sameL_no hd hdu (by simp_all; done)).symm

def sameBk (a b : DB) : Bool := decide (a.w = b.w) && (decide ((a.seq.toNat : Int) = (b.seq.toNat : Int)) && (decide (a.prev = b.prev) && (decide (a.ls = b.ls) && (decide (a.ds = b.ds) && decide (a.sg = b.sg)))))
theorem sameB_Bk {W : World} {A B : Block} {a b : DB} (h1 : BlockIs W A a) (h2 : BlockIs W B b) : sameB A B a.ls b.ls a.ds b.ds = sameBk a b := by
  simp only [sameB, sameBk, h1.w, h2.w, h1.seq, h2.seq, h1.prev, h2.prev, h1.sg, h2.sg]
theorem kit_blockD (A B : Block) (a b : DB) (hn : A.fLinks.n ≤ 1000000) : Meets Tryz.prog 89 [agg A.cells, agg B.cells] [] (fun W => BlockIs W A a ∧ BlockIs W B b) (fun v out => v = .bool (sameBk a b) ∧ out = []) := fun W hW => by
  rw [← sameB_Bk hW.1 hW.2]
  exact kit_block A B hW.1.ok hW.2.ok a.ls b.ls a.ds b.ds hn W ⟨⟨hW.1.ls, hW.1.ds⟩, ⟨hW.2.ls, hW.2.ds⟩⟩

theorem kit_blocks (s u : Sl) (xs ys : List DB) (hsm : ∀ d ∈ xs, d.ls.length ≤ 1000000) : Meets Tryz.prog 19 [s.v, u.v] [] (fun W => BlocksAt W s xs ∧ BlocksAt W u ys) (fun v out => v = .bool (sameL sameBk xs ys) ∧ out = []) := by
 intro W hW
 obtain ⟨⟨rs, hs⟩, ⟨ru, hu⟩⟩ := hW
 have hnd := hs.nd
 have hnu := hu.nd
 have hmax := hs.max
 have hmaxu := hu.max
 simp only [maxLen] at hmax hmaxu
 refine An Tryz.func19 rfl 27 Tryz.ntmps19 rfl ?_
 refine Sat.seq (Sat.region ?_)
 refine Tr.a rfl rfl rfl ?_
 refine Tr.nil (Aa (Sat.seq (Sat.seq (Sat.region ?_))))
 refine Tr.m rfl rfl rfl ?_
 refine Tr.lenSl rfl rfl rfl Y22 ?_
 refine Tr.m rfl rfl rfl ?_
 refine Tr.lenSl rfl rfl rfl Y22 ?_
 refine Tr.nei rfl rfl rfl rfl rfl ?_
 refine Tr.nil (Aa ?_)
 first
  | refine Sat.condP rfl (fun hc0 => ?_) (fun hc0 => ?_)
  | refine Sat.condNP rfl (fun hc0 => ?_) (fun hc0 => ?_)
  | refine Sat.cond rfl (fun hc0 => ?_) (fun hc0 => ?_)
 ·
  refine Sat.seq (Sat.region ?_)
  refine Tr.a rfl rfl rfl ?_
  refine Tr.nil (Aa (Sat.ret (Ap (Ai ?_))))
  refine ⟨_, [], Ae rfl rfl, sP, sP, ?_, rfl⟩
  first
   | exact congrArg Value.bool (sameL_len (by rw [hnd, hnu]; omega)).symm
   | exact congrArg Value.bool (sameL_yes (by rw [hnd, hnu]; omega) (by rw [hnd]; exact hg)).symm
   | exact congrArg Value.bool (sameL_no hd hdu (by simp_all; done)).symm
 ·
  refine Sat.skip (Aa (Sat.seq (Sat.seq (Sat.region ?_))))
  refine Tr.a rfl rfl rfl ?_
  refine Tr.nil (Aa (Sat.block ?_))
  refine Sat.loop (ι := Nat) (fun k => ⟨[(0, s.v), (1, u.v), (5, i64 (k : Int))], []⟩) (fun k => k ≤ s.n ∧ s.n = u.n ∧ ∀ (j : Nat) (a b : DB), j < k → xs[j]? = some a → ys[j]? = some b → sameBk a b = true) (fun k => s.n - k) (0) ?_ ?_ ?_
  · exact ⟨by omega, by omega, fun j a b hj => by omega⟩
  · exact Ar (wk1 rfl (wk1 rfl (wk1 rfl wk0))) wh0 nD
  ·
   rintro k ⟨hk, hsu, hg⟩
   refine Sat.seq (Sat.seq (Sat.region ?_))
   refine Tr.m rfl rfl rfl ?_
   refine Tr.m rfl rfl rfl ?_
   refine Tr.lenSl rfl rfl rfl Y22 ?_
   refine Tr.lss rfl rfl rfl rfl rfl ?_
   refine Tr.nil (Aa ?_)
   first
    | refine Sat.condP rfl (fun hc1 => ?_) (fun hc1 => ?_)
    | refine Sat.condNP rfl (fun hc1 => ?_) (fun hc1 => ?_)
    | refine Sat.cond rfl (fun hc1 => ?_) (fun hc1 => ?_)
   ·
    have hk2 : k < s.n := by omega
    obtain ⟨b, o, r, d, hsp, hr, hd, his, hlen, hsee⟩ := hs.at dE hk2
    obtain ⟨b2, o2, r2, d2, hspu, hru, hdu, hiu, hlenu, hseeu⟩ := hu.at dE (show k < u.n by omega)
    refine Sat.skip (Aa (Sat.seq (Sat.block (Sat.seq ?_))))
    refine Sat.draw [(0, 0), (0, 1), (0, 2), (1, 3), (0, 4), (0, 5), (0, 6), (1, 7), (3, 8), (0, 9)] B2 zK ?_
    refine Tr.m rfl rfl rfl ?_
    refine Tr.m rfl rfl rfl ?_
    refine Tr.idxSlP 131 rfl rfl rfl hsp rfl Y22 Sz79 k rfl oM ?_
    refine Tr.loadEN r.cells rfl rfl rfl Y79 rfl Sz79 sP hlen hsee ?_
    refine Tr.m rfl rfl rfl ?_
    refine Tr.m rfl rfl rfl ?_
    refine Tr.idxSlP 131 rfl rfl rfl hspu rfl Y22 Sz79 k rfl oM ?_
    refine Tr.loadEN r2.cells rfl rfl rfl Y79 rfl Sz79 sP hlenu hseeu ?_
    refine Tr.cV rfl rfl rfl rfl Body89 (kit_blockD r r2 d d2 (by rw [← his.ls.len]; exact hsm d (List.mem_of_getElem? hd))) (fun w h => ⟨his.ext h rfl, hiu.ext h rfl⟩) ?_
    refine Tr.not rfl rfl rfl ?_
    refine Tr.nil (Aa ?_)
    first
     | refine Sat.condP rfl (fun hc2 => ?_) (fun hc2 => ?_)
     | refine Sat.condNP rfl (fun hc2 => ?_) (fun hc2 => ?_)
     | refine Sat.cond rfl (fun hc2 => ?_) (fun hc2 => ?_)
    ·
     refine Sat.seq (Sat.region ?_)
     refine Tr.a rfl rfl rfl ?_
     refine Tr.nil (Aa (Sat.ret (B7 (Ap (Ap (B7 (Ap (Ai ?_))))))))
     refine ⟨_, [], Ae rfl rfl, sP, sP, ?_, rfl⟩
     first
      | exact congrArg Value.bool (sameL_len (by rw [hnd, hnu]; omega)).symm
      | exact congrArg Value.bool (sameL_yes (by rw [hnd, hnu]; omega) (by rw [hnd]; exact hg)).symm
      | exact congrArg Value.bool (sameL_no hd hdu (by simp_all; done)).symm
    ·
     refine Sat.skip (Cc (Aa (Sat.region ?_)))
     refine Tr.m rfl rfl rfl ?_
     refine Tr.aI rfl rfl rfl rfl oM ?_
     refine Tr.a rfl rfl rfl ?_
     refine Tr.nil (Aa ?_)
     exact ⟨k + 1, ⟨by omega, hsu, fun j a b hj ha hb => by rcases Nat.lt_succ_iff_lt_or_eq.1 hj with h | rfl; exact hg j a b h ha hb; exact (by rw [hd] at ha; rw [hdu] at hb; cases ha; cases hb; simp_all)⟩, by omega, Ar (wk1 rfl (wk1 rfl (wk1 rfl wk0))) wh0 nD⟩
   ·
    obtain rfl : k = s.n := by omega
    refine Sat.exit (Bi (Bi (bl_h (Aa (Sat.seq (Sat.region ?_))))))
    refine Tr.a rfl rfl rfl ?_
    refine Tr.nil (Aa (Sat.ret (Ai ?_)))
    refine ⟨_, [], Ae rfl rfl, sP, sP, ?_, rfl⟩
    first
     | exact congrArg Value.bool (sameL_len (by rw [hnd, hnu]; omega)).symm
     | exact congrArg Value.bool (sameL_yes (by rw [hnd, hnu]; omega) (by rw [hnd]; exact hg)).symm
     | exact congrArg Value.bool (sameL_no hd hdu (by simp_all; done)).symm

def DKept.small (a : DKept) : Prop := (∀ d ∈ a.dBlocks, d.ls.length ≤ 1000000) ∧ (∀ d ∈ a.dCerts, d.dCut.dHeads.length ≤ 1000000) ∧ ∀ d ∈ a.dCuts, d.dHeads.length ≤ 1000000

end Go.Proofs.YtdifpjmfabhpiaaGreat
end

section
namespace Go.Proofs.YtdifpjmfabhpiaaGreat
open Go Hw

theorem seq_one {R D : Type} {cells : R → List Value} {k : Nat} {Is : World → R → D → Prop} {w : World} (q : Nat) (E : TypeId) (r : R) {m : Nat} {d : D} (hl : Lies [⟨q, cells r, E, m⟩] w) (hlen : (cells r).length = k) (hm : m = 1 * k) (hi : Is w r d) : SeqIs cells k Is w ⟨some ⟨q, 0, none⟩, 1, 1⟩ [r] [d] := by
  subst hm
  have ha : Hw.Acc ⟨some ⟨q, 0, none⟩, 1, 1⟩ [⟨q, cells r, E, 1 * k⟩] (cells r) E 1 k := Acc.some (Nat.le_refl _) (by rw [hlen, Nat.one_mul])
  have e : ([r].map cells).flatten = cells r := by simp
  refine acc_seq (by rw [e]; exact ha) hl rfl rfl (fun x hx => by rw [List.mem_singleton.1 hx]; exact hlen) sP fun i x y hx hy => ?_
  obtain ⟨hi1, rfl⟩ := List.getElem?_eq_some_iff.1 hx
  obtain ⟨hi2, rfl⟩ := List.getElem?_eq_some_iff.1 hy
  have e0 : i = 0 := by simp at hi1; exact hi1
  subst e0
  exact hi
theorem sameC_self (a : DCut) : sameC a a = true := by simp [sameC]
theorem sameV_self (a : Vote) : sameV a a = true := sameV_eq rfl
theorem sameL_self {D : Type} {f : D → D → Bool} (h : ∀ a, f a a = true) (l : List D) : sameL f l l = true := sameL_yes rfl fun j a b _ ha hb => by rw [ha] at hb; cases hb; exact h a
theorem sameE_self (a : DCert) : sameE a a = true := by simp only [sameE, sameC_self, sameL_self sameV_self, Bool.and_self]
theorem sameBk_self (a : DB) : sameBk a a = true := by simp [sameBk]
end Go.Proofs.YtdifpjmfabhpiaaGreat
end

section
namespace Go.Proofs.YtdifpjmfabhpiaaGreat
open Go Hw

noncomputable def DKept.good (D : DKept) : Bool := (D.dBlocks.all fun d => decide (d.check = 0)) && ((D.dCerts.all fun d => decide (d.check = 0)) && ((D.dVotes.all fun d => decide (Bt d = 0)) && ((D.dCuts.all fun d => decide (d.check = 0)) && inOrd D.dCerts)))
noncomputable def DKept.check (D : DKept) : Int := if D.good = true then 0 else 2

end Go.Proofs.YtdifpjmfabhpiaaGreat
end

section
namespace Go.Proofs.YtdifpjmfabhpiaaGreat
open Go Hw

def LenR (k : Nat) (v : Value) (out : List Blk) : Prop := ∃ s : Sl, v = s.v ∧ s.n = k
theorem LenR.loose (k : Nat) : Loose (LenR k) := fun l hl => ⟨(⟨none, k, 0⟩ : Sl).v, [], ⟨_, rfl, rfl⟩, hl⟩
end Go.Proofs.YtdifpjmfabhpiaaGreat
end

section
namespace Go.Proofs.YtdifpjmfabhpiaaGreat
open Go Hw

def putD {D : Type} (f : D → DRecord × Int) (ds : List D) : List DRecord := ds.map fun d => (f d).1
end Go.Proofs.YtdifpjmfabhpiaaGreat
end

section
namespace Go.Proofs.YtdifpjmfabhpiaaGreat
open Go Hw

structure QI (q : List DRecord × Int) (e : Int) (s : Sl) (b o : List Blk) (rs : List Record) (M : Nat) : Prop where
  err : e = q.2
  own : q.2 = 0 → OwnSeq Record.cells 2 RecordIs 91 s b o rs q.1 q.1.length
  bad : ¬ q.2 = 0 → q.1 = []
  le : q.1.length ≤ M
end Go.Proofs.YtdifpjmfabhpiaaGreat
end

section
namespace Go.Proofs.YtdifpjmfabhpiaaGreat
open Go Hw

def DKept.light (D : DKept) (n : Int) : Bool := lightOf lightBf D.dBlocks n && (lightOf lightEf D.dCerts n && (decide ((D.dVotes.length : Int) ≤ n) && lightOf lightCf D.dCuts n))
structure LightK (D : DKept) : Prop where
  nB : D.dBlocks.length ≤ 12
  nE : D.dCerts.length ≤ 12
  nV : D.dVotes.length ≤ 12
  nC : D.dCuts.length ≤ 12
  blocks : ∀ d ∈ D.dBlocks, d.ls.length ≤ 500000 ∧ d.ds.length ≤ 500000
  cuts : ∀ d ∈ D.dCuts, d.dHeads.length ≤ 500000
  certs : ∀ d ∈ D.dCerts, d.dCut.dHeads.length ≤ 500000 ∧ d.dVotes.length ≤ 500000
theorem no_lie0 {n : Nat} {v : Value} {T : TypeId} {W : World} (h : Lies [⟨n, [v], T, 0⟩] W) : False := by
  obtain ⟨full, fr, hb⟩ := h _ (List.mem_singleton.2 rfl)
  have h1 := hb.pre.length_le
  have h2 := hb.size
  simp at h1
  simp only at h2
  omega
theorem flat_len0 {R : Type} {cells : R → List Value} {k : Nat} : ∀ (rs : List R), (∀ r ∈ rs, (cells r).length = k) → (rs.map cells).flatten.length = rs.length * k
  | [], _ => by simp
  | r :: l, h => by
    rw [List.map_cons, List.flatten_cons, List.length_append, flat_len0 l (fun x hx => h x (List.mem_cons_of_mem _ hx)), h r List.mem_cons_self, List.length_cons, Nat.add_mul, Nat.one_mul, Nat.add_comm]
end Go.Proofs.YtdifpjmfabhpiaaGreat
end

section
namespace Go.Proofs.YtdifpjmfabhpiaaGreat
open Go Hw

def AccR (xs : List Value) (E : TypeId) (n size : Nat) (v : Value) (out : List Blk) : Prop := ∃ s : Sl, v = s.v ∧ Hw.Acc s out xs E n size
theorem AccR.loose {xs : List Value} {E : TypeId} {n size : Nat} (h : xs.length = n * size) : Loose (AccR xs E n size) := fun l hl => by
  obtain ⟨q, _, hq⟩ := fresh_is 0 l
  refine ⟨_, [⟨q, xs, E, n * size⟩], ⟨⟨some ⟨q, 0, none⟩, n, n⟩, rfl, Acc.some (Nat.le_refl _) h⟩, ?_⟩
  rw [List.map_append, List.nodup_append]
  refine ⟨by simp, hl, fun i hi j hj => ?_⟩
  obtain ⟨b, hb, rfl⟩ := List.mem_map.1 hj
  simp at hi
  subst hi
  exact fun e => hq b hb e.symm

def CutOwn (D : DCut) (v : Value) (out : List Blk) : Prop := ∃ C : Cut, C.ok ∧ v = agg C.cells ∧ ∀ W2, Lies out W2 → CutIs W2 C D
def BlockOwn (D : DB) (v : Value) (out : List Blk) : Prop := ∃ B : Block, B.ok ∧ v = agg B.cells ∧ ∀ W2, Lies out W2 → BlockIs W2 B D

end Go.Proofs.YtdifpjmfabhpiaaGreat
end

section
namespace Go.Proofs.YtdifpjmfabhpiaaGreat
open Go Hw

structure MidK (D : DKept) : Prop where
  blocks : ∀ d ∈ D.dBlocks, d.ls.length ≤ 90000 ∧ d.ds.length ≤ 90000
  certs : ∀ d ∈ D.dCerts, d.dCut.dHeads.length ≤ 90000 ∧ d.dVotes.length ≤ 90000
  cuts : ∀ d ∈ D.dCuts, d.dHeads.length ≤ 90000
theorem BlockOwn.loose (D : DB) : Loose (BlockOwn D) := fun l hl => by
  obtain ⟨n, _, hn⟩ := fresh_is 0 l
  exact ⟨agg Block.zero.cells, [⟨n, [undef], 0, 0⟩], ⟨Block.zero, Block.zero_ok, rfl, fun W2 h => (no_lie0 h).elim⟩, by
    rw [List.map_append, List.nodup_append]
    refine ⟨by simp, hl, fun i hi j hj => ?_⟩
    obtain ⟨b, hb, rfl⟩ := List.mem_map.1 hj
    simp at hi
    subst hi
    exact fun e => hn b hb e.symm⟩
theorem CutOwn.loose (D : DCut) : Loose (CutOwn D) := fun l hl => by
  obtain ⟨n, _, hn⟩ := fresh_is 0 l
  exact ⟨agg Cut.zero.cells, [⟨n, [undef], 0, 0⟩], ⟨Cut.zero, Cut.zero_ok, rfl, fun W2 h => (no_lie0 h).elim⟩, by
    rw [List.map_append, List.nodup_append]
    refine ⟨by simp, hl, fun i hi j hj => ?_⟩
    obtain ⟨b, hb, rfl⟩ := List.mem_map.1 hj
    simp at hi
    subst hi
    exact fun e => hn b hb e.symm⟩
end Go.Proofs.YtdifpjmfabhpiaaGreat
end

section
namespace Go.Proofs.YtdifpjmfabhpiaaGreat
open Go Hw

def SaidR (ds : List Vote) (v : Value) (out : List Blk) : Prop := ∃ (s : Sl) (rs : List Vote), v = s.v ∧ OwnSeq Vote.cells 132 VoteIs 81 s out [] rs ds ds.length
theorem SaidR.loose {ds : List Vote} (h : ∀ d ∈ ds, d.ok ∧ (Lit.int .i64 d.fPhase).wf = true) : Loose (SaidR ds) := fun l hl => by
  obtain ⟨q, _, hq⟩ := fresh_is 0 l
  refine ⟨_, [⟨q, (ds.map Vote.cells).flatten, 81, ds.length * 132⟩], ⟨⟨some ⟨q, 0, none⟩, ds.length, ds.length⟩, ds, rfl, Acc.some (Nat.le_refl _) (flat_len0 ds fun r hr => Vote.length (h r hr).1), rfl, rfl, fun r hr => Vote.length (h r hr).1, fun W2 _ i r d h1 h2 => ?_⟩, ?_⟩
  · rw [h1] at h2; cases h2
    have := h r (List.mem_of_getElem? h1)
    exact ⟨this.1, rfl, this.2⟩
  · rw [List.map_append, List.nodup_append]
    refine ⟨by simp, hl, fun i hi j hj => ?_⟩
    obtain ⟨b, hb, rfl⟩ := List.mem_map.1 hj
    simp at hi
    subst hi
    exact fun e => hq b hb e.symm
end Go.Proofs.YtdifpjmfabhpiaaGreat
end

section
namespace Go.Proofs.YtdifpjmfabhpiaaGreat
open Go Hw

theorem meets_know {P : Program} {f : FuncId} {args : List Value} {Pre : World → Prop} {R R' : Value → List Blk → Prop} (h : Meets P f args [] Pre R) (hr : ∀ v out w, R v out → Lies out w → R' v out) : Meets P f args [] Pre R' :=
  fun W hW => (h W hW).mono fun e W' ⟨v, out, h1, h2, h3⟩ => ⟨v, out, h1, hr v out W' h2 h3.cells, h3⟩
end Go.Proofs.YtdifpjmfabhpiaaGreat
end

section
namespace Go.Proofs.YtdifpjmfabhpiaaGreat
open Go Hw

theorem voteRd_only {xs : List UInt8} (h : (Bs xs).2 = 0) : Bt (Bs xs).1 = 0 ∧ Bb (Bs xs).1 = xs ∧ (Bs xs).1.ok := by
  by_cases hg : endR xs.length (voteP xs).2.1 (voteP xs).2.2 = 0 ∧ Bt (voteP xs).1 = 0
  case neg => rw [voteRd_bad hg] at h; cases h
  rw [voteRd_ok hg]
  refine ⟨hg.2, ?_⟩
  obtain ⟨he, hc⟩ := hg
  have e0 : (voteP xs).2.2 = 0 ∧ ¬ (0 : Int) < (xs.length : Int) - ((voteP xs).2.1 : Int) := by
    unfold endR at he
    split at he
    · rename_i h1
      exact ⟨h1, fun h2 => by rw [if_pos h2] at he; cases he⟩
    · rename_i h1; exact absurd he h1
  obtain ⟨e1, e2⟩ := e0
  rw [show Bb (voteP xs).1 = voteT (voteP xs).1 ++ (voteP xs).1.fSig from if_pos hc]
  simp only [voteP] at e1 e2 hc ⊢
  obtain ⟨x1, p1, h1⟩ : ∃ l r, A7 xs 0 0 = (l, r) := ⟨_, _, rfl⟩
  obtain ⟨a1, d1⟩ := p1
  rw [h1] at e1 e2 hc ⊢
  simp only at e1 e2 hc ⊢
  obtain ⟨x2, p2, h2⟩ : ∃ l r, A7 xs a1 d1 = (l, r) := ⟨_, _, rfl⟩
  obtain ⟨a2, d2⟩ := p2
  rw [h2] at e1 e2 hc ⊢
  simp only at e1 e2 hc ⊢
  obtain ⟨x3, p3, h3⟩ : ∃ l r, A7 xs a2 d2 = (l, r) := ⟨_, _, rfl⟩
  obtain ⟨a3, d3⟩ := p3
  rw [h3] at e1 e2 hc ⊢
  simp only at e1 e2 hc ⊢
  obtain ⟨l4, p4, h4⟩ : ∃ l r, digR xs a3 d3 = (l, r) := ⟨_, _, rfl⟩
  obtain ⟨a4, d4⟩ := p4
  rw [h4] at e1 e2 hc ⊢
  simp only at e1 e2 hc ⊢
  obtain ⟨x5, p5, h5⟩ : ∃ l r, A7 xs a4 d4 = (l, r) := ⟨_, _, rfl⟩
  obtain ⟨a5, d5⟩ := p5
  rw [h5] at e1 e2 hc ⊢
  simp only at e1 e2 hc ⊢
  obtain ⟨l6, p6, h6⟩ : ∃ l r, digR xs a5 d5 = (l, r) := ⟨_, _, rfl⟩
  obtain ⟨a6, d6⟩ := p6
  rw [h6] at e1 e2 hc ⊢
  simp only at e1 e2 hc ⊢
  obtain ⟨l7, p7, h7⟩ : ∃ l r, takR xs 64 a6 d6 = (l, r) := ⟨_, _, rfl⟩
  obtain ⟨a7, d7⟩ := p7
  rw [h7] at e1 e2 hc ⊢
  simp only at e1 e2 hc ⊢
  subst e1
  obtain ⟨z6, ea7, ha7, hl7, hx7⟩ := tak_bwd h7
  subst z6
  obtain ⟨z5, ea6, ha6, hx6⟩ := dig_bwd h6
  subst z5
  obtain ⟨z4, ea5, ha5, hx5⟩ := num_bwd h5
  subst z4
  obtain ⟨z3, ea4, ha4, hx4⟩ := dig_bwd h4
  subst z3
  obtain ⟨z2, ea3, ha3, hx3⟩ := num_bwd h3
  subst z2
  obtain ⟨z1, ea2, ha2, hx2⟩ := num_bwd h2
  subst z1
  obtain ⟨_, ea1, ha1, hx1⟩ := num_bwd h1
  have d4 := (digR_at xs a3 0 oM).2
  have d6 := (digR_at xs a5 0 oM).2
  rw [h4] at d4
  rw [h6] at d6
  have e7 : l7 ++ (List.replicate 64 (0 : UInt8)).drop l7.length = l7 := by rw [hl7]; simp
  have hend : xs.drop a7 = [] := List.drop_of_length_le oM
  rw [e7] at hc ⊢
  have hph := vcheck_phase hc
  simp only at hph
  have hx : (Hw.Bq ((min x3.toNat 4 : Nat) : Int)).toUInt64 = x3 := by
    apply UInt64.toNat_inj.1
    rw [byteOf_small oM oM]
    omega
  refine ⟨?_, ⟨d4, d6, hl7⟩⟩
  simp only [voteT]
  rw [hx]
  rw [List.drop_zero] at hx1
  rw [hx1, hx2, hx3, hx4, hx5, hx6, hx7, hend]
  simp [List.append_assoc]
end Go.Proofs.YtdifpjmfabhpiaaGreat
end

section
namespace Go.Proofs.YtdifpjmfabhpiaaGreat
open Go Hw

theorem cutRd_only {xs : List UInt8} (h : (B5 xs).2 = 0) : (B5 xs).1.check = 0 ∧ (B5 xs).1.bytes = xs ∧ (B5 xs).1.dPrev.length = 32 ∧ ∀ l ∈ (B5 xs).1.dHeads, l.length = 32 := by
  by_cases hg : endR xs.length (cutP xs).2.1 (cutP xs).2.2 = 0 ∧ (cutP xs).1.check = 0
  case neg => rw [show B5 xs = (DCut.zero, 4) from if_neg hg] at h; cases h
  rw [show B5 xs = ((cutP xs).1, 0) from if_pos hg]
  refine ⟨hg.2, ?_⟩
  obtain ⟨he, hc⟩ := hg
  have hs := (cutP xs).1.small hc
  have e0 : (cutP xs).2.2 = 0 ∧ ¬ (0 : Int) < (xs.length : Int) - ((cutP xs).2.1 : Int) := by
    unfold endR at he
    split at he
    · rename_i h1
      exact ⟨h1, fun h2 => by rw [if_pos h2] at he; cases he⟩
    · rename_i h1; exact absurd he h1
  obtain ⟨e1, e2⟩ := e0
  clear he hc
  simp only [cutP] at e1 e2 hs ⊢
  obtain ⟨x1, p1, h1⟩ : ∃ l r, A7 xs 0 0 = (l, r) := ⟨_, _, rfl⟩
  obtain ⟨a1, d1⟩ := p1
  rw [h1] at e1 e2 hs ⊢
  simp only at e1 e2 hs ⊢
  obtain ⟨l2, p2, h2⟩ : ∃ l r, digR xs a1 d1 = (l, r) := ⟨_, _, rfl⟩
  obtain ⟨a2, d2⟩ := p2
  rw [h2] at e1 e2 hs ⊢
  simp only at e1 e2 hs ⊢
  obtain ⟨x3, p3, h3⟩ : ∃ l r, A7 xs a2 d2 = (l, r) := ⟨_, _, rfl⟩
  obtain ⟨a3, d3⟩ := p3
  rw [h3] at e1 e2 hs ⊢
  simp only at e1 e2 hs ⊢
  obtain ⟨ls, p4, h4⟩ : ∃ l r, Bk xs (min x3.toNat 33) a3 d3 = (l, r) := ⟨_, _, rfl⟩
  obtain ⟨a4, d4⟩ := p4
  rw [h4] at e1 e2 hs ⊢
  simp only at e1 e2 hs ⊢
  subst e1
  obtain ⟨z3, i4, g4⟩ := digs_bwd _ _ _ h4
  subst z3
  obtain ⟨z2, ea3, i3, g3⟩ := num_bwd h3
  subst z2
  obtain ⟨z1, ea2, i2, g2⟩ := dig_bwd h2
  subst z1
  obtain ⟨_, ea1, i1, g1⟩ := num_bwd h1
  have d2 := (digR_at xs a1 0 oM).2
  rw [h2] at d2
  have d4 := (digsR_at (xs := xs) (a := a3) (N := xs.length) (e := 0) rfl oM (min x3.toNat 33)).2.1
  rw [h4] at d4
  have hx3 : x3 = UInt64.ofNat ls.length := by
    apply UInt64.toNat_inj.1
    rw [A2 oM]; omega
  have hnil : xs.drop a4 = [] := List.drop_eq_nil_of_le oM
  refine ⟨?_, d2, d4⟩
  simp only [DCut.bytes, DCut.body, List.take_length]
  rw [← hx3]
  rw [hnil, List.append_nil] at g4
  rw [List.drop_zero] at g1
  rw [g1, g2, g3, g4]
  simp only [List.append_assoc]
theorem votesR_bwd {xs : List UInt8} {a : Nat} {e : Int} : ∀ (k : Nat) (vs : List Vote) (a2 : Nat), votesR xs k a e = some (vs, a2, 0) → e = 0 ∧ vs.length = k ∧ xs.drop a = Au Bb vs ++ xs.drop a2 ∧ ∀ v ∈ vs, v.ok ∧ Bt v = 0
  | 0, vs, a2, h => by
    obtain ⟨rfl, rfl, rfl⟩ : [] = vs ∧ a = a2 ∧ e = 0 := by simpa [votesR] using h
    exact ⟨rfl, rfl, rfl, fun v hv => (by cases hv)⟩
  | k + 1, vs, a2, h => by
    rw [votesR] at h
    obtain ⟨r, hr, h2⟩ := Option.bind_eq_some_iff.1 h
    obtain ⟨us, b, eb⟩ := r
    simp only at h2
    split at h2
    · rename_i h3
      obtain ⟨h3, h4⟩ := h3
      obtain ⟨o, q, hb⟩ : ∃ o q, blkR xs b eb = (o, q) := ⟨_, _, rfl⟩
      obtain ⟨c, ec⟩ := q
      rw [hb] at h2 h3 h4
      simp only at h2 h3 h4
      subst h4
      obtain ⟨z, ic, ds, rfl, hd⟩ := blk_bwd hb
      subst z
      simp only [Option.getD_some] at h2 h3
      obtain ⟨rfl, rfl⟩ : us ++ [(Bs ds).1] = vs ∧ c = a2 := by simpa using h2
      obtain ⟨g1, g2, g3, g4⟩ := votesR_bwd k us b hr
      obtain ⟨v1, v2, v3⟩ := voteRd_only h3
      refine ⟨g1, by rw [List.length_append, g2]; rfl, ?_, fun v hv => ?_⟩
      · rw [g3, hd]
        have : Au Bb (us ++ [(Bs ds).1]) = Au Bb us ++ blkB ds := by simp [Au, v2]
        rw [this, blkB]
        simp only [List.append_assoc]
      · rcases List.mem_append.1 hv with hv | hv
        · exact g4 v hv
        · rw [List.mem_singleton.1 hv]; exact ⟨v3, v1⟩
    · cases h2
structure DCert.ok (D : DCert) : Prop where
  prev : D.dCut.dPrev.length = 32
  heads : ∀ l ∈ D.dCut.dHeads, l.length = 32
  votes : ∀ d ∈ D.dVotes, d.ok
structure DCut.okL (D : DCut) : Prop where
  prev : D.dPrev.length = 32
  heads : ∀ l ∈ D.dHeads, l.length = 32
theorem certRd_only {xs : List UInt8} (h : (Bv xs).2 = 0) : (Bv xs).1.check = 0 ∧ (Bv xs).1.bytes = xs ∧ (Bv xs).1.ok := by
  obtain ⟨o, p, hb⟩ : ∃ o p, blkR xs 0 0 = (o, p) := ⟨_, _, rfl⟩
  obtain ⟨a1, e1⟩ := p
  unfold Bv at h ⊢
  rw [hb] at h ⊢
  simp only at h ⊢
  by_cases hc : (B5 (o.getD [])).2 = 0
  case neg => rw [if_neg hc] at h; cases h
  rw [if_pos hc] at h ⊢
  cases hv : readVL xs 16 a1 e1 with
  | none => simp only [hv] at h; cases h
  | some r =>
    obtain ⟨vs, a, e⟩ := r
    simp only [hv] at h ⊢
    by_cases hg : endR xs.length a e = 0 ∧ (⟨(B5 (o.getD [])).1, vs⟩ : DCert).check = 0
    case neg => rw [if_neg hg] at h; cases h
    rw [if_pos hg]
    refine ⟨hg.2, ?_⟩
    obtain ⟨he, hck⟩ := hg
    have e0 : e = 0 ∧ ¬ (0 : Int) < (xs.length : Int) - (a : Int) := by
      unfold endR at he
      split at he
      · rename_i h1
        exact ⟨h1, fun h2 => by rw [if_pos h2] at he; cases he⟩
      · rename_i h1; exact absurd he h1
    obtain ⟨z, e2⟩ := e0
    subst z
    unfold readVL at hv
    obtain ⟨x2, p2, h2⟩ : ∃ x p, A7 xs a1 e1 = (x, p) := ⟨_, _, rfl⟩
    obtain ⟨a2, e2'⟩ := p2
    rw [h2] at hv
    simp only at hv
    split at hv
    case isFalse => cases hv
    rename_i hk
    obtain ⟨hk1, hk2⟩ := hk
    subst hk1
    obtain ⟨_, g2, g3, g4⟩ := votesR_bwd _ _ _ hv
    obtain ⟨z, ea2, i2, k2⟩ := num_bwd h2
    subst z
    obtain ⟨_, i1, ds, rfl, k1⟩ := blk_bwd hb
    simp only [Option.getD_some] at hc hck ⊢
    obtain ⟨c1, c2, c3, c4⟩ := cutRd_only hc
    have hx2 : x2 = UInt64.ofNat vs.length := by rw [g2, UInt64.ofNat_toNat]
    have hnil : xs.drop a = [] := List.drop_eq_nil_of_le oM
    refine ⟨?_, ⟨c3, c4, fun d hd => (g4 d hd).1⟩⟩
    simp only [DCert.bytes]
    rw [show cutR (B5 ds).1 = ds from (if_pos c1).trans c2, blkB, ← hx2]
    rw [hnil, List.append_nil] at g3
    rw [List.drop_zero] at k1
    rw [k1, k2, g3]
    simp only [List.append_assoc]

structure DKept.oks (D : DKept) : Prop where
  b : ∀ d ∈ D.dBlocks, d.ok
  e : ∀ d ∈ D.dCerts, d.ok
  v : ∀ d ∈ D.dVotes, d.ok
  c : ∀ d ∈ D.dCuts, d.okL
def fB : DB → DRecord × Int := (fun X : DB => recOf 1 (Bj X) (DB.check X))
noncomputable def fE : DCert → DRecord × Int := (fun X : DCert => recOf 2 (Bm X) (DCert.check X))
def fV : Vote → DRecord × Int := (fun X : Vote => recOf 3 (Bb X) (Bt X))
def fC : DCut → DRecord × Int := (fun X : DCut => recOf 4 (cutR X) (DCut.check X))
theorem fold_put {D : Type} {f : D → DRecord × Int} {g : DKept → List D → DKept} (h0 : ∀ K, g K [] = K) (h1 : ∀ K d l, g (g K [d]) l = g K (d :: l)) : ∀ (ds : List D), (∀ d ∈ ds, ∀ K, keepStep K (f d).1 = some (g K [d])) → ∀ K, (putD f ds).foldl (fun o r => o.bind fun D => keepStep D r) (some K) = some (g K ds)
  | [], _, K => by rw [h0]; rfl
  | d :: l, h, K => by
    have ih := fold_put h0 h1 l (fun x hx => h x (List.mem_cons_of_mem _ hx)) (g K [d])
    rw [h1] at ih
    rw [← ih]
    show List.foldl _ (some K) ((f d).1 :: putD f l) = _
    rw [List.foldl_cons, Option.bind_some, h d List.mem_cons_self K]
structure PutAll (D : DKept) : Prop where
  chk : D.check = 0
  e : ∀ d ∈ D.dCerts, (fE d).2 = 0
  b : ∀ d ∈ D.dBlocks, (fB d).2 = 0
  c : ∀ d ∈ D.dCuts, (fC d).2 = 0
  v : ∀ d ∈ D.dVotes, (fV d).2 = 0
structure OfRecs (l : List DRecord) (D : DKept) : Prop where
  oks : D.oks
  b : putD fB D.dBlocks = l.filter (fun r => decide (r.dKind = 1))
  e : putD fE D.dCerts = l.filter (fun r => decide (r.dKind = 2))
  v : putD fV D.dVotes = l.filter (fun r => decide (r.dKind = 3))
  c : putD fC D.dCuts = l.filter (fun r => decide (r.dKind = 4))
  gb : ∀ d ∈ D.dBlocks, (fB d).2 = 0
  ge : ∀ d ∈ D.dCerts, (fE d).2 = 0
  gv : ∀ d ∈ D.dVotes, (fV d).2 = 0
  gc : ∀ d ∈ D.dCuts, (fC d).2 = 0
  kinds : ∀ r ∈ l, r.dKind = 1 ∨ r.dKind = 2 ∨ r.dKind = 3 ∨ r.dKind = 4
theorem readP_dok (xs : List UInt8) : (readP xs).1.ok := by
  obtain ⟨l1, r1, h1⟩ : ∃ l r, digR xs 0 0 = (l, r) := ⟨_, _, rfl⟩
  obtain ⟨a1, e1⟩ := r1
  obtain ⟨x2, r2, h2⟩ : ∃ l r, A7 xs a1 e1 = (l, r) := ⟨_, _, rfl⟩
  obtain ⟨a2, e2⟩ := r2
  obtain ⟨l3, r3, h3⟩ : ∃ l r, digR xs a2 e2 = (l, r) := ⟨_, _, rfl⟩
  obtain ⟨a3, e3⟩ := r3
  obtain ⟨x4, r4, h4⟩ : ∃ l r, A7 xs a3 e3 = (l, r) := ⟨_, _, rfl⟩
  obtain ⟨a4, e4⟩ := r4
  obtain ⟨ls, r5, h5⟩ : ∃ l r, Bk xs (min x4.toNat 17) a4 e4 = (l, r) := ⟨_, _, rfl⟩
  obtain ⟨a5, e5⟩ := r5
  obtain ⟨o, r6, h6⟩ : ∃ l r, blkR xs a5 e5 = (l, r) := ⟨_, _, rfl⟩
  obtain ⟨a6, e6⟩ := r6
  obtain ⟨l7, r7, h7⟩ : ∃ l r, takR xs 64 a6 e6 = (l, r) := ⟨_, _, rfl⟩
  obtain ⟨a7, e7⟩ := r7
  have d1 := digE_le h1 rfl (Nat.zero_le _)
  have d2 := Ce h2 rfl d1.1
  have d3 := digE_le h3 rfl d2
  have d4 := Ce h4 rfl d3.1
  have d5 := digsR_at (e := e4) rfl d4 (min x4.toNat 17)
  rw [h5] at d5
  have d6 := blkE_le h6 rfl d5.1
  have d7 := takE_le h7 rfl d6.1
  simp only [readP, h1, h2, h3, h4, h5, h6, h7]
  refine ⟨d1.2, d3.2, ?_, d5.2.1⟩
  rcases d7.2 with h | h
  · rw [h]; rfl
  · simp only [List.length_append, List.length_drop, List.length_replicate, h]
theorem readD_okB {xs : List UInt8} (h : (readD xs).2 = 0) : (readD xs).1.ok := by
  by_cases hg : endR xs.length (readP xs).2.1 (readP xs).2.2 = 0 ∧ (readP xs).1.check = 0
  · rw [readD_ok hg]; exact readP_dok xs
  · rw [readD_bad hg] at h; cases h
structure Pre4 (Q D : DKept) : Prop where
  b : Q.dBlocks <+: D.dBlocks
  e : Q.dCerts <+: D.dCerts
  v : Q.dVotes <+: D.dVotes
  c : Q.dCuts <+: D.dCuts
theorem Pre4.refl (D : DKept) : Pre4 D D := ⟨List.prefix_rfl, List.prefix_rfl, List.prefix_rfl, List.prefix_rfl⟩
theorem Pre4.trans {A B C : DKept} (h : Pre4 A B) (k : Pre4 B C) : Pre4 A C := ⟨h.b.trans k.b, h.e.trans k.e, h.v.trans k.v, h.c.trans k.c⟩
def DKept.num (D : DKept) : Nat := D.dBlocks.length + D.dCerts.length + D.dVotes.length + D.dCuts.length
end Go.Proofs.YtdifpjmfabhpiaaGreat
end

section
namespace Go.Proofs.YtdifpjmfabhpiaaGreat
open Go Hw

def allBs : Nat → List (List Bool)
  | 0 => [[]]
  | n + 1 => (allBs n).flatMap fun l => [true :: l, false :: l]
theorem mem_allBs : ∀ bs : List Bool, bs ∈ allBs bs.length
  | [] => List.mem_singleton.2 rfl
  | b :: bs => by
    rw [List.length_cons, allBs, List.mem_flatMap]
    exact ⟨bs, mem_allBs bs, by cases b <;> simp⟩
def okBits (k : Nat) (bs : List Bool) : Bool := (!bs.getD 0 false || (k == 1 || k == 6)) && ((!bs.getD 1 false || (k == 1 || k == 2)) && ((!bs.getD 2 false || k == 2) && ((!bs.getD 3 false || k == 3) && ((!bs.getD 4 false || k == 4) && ((!bs.getD 5 false || k == 4) && (!bs.getD 6 false || k == 5))))))
theorem fits_all : ((List.range 7).all fun k => k == 0 || (allBs 7).all fun bs => decide (andNotI ((usedN bs 7 : Nat) : Int) (Ao (k : Int)) = 0) == okBits k bs) = true := by kernel_rfl
theorem zero_all : ((allBs 7).all fun bs => decide (((usedN bs 7 : Nat) : Int) = 0) == !(bs.getD 0 false || (bs.getD 1 false || (bs.getD 2 false || (bs.getD 3 false || (bs.getD 4 false || (bs.getD 5 false || bs.getD 6 false))))))) = true := by kernel_rfl
theorem fits_iff {k : Nat} {bs : List Bool} (h0 : k ≠ 0) (h7 : k < 7) (hb : bs.length = 7) : andNotI ((usedN bs 7 : Nat) : Int) (Ao (k : Int)) = 0 ↔ okBits k bs = true := by
  have h := List.all_eq_true.1 fits_all k (List.mem_range.2 h7)
  rw [Bool.or_eq_true] at h
  rcases h with h | h
  · simp at h; exact absurd h h0
  · have h := List.all_eq_true.1 h bs (hb ▸ mem_allBs bs)
    rw [beq_iff_eq] at h
    rw [← h, decide_eq_true_iff]
theorem zero_iff {bs : List Bool} (hb : bs.length = 7) : ((usedN bs 7 : Nat) : Int) = 0 ↔ (!(bs.getD 0 false || (bs.getD 1 false || (bs.getD 2 false || (bs.getD 3 false || (bs.getD 4 false || (bs.getD 5 false || bs.getD 6 false))))))) = true := by
  have h := List.all_eq_true.1 zero_all bs (hb ▸ mem_allBs bs)
  rw [beq_iff_eq] at h
  rw [← h, decide_eq_true_iff]
theorem parts_zero (k : Int) : Ao k = 0 ↔ ¬ (1 ≤ k ∧ k ≤ 6) := by
  by_cases h : 0 ≤ k ∧ k < 7
  · obtain ⟨n, rfl⟩ : ∃ n : Nat, k = n := ⟨k.toNat, by omega⟩
    have hn : n < 7 := by omega
    match n, hn with
    | 0, _ => decide
    | 1, _ => decide
    | 2, _ => decide
    | 3, _ => decide
    | 4, _ => decide
    | 5, _ => decide
    | 6, _ => decide
  · rw [parts_out h]
    simp
    omega
def DMsg.hd (D : DMsg) : Prop := (1 ≤ D.dKind ∧ D.dKind ≤ 6) ∧ D.dHeight.toNat ≤ 4294967295 ∧ (D.dKind = 1 ∨ D.dKind = 6 ∨ D.dHeight.toNat = 0) ∧ (D.dKind = 1 ∨ D.dKind = 2 ∨ D.dHeads.length = 0) ∧ (D.dKind = 2 ∨ D.dWant.length = 0) ∧ (D.dKind = 3 ∨ D.dBlocks.length = 0) ∧ (D.dKind = 4 ∨ D.dVotes.length = 0) ∧ (D.dKind = 4 ∨ D.dCuts.length = 0) ∧ (D.dKind = 5 ∨ D.dCerts.length = 0) ∧
  D.dHeads.length ≤ 32 ∧ D.dWant.length ≤ 32 ∧ D.dBlocks.length ≤ 8 ∧ D.dVotes.length ≤ 20 ∧ D.dCuts.length ≤ 4 ∧ D.dCerts.length ≤ 2 ∧ (D.dKind = 1 ∨ D.dKind = 2 ∨ ¬ (D.dHeight.toNat = 0 ∧ D.dHeads.length = 0 ∧ D.dWant.length = 0 ∧ D.dBlocks.length = 0 ∧ D.dVotes.length = 0 ∧ D.dCuts.length = 0 ∧ D.dCerts.length = 0))
structure DMsg.els (D : DMsg) : Prop where
  b : (D.dBlocks.all fun d => decide (d.check = 0)) = true
  v : (D.dVotes.all fun d => decide (Bt d = 0)) = true
  c : (D.dCuts.all fun d => decide (d.check = 0)) = true
  e : (D.dCerts.all fun d => decide (d.check = 0)) = true
theorem bits_len (D : DMsg) : D.bits.length = 7 := rfl
theorem used_zero (D : DMsg) : D.used = 0 ↔ (D.dHeight.toNat = 0 ∧ D.dHeads.length = 0 ∧ D.dWant.length = 0 ∧ D.dBlocks.length = 0 ∧ D.dVotes.length = 0 ∧ D.dCuts.length = 0 ∧ D.dCerts.length = 0) := by
  rw [DMsg.used, zero_iff (bits_len D)]
  simp only [DMsg.bits, List.getD_cons_zero, List.getD_cons_succ, Bool.not_eq_true', Bool.or_eq_false_iff, Bool.not_eq_false', decide_eq_true_eq, decide_eq_false_iff_not]
  omega
theorem used_fits (D : DMsg) {k : Nat} (h0 : k ≠ 0) (h7 : k < 7) : andNotI D.used (Ao (k : Int)) = 0 ↔ ((k = 1 ∨ k = 6 ∨ D.dHeight.toNat = 0) ∧ (k = 1 ∨ k = 2 ∨ D.dHeads.length = 0) ∧ (k = 2 ∨ D.dWant.length = 0) ∧ (k = 3 ∨ D.dBlocks.length = 0) ∧ (k = 4 ∨ D.dVotes.length = 0) ∧ (k = 4 ∨ D.dCuts.length = 0) ∧ (k = 5 ∨ D.dCerts.length = 0)) := by
  rw [DMsg.used, fits_iff h0 h7 (bits_len D)]
  simp only [okBits, DMsg.bits, List.getD_cons_zero, List.getD_cons_succ, Bool.and_eq_true, Bool.or_eq_true, Bool.not_eq_true', Bool.not_eq_false', decide_eq_true_eq, decide_eq_false_iff_not, beq_iff_eq]
  omega
theorem valid_iff (D : DMsg) : D.check = 0 ↔ D.hd ∧ D.els := by
  have hb : D.check = 0 ↔ ¬ D.bad := ⟨fun h hb => (by rw [Bz hb] at h; cases h), Bo⟩
  rw [hb]
  by_cases hk : 1 ≤ D.dKind ∧ D.dKind ≤ 6
  · obtain ⟨n, hn⟩ : ∃ n : Nat, D.dKind = n := ⟨D.dKind.toNat, by omega⟩
    have hf := used_fits D (k := n) oM oM
    have hz := used_zero D
    have hp : ¬ Ao D.dKind = 0 := fun e => (parts_zero _).1 e hk
    rw [← hn] at hf
    constructor
    · intro h
      have g1 : andNotI D.used (Ao D.dKind) = 0 := Classical.byContradiction fun e => h (.inr (.inr (.inl e)))
      have g2 := hf.1 g1
      have g3 : ¬ (4294967295 : Int) < (D.dHeight.toNat : Int) := fun e => h (.inr (.inl e))
      have g4 : ¬ (32 : Int) < (D.dHeads.length : Int) := fun e => h (.inr (.inr (.inr (.inl e))))
      have g5 : ¬ (32 : Int) < (D.dWant.length : Int) := fun e => h (.inr (.inr (.inr (.inr (.inl e)))))
      have g6 : ¬ (8 : Int) < (D.dBlocks.length : Int) := fun e => h (.inr (.inr (.inr (.inr (.inr (.inl e))))))
      have g7 : ¬ (20 : Int) < (D.dVotes.length : Int) := fun e => h (.inr (.inr (.inr (.inr (.inr (.inr (.inl e)))))))
      have g8 : ¬ (4 : Int) < (D.dCuts.length : Int) := fun e => h (.inr (.inr (.inr (.inr (.inr (.inr (.inr (.inl e))))))))
      have g9 : ¬ (2 : Int) < (D.dCerts.length : Int) := fun e => h (.inr (.inr (.inr (.inr (.inr (.inr (.inr (.inr (.inl e)))))))))
      have g10 : ¬ (¬ D.dKind = 1 ∧ ¬ D.dKind = 2 ∧ D.used = 0) := fun e => h (.inr (.inr (.inr (.inr (.inr (.inr (.inr (.inr (.inr (.inl e))))))))))
      have el : D.els := ⟨Classical.byContradiction fun e => h (.inr (.inr (.inr (.inr (.inr (.inr (.inr (.inr (.inr (.inr (.inl e))))))))))), Classical.byContradiction fun e => h (.inr (.inr (.inr (.inr (.inr (.inr (.inr (.inr (.inr (.inr (.inr (.inl e)))))))))))), Classical.byContradiction fun e => h (.inr (.inr (.inr (.inr (.inr (.inr (.inr (.inr (.inr (.inr (.inr (.inr (.inl e))))))))))))), Classical.byContradiction fun e => h (.inr (.inr (.inr (.inr (.inr (.inr (.inr (.inr (.inr (.inr (.inr (.inr (.inr (e))))))))))))))⟩
      refine ⟨?_, el⟩
      rw [hz] at g10
      clear h el hb hf hz g1
      unfold DMsg.hd
      omega
    · rintro ⟨h, el⟩ hbad
      unfold DMsg.hd at h
      rcases hbad with e | e | e | e | e | e | e | e | e | ⟨e1, e2, e3⟩ | e | e | e | e
      · exact hp e
      · omega
      · exact e (hf.2 oM)
      · omega
      · omega
      · omega
      · omega
      · omega
      · omega
      · have := hz.1 e3
        omega
      · exact e el.b
      · exact e el.v
      · exact e el.c
      · exact e el.e
  · exact ⟨fun h => absurd (.inl ((parts_zero _).2 hk)) h, fun h => absurd h.1.1 hk⟩
section
variable {W : World} {m : Msg} {D E : DMsg}
end

end Go.Proofs.YtdifpjmfabhpiaaGreat
end

section
namespace Go.Proofs.YtdifpjmfabhpiaaGreat
open Go Hw

open Classical in
noncomputable def P1 (k : Int) (x : UInt64) : List UInt8 := if ¬ Bn (Ao k) 1 = 0 then Av x else []
theorem P1_yes {k : Int} {x : UInt64} (h : ¬ Bn (Ao k) 1 = 0) : P1 k x = Av x := if_pos h
theorem P1_no {k : Int} {x : UInt64} (h : Bn (Ao k) 1 = 0) : P1 k x = [] := if_neg (fun e => e h)
theorem mB1_app (D : DMsg) : mB1 D = [Hw.Bq D.dKind] ++ P1 D.dKind D.dHeight := by
  by_cases h : Bn (Ao D.dKind) 1 = 0
  · rw [P1_no h, List.append_nil]; exact if_neg (fun e => e h)
  · rw [P1_yes h]; exact (if_pos h).trans (by simp only [List.append_assoc])
open Classical in
noncomputable def P2 (k : Int) (x : List (List UInt8)) : List UInt8 := if ¬ Bn (Ao k) 2 = 0 then Av (UInt64.ofNat x.length) ++ x.flatten else []
theorem P2_yes {k : Int} {x : List (List UInt8)} (h : ¬ Bn (Ao k) 2 = 0) : P2 k x = Av (UInt64.ofNat x.length) ++ x.flatten := if_pos h
theorem P2_no {k : Int} {x : List (List UInt8)} (h : Bn (Ao k) 2 = 0) : P2 k x = [] := if_neg (fun e => e h)
theorem mB2_app (D : DMsg) : mB2 D = mB1 D ++ P2 D.dKind D.dHeads := by
  by_cases h : Bn (Ao D.dKind) 2 = 0
  · rw [P2_no h, List.append_nil]; exact if_neg (fun e => e h)
  · rw [P2_yes h]; exact (if_pos h).trans (by simp only [List.append_assoc])
open Classical in
noncomputable def P3 (k : Int) (x : List (List UInt8)) : List UInt8 := if ¬ Bn (Ao k) 4 = 0 then Av (UInt64.ofNat x.length) ++ x.flatten else []
theorem P3_yes {k : Int} {x : List (List UInt8)} (h : ¬ Bn (Ao k) 4 = 0) : P3 k x = Av (UInt64.ofNat x.length) ++ x.flatten := if_pos h
theorem P3_no {k : Int} {x : List (List UInt8)} (h : Bn (Ao k) 4 = 0) : P3 k x = [] := if_neg (fun e => e h)
theorem mB3_app (D : DMsg) : mB3 D = mB2 D ++ P3 D.dKind D.dWant := by
  by_cases h : Bn (Ao D.dKind) 4 = 0
  · rw [P3_no h, List.append_nil]; exact if_neg (fun e => e h)
  · rw [P3_yes h]; exact (if_pos h).trans (by simp only [List.append_assoc])
open Classical in
noncomputable def P4 (k : Int) (x : List DB) : List UInt8 := if ¬ Bn (Ao k) 8 = 0 then Av (UInt64.ofNat x.length) ++ Au Bj x else []
theorem P4_yes {k : Int} {x : List DB} (h : ¬ Bn (Ao k) 8 = 0) : P4 k x = Av (UInt64.ofNat x.length) ++ Au Bj x := if_pos h
theorem P4_no {k : Int} {x : List DB} (h : Bn (Ao k) 8 = 0) : P4 k x = [] := if_neg (fun e => e h)
theorem mB4_app (D : DMsg) : mB4 D = mB3 D ++ P4 D.dKind D.dBlocks := by
  by_cases h : Bn (Ao D.dKind) 8 = 0
  · rw [P4_no h, List.append_nil]; exact if_neg (fun e => e h)
  · rw [P4_yes h]; exact (if_pos h).trans (by simp only [List.append_assoc])
open Classical in
noncomputable def P5 (k : Int) (x : List Vote) : List UInt8 := if ¬ Bn (Ao k) 16 = 0 then Av (UInt64.ofNat x.length) ++ Au Bb x else []
theorem P5_yes {k : Int} {x : List Vote} (h : ¬ Bn (Ao k) 16 = 0) : P5 k x = Av (UInt64.ofNat x.length) ++ Au Bb x := if_pos h
theorem P5_no {k : Int} {x : List Vote} (h : Bn (Ao k) 16 = 0) : P5 k x = [] := if_neg (fun e => e h)
theorem mB5_app (D : DMsg) : mB5 D = mB4 D ++ P5 D.dKind D.dVotes := by
  by_cases h : Bn (Ao D.dKind) 16 = 0
  · rw [P5_no h, List.append_nil]; exact if_neg (fun e => e h)
  · rw [P5_yes h]; exact (if_pos h).trans (by simp only [List.append_assoc])
open Classical in
noncomputable def P6 (k : Int) (x : List DCut) : List UInt8 := if ¬ Bn (Ao k) 32 = 0 then Av (UInt64.ofNat x.length) ++ Au cutR x else []
theorem P6_yes {k : Int} {x : List DCut} (h : ¬ Bn (Ao k) 32 = 0) : P6 k x = Av (UInt64.ofNat x.length) ++ Au cutR x := if_pos h
theorem P6_no {k : Int} {x : List DCut} (h : Bn (Ao k) 32 = 0) : P6 k x = [] := if_neg (fun e => e h)
theorem mB6_app (D : DMsg) : mB6 D = mB5 D ++ P6 D.dKind D.dCuts := by
  by_cases h : Bn (Ao D.dKind) 32 = 0
  · rw [P6_no h, List.append_nil]; exact if_neg (fun e => e h)
  · rw [P6_yes h]; exact (if_pos h).trans (by simp only [List.append_assoc])
open Classical in
noncomputable def P7 (k : Int) (x : List DCert) : List UInt8 := if ¬ Bn (Ao k) 64 = 0 then Av (UInt64.ofNat x.length) ++ Au Bm x else []
theorem P7_yes {k : Int} {x : List DCert} (h : ¬ Bn (Ao k) 64 = 0) : P7 k x = Av (UInt64.ofNat x.length) ++ Au Bm x := if_pos h
theorem P7_no {k : Int} {x : List DCert} (h : Bn (Ao k) 64 = 0) : P7 k x = [] := if_neg (fun e => e h)
theorem msgB_app (D : DMsg) : msgB D = mB6 D ++ P7 D.dKind D.dCerts := by
  by_cases h : Bn (Ao D.dKind) 64 = 0
  · rw [P7_no h, List.append_nil]; exact if_neg (fun e => e h)
  · rw [P7_yes h]; exact (if_pos h).trans (by simp only [List.append_assoc])

theorem itR_fwd {D : Type} {f : List UInt8 → D × Int} {g : D → List UInt8} {xs t : List UInt8} {ds : List D} {a : Nat} (hok : ∀ d ∈ ds, f (g d) = (d, 0) ∧ (g d).length ≤ 1000000) (h : xs.drop a = Au g ds ++ t) : ∀ j, j ≤ ds.length → itR f xs j a 0 = some (ds.take j, a + (Au g (ds.take j)).length, 0) ∧ xs.drop (a + (Au g (ds.take j)).length) = Au g (ds.drop j) ++ t
  | 0, _ => ⟨by simp [itR, Au], by simpa [Au] using h⟩
  | j + 1, hj => by
    obtain ⟨h1, h2⟩ := itR_fwd hok h j oM
    have hd : ds[j]? = some ds[j] := List.getElem?_eq_getElem oM
    obtain ⟨ho, hle⟩ := hok ds[j] (List.getElem_mem oM)
    rw [List.drop_eq_getElem_cons (l := ds) (i := j) oM, listB_cons, blkB, List.append_assoc] at h2
    obtain ⟨h3, h4⟩ := blk_fwd (ds := g ds[j]) oM h2
    have hst := itR_step h1 h3 (by rw [Option.getD_some, ho]) rfl
    rw [Option.getD_some, ho] at hst
    have e : a + (Au g (ds.take (j + 1))).length = a + (Au g (ds.take j)).length + szN (g ds[j]).length + (g ds[j]).length := by
      rw [listB_step g hd, List.length_append, blkB_length oM]; omega
    rw [e]
    refine ⟨?_, h4⟩
    rw [hst, List.take_succ_eq_append_getElem oM]
theorem listR_fwd {D : Type} {f : List UInt8 → D × Int} {g : D → List UInt8} {xs t : List UInt8} {ds : List D} {a M : Nat} (hok : ∀ d ∈ ds, f (g d) = (d, 0) ∧ (g d).length ≤ 1000000) (hM : ds.length ≤ M) (hb : M ≤ 1000) (h : xs.drop a = (Av (UInt64.ofNat ds.length) ++ Au g ds) ++ t) : listR f xs M a 0 = some (ds, a + (Av (UInt64.ofNat ds.length) ++ Au g ds).length, 0) := by
  rw [List.append_assoc] at h
  obtain ⟨g2, h2⟩ := num_fwd h
  have hx : (UInt64.ofNat ds.length).toNat = ds.length := A2 oM
  rw [hx] at g2 h2
  obtain ⟨g3, h3⟩ := itR_fwd hok h2 ds.length (Nat.le_refl _)
  rw [List.take_length] at g3
  unfold listR
  rw [g2]
  simp only [hx]
  rw [if_pos ⟨trivial, hM⟩, g3, List.length_append, As, hx]
  congr 2
  rw [Nat.add_assoc]
theorem dgR_fwd {xs t : List UInt8} {ls : List (List UInt8)} {a : Nat} (hls : ∀ l ∈ ls, l.length = 32) (h : xs.drop a = ls.flatten ++ t) : ∀ j, j ≤ ls.length → dgR xs j a 0 = some (ls.take j, a + 32 * j, 0) ∧ xs.drop (a + 32 * j) = (ls.drop j).flatten ++ t
  | 0, _ => ⟨rfl, by simpa using h⟩
  | j + 1, hj => by
    obtain ⟨h1, h2⟩ := dgR_fwd hls h j oM
    rw [List.drop_eq_getElem_cons (l := ls) (i := j) oM, List.flatten_cons, List.append_assoc] at h2
    obtain ⟨h3, h4⟩ := dig_fwd h2 (hls _ (List.getElem_mem oM))
    refine ⟨?_, by rw [show a + 32 * (j + 1) = a + 32 * j + 32 by omega]; exact h4⟩
    rw [dgR_step h1 h3 rfl, List.take_succ_eq_append_getElem oM]
    rfl
theorem dlistR_fwd {xs t : List UInt8} {ls : List (List UInt8)} {a M : Nat} (hls : ∀ l ∈ ls, l.length = 32) (hM : ls.length ≤ M) (hb : M ≤ 1000) (h : xs.drop a = (Av (UInt64.ofNat ls.length) ++ ls.flatten) ++ t) : dlistR xs M a 0 = some (ls, a + (Av (UInt64.ofNat ls.length) ++ ls.flatten).length, 0) := by
  rw [List.append_assoc] at h
  obtain ⟨g2, h2⟩ := num_fwd h
  have hx : (UInt64.ofNat ls.length).toNat = ls.length := A2 oM
  rw [hx] at g2 h2
  obtain ⟨g3, h3⟩ := dgR_fwd hls h2 ls.length (Nat.le_refl _)
  rw [List.take_length] at g3
  unfold dlistR
  rw [g2]
  simp only [hx]
  rw [if_pos ⟨trivial, hM⟩, g3, List.length_append, As, hx, flat32 hls]
  congr 2
  rw [Nat.add_assoc, Nat.mul_comm]
theorem stage_fwd {r : RS} {b : Int} {F : DMsg → Nat → Int → RS} {D D2 : DMsg} {a a2 : Nat} (h : r = some (D, a, 0)) (h1 : ¬ Bn (Ao D.dKind) b = 0 → F D a 0 = some (D2, a2, 0)) (h0 : Bn (Ao D.dKind) b = 0 → D2 = D ∧ a2 = a) : stageO r b F = some (D2, a2, 0) := by
  by_cases hb : Bn (Ao D.dKind) b = 0
  · obtain ⟨rfl, rfl⟩ := h0 hb
    exact Bw h hb
  · rw [Ax h hb]; exact h1 hb
theorem byte_kind {k : Int} (h0 : 0 ≤ k) (h7 : k < 256) : ((Hw.Bq k).toUInt64.toNat : Int) = k := by
  rw [byteOf_small h0 h7]; omega
theorem word_fwd {c : UInt8} {t : List UInt8} : wordR (c :: t) 0 0 = (c.toUInt64, 1, 0) := by
  unfold wordR
  rw [if_neg sP, if_neg sP]
  rfl
theorem kind_has {k : Int} (h : 1 ≤ k ∧ k ≤ 6) : (Bn (Ao k) 1 = 0 ↔ ¬ (k = 1 ∨ k = 6)) ∧ (Bn (Ao k) 2 = 0 ↔ ¬ (k = 1 ∨ k = 2)) ∧ (Bn (Ao k) 4 = 0 ↔ ¬ k = 2) ∧ (Bn (Ao k) 8 = 0 ↔ ¬ k = 3) ∧ (Bn (Ao k) 16 = 0 ↔ ¬ k = 4) ∧ (Bn (Ao k) 32 = 0 ↔ ¬ k = 4) ∧ (Bn (Ao k) 64 = 0 ↔ ¬ k = 5) := by
  obtain ⟨n, rfl⟩ : ∃ n : Nat, k = n := ⟨k.toNat, by omega⟩
  have hn : n = 1 ∨ n = 2 ∨ n = 3 ∨ n = 4 ∨ n = 5 ∨ n = 6 := by omega
  rcases hn with rfl | rfl | rfl | rfl | rfl | rfl <;> decide
theorem len_app (x y : List UInt8) : (x ++ y).length = x.length + y.length := List.length_append
theorem drop_of {X a b : List UInt8} (h : X = a ++ b) : X.drop a.length = b := by rw [h, List.drop_left]
theorem rS_fwd {D : DMsg} (hc : D.check = 0) (o : D.oks) (t : List UInt8) : rS7 (msgB D ++ t) = some (D, (msgB D).length, 0) := by
  obtain ⟨hd, he⟩ := (valid_iff D).1 hc
  obtain ⟨hk, g1, g2, g3, g4, g5, g6, g7, g8, g9, g10, g11, g12, g13, g14, g15⟩ := hd
  obtain ⟨k1, k2, k3, k4, k5, k6, k7⟩ := kind_has hk
  have hz := msg_sizes hc
  obtain ⟨X, hX⟩ : ∃ X, msgB D ++ t = X := ⟨_, rfl⟩
  have e6 : X = mB6 D ++ (P7 D.dKind D.dCerts ++ t) := by rw [← hX, msgB_app, List.append_assoc]
  have e5 : X = mB5 D ++ (P6 D.dKind D.dCuts ++ (P7 D.dKind D.dCerts ++ t)) := by rw [e6, mB6_app, List.append_assoc]
  have e4 : X = mB4 D ++ (P5 D.dKind D.dVotes ++ (P6 D.dKind D.dCuts ++ (P7 D.dKind D.dCerts ++ t))) := by rw [e5, mB5_app, List.append_assoc]
  have e3 : X = mB3 D ++ (P4 D.dKind D.dBlocks ++ (P5 D.dKind D.dVotes ++ (P6 D.dKind D.dCuts ++ (P7 D.dKind D.dCerts ++ t)))) := by rw [e4, mB4_app, List.append_assoc]
  have e2 : X = mB2 D ++ (P3 D.dKind D.dWant ++ (P4 D.dKind D.dBlocks ++ (P5 D.dKind D.dVotes ++ (P6 D.dKind D.dCuts ++ (P7 D.dKind D.dCerts ++ t))))) := by rw [e3, mB3_app, List.append_assoc]
  have e1 : X = mB1 D ++ (P2 D.dKind D.dHeads ++ (P3 D.dKind D.dWant ++ (P4 D.dKind D.dBlocks ++ (P5 D.dKind D.dVotes ++ (P6 D.dKind D.dCuts ++ (P7 D.dKind D.dCerts ++ t)))))) := by rw [e2, mB2_app, List.append_assoc]
  have e0 : X = [Hw.Bq D.dKind] ++ (P1 D.dKind D.dHeight ++ (P2 D.dKind D.dHeads ++ (P3 D.dKind D.dWant ++ (P4 D.dKind D.dBlocks ++ (P5 D.dKind D.dVotes ++ (P6 D.dKind D.dCuts ++ (P7 D.dKind D.dCerts ++ t))))))) := by rw [e1, mB1_app, List.append_assoc]
  rw [hX]
  have d0 : X.drop 1 = _ := drop_of e0
  have d1 := drop_of e1
  have d2 := drop_of e2
  have d3 := drop_of e3
  have d4 := drop_of e4
  have d5 := drop_of e5
  have d6 := drop_of e6
  have w : wordR X 0 0 = ((Hw.Bq D.dKind).toUInt64, 1, 0) := by rw [e0, List.singleton_append]; exact word_fwd
  clear e0 e1 e2 e3 e4 e5 e6 hX
  have s0 : rS0 X = some (dz D.dKind 0, 1, 0) := by
    unfold rS0
    rw [w]
    dsimp only
    rw [byte_kind oM oM]
    exact if_neg fun e => (parts_zero _).1 e hk
  have s1 : rS1 X = some (⟨D.dKind, D.dHeight, [], [], [], [], [], []⟩, (mB1 D).length, 0) := by
    refine stage_fwd s0 (fun hb => ?_) (fun hb => ?_)
    · have hb : ¬ Bn (Ao D.dKind) 1 = 0 := hb
      rw [P1_yes hb] at d0
      have := (num_fwd d0).1
      show some (({ dz D.dKind 0 with dHeight := (A7 X 1 0).1 } : DMsg), (A7 X 1 0).2) = _
      rw [this, mB1_app, P1_yes hb, List.length_append, As, List.length_singleton]
      rfl
    · have hb : Bn (Ao D.dKind) 1 = 0 := hb
      have h0 : D.dHeight = 0 := UInt64.toNat_inj.1 (by have := k1.1 hb; show D.dHeight.toNat = 0; omega)
      refine ⟨by rw [h0]; rfl, by rw [mB1_app, P1_no hb]; rfl⟩
  have s2 : rS2 X = some (⟨D.dKind, D.dHeight, D.dHeads, [], [], [], [], []⟩, (mB2 D).length, 0) := by
    refine stage_fwd s1 (fun hb => ?_) (fun hb => ?_)
    · have hb : ¬ Bn (Ao D.dKind) 2 = 0 := hb
      rw [P2_yes hb] at d1
      have := (dlistR_fwd (M := 32) o.h oM dE) d1
      simp only [this, mB2_app, P2_yes hb, Option.map_some]
      rw [len_app (mB1 D)]
    · have hb : Bn (Ao D.dKind) 2 = 0 := hb
      have h0 : D.dHeads = [] := List.eq_nil_of_length_eq_zero (by have := k2.1 hb; omega)
      refine ⟨by rw [h0], by rw [mB2_app, P2_no hb, List.append_nil]⟩
  have s3 : rS3 X = some (⟨D.dKind, D.dHeight, D.dHeads, D.dWant, [], [], [], []⟩, (mB3 D).length, 0) := by
    refine stage_fwd s2 (fun hb => ?_) (fun hb => ?_)
    · have hb : ¬ Bn (Ao D.dKind) 4 = 0 := hb
      rw [P3_yes hb] at d2
      have := (dlistR_fwd (M := 32) o.w oM dE) d2
      simp only [this, mB3_app, P3_yes hb, Option.map_some]
      rw [len_app (mB2 D)]
    · have hb : Bn (Ao D.dKind) 4 = 0 := hb
      have h0 : D.dWant = [] := List.eq_nil_of_length_eq_zero (by have := k3.1 hb; omega)
      refine ⟨by rw [h0], by rw [mB3_app, P3_no hb, List.append_nil]⟩
  have s4 : rS4 X = some (⟨D.dKind, D.dHeight, D.dHeads, D.dWant, D.dBlocks, [], [], []⟩, (mB4 D).length, 0) := by
    refine stage_fwd s3 (fun hb => ?_) (fun hb => ?_)
    · have hb : ¬ Bn (Ao D.dKind) 8 = 0 := hb
      rw [P4_yes hb] at d3
      have := (listR_fwd (M := 8) (f := readD) (g := Bj) (fun d hd => ⟨by rw [show Bj d = d.bytes from if_pos (hz.gb d hd)]; exact readD_bytes (o.b d hd) (hz.gb d hd), by have := blockBy_tight (o.b d hd); omega⟩) oM dE) d3
      simp only [this, mB4_app, P4_yes hb, Option.map_some]
      rw [len_app (mB3 D)]
    · have hb : Bn (Ao D.dKind) 8 = 0 := hb
      have h0 : D.dBlocks = [] := List.eq_nil_of_length_eq_zero (by have := k4.1 hb; omega)
      refine ⟨by rw [h0], by rw [mB4_app, P4_no hb, List.append_nil]⟩
  have s5 : rS5 X = some (⟨D.dKind, D.dHeight, D.dHeads, D.dWant, D.dBlocks, D.dVotes, [], []⟩, (mB5 D).length, 0) := by
    refine stage_fwd s4 (fun hb => ?_) (fun hb => ?_)
    · have hb : ¬ Bn (Ao D.dKind) 16 = 0 := hb
      rw [P5_yes hb] at d4
      have := (listR_fwd (M := 20) (f := Bs) (g := Bb) (fun d hd => ⟨voteRd_bytes (o.v d hd) (hz.gv d hd), by have := voteBy_le (o.v d hd); omega⟩) oM dE) d4
      simp only [readVL_is, this, mB5_app, P5_yes hb, Option.map_some]
      rw [len_app (mB4 D)]
    · have hb : Bn (Ao D.dKind) 16 = 0 := hb
      have h0 : D.dVotes = [] := List.eq_nil_of_length_eq_zero (by have := k5.1 hb; omega)
      refine ⟨by rw [h0], by rw [mB5_app, P5_no hb, List.append_nil]⟩
  have s6 : rS6 X = some (⟨D.dKind, D.dHeight, D.dHeads, D.dWant, D.dBlocks, D.dVotes, D.dCuts, []⟩, (mB6 D).length, 0) := by
    refine stage_fwd s5 (fun hb => ?_) (fun hb => ?_)
    · have hb : ¬ Bn (Ao D.dKind) 32 = 0 := hb
      rw [P6_yes hb] at d5
      have := (listR_fwd (M := 4) (f := B5) (g := cutR) (fun d hd => ⟨by rw [show cutR d = d.bytes from if_pos (hz.gc d hd)]; exact cutRd_bytes (o.c d hd).1 (o.c d hd).2 (hz.gc d hd), by have := cutR_tight (o.c d hd); omega⟩) oM dE) d5
      simp only [this, mB6_app, P6_yes hb, Option.map_some]
      rw [len_app (mB5 D)]
    · have hb : Bn (Ao D.dKind) 32 = 0 := hb
      have h0 : D.dCuts = [] := List.eq_nil_of_length_eq_zero (by have := k6.1 hb; omega)
      refine ⟨by rw [h0], by rw [mB6_app, P6_no hb, List.append_nil]⟩
  have s7 : rS7 X = some (⟨D.dKind, D.dHeight, D.dHeads, D.dWant, D.dBlocks, D.dVotes, D.dCuts, D.dCerts⟩, (msgB D).length, 0) := by
    refine stage_fwd s6 (fun hb => ?_) (fun hb => ?_)
    · have hb : ¬ Bn (Ao D.dKind) 64 = 0 := hb
      rw [P7_yes hb] at d6
      have := (listR_fwd (M := 2) (f := Bv) (g := Bm) (fun d hd => ⟨by rw [show Bm d = d.bytes from if_pos (hz.ge d hd)]; exact certRd_bytes (o.e d hd).1.1 (o.e d hd).1.2 (o.e d hd).2 (hz.ge d hd), by have := certBy_tight (o.e d hd); omega⟩) oM dE) d6
      simp only [this, msgB_app, P7_yes hb, Option.map_some]
      rw [len_app (mB6 D)]
    · have hb : Bn (Ao D.dKind) 64 = 0 := hb
      have h0 : D.dCerts = [] := List.eq_nil_of_length_eq_zero (by have := k7.1 hb; omega)
      refine ⟨by rw [h0], by rw [msgB_app, P7_no hb, List.append_nil]⟩
  exact s7

theorem itR_bwd {D : Type} {f : List UInt8 → D × Int} {g : D → List UInt8} {Q : D → Prop} (hf : ∀ ys, (f ys).2 = 0 → g (f ys).1 = ys ∧ Q (f ys).1) {xs : List UInt8} {a : Nat} {e : Int} : ∀ (k : Nat) (vs : List D) (a2 : Nat), itR f xs k a e = some (vs, a2, 0) → e = 0 ∧ vs.length = k ∧ xs.drop a = Au g vs ++ xs.drop a2 ∧ ∀ v ∈ vs, Q v
  | 0, vs, a2, h => by
    obtain ⟨rfl, rfl, rfl⟩ : [] = vs ∧ a = a2 ∧ e = 0 := by simpa [itR] using h
    exact ⟨rfl, rfl, rfl, fun v hv => (by cases hv)⟩
  | k + 1, vs, a2, h => by
    rw [itR] at h
    obtain ⟨r, hr, h2⟩ := Option.bind_eq_some_iff.1 h
    obtain ⟨us, b, eb⟩ := r
    simp only at h2
    split at h2
    · rename_i h3
      obtain ⟨h3, h4⟩ := h3
      obtain ⟨o, q, hb⟩ : ∃ o q, blkR xs b eb = (o, q) := ⟨_, _, rfl⟩
      obtain ⟨c, ec⟩ := q
      rw [hb] at h2 h3 h4
      simp only at h2 h3 h4
      subst h4
      obtain ⟨z, ic, ds, rfl, hd⟩ := blk_bwd hb
      subst z
      simp only [Option.getD_some] at h2 h3
      obtain ⟨rfl, rfl⟩ : us ++ [(f ds).1] = vs ∧ c = a2 := by simpa using h2
      obtain ⟨g1, g2, g3, g4⟩ := itR_bwd hf k us b hr
      obtain ⟨v2, v3⟩ := hf ds h3
      refine ⟨g1, by rw [List.length_append, g2]; rfl, ?_, fun v hv => ?_⟩
      · rw [g3, hd]
        have : Au g (us ++ [(f ds).1]) = Au g us ++ blkB ds := by simp [Au, v2]
        rw [this, blkB]
        simp only [List.append_assoc]
      · rcases List.mem_append.1 hv with hv | hv
        · exact g4 v hv
        · rw [List.mem_singleton.1 hv]; exact v3
    · cases h2
theorem listR_bwd {D : Type} {f : List UInt8 → D × Int} {g : D → List UInt8} {Q : D → Prop} (hf : ∀ ys, (f ys).2 = 0 → g (f ys).1 = ys ∧ Q (f ys).1) {xs : List UInt8} {a M : Nat} {e : Int} {vs : List D} {a2 : Nat} (h : listR f xs M a e = some (vs, a2, 0)) : e = 0 ∧ xs.drop a = (Av (UInt64.ofNat vs.length) ++ Au g vs) ++ xs.drop a2 ∧ ∀ v ∈ vs, Q v := by
  unfold listR at h
  obtain ⟨x, p, h1⟩ : ∃ x p, A7 xs a e = (x, p) := ⟨_, _, rfl⟩
  obtain ⟨a1, e1⟩ := p
  rw [h1] at h
  simp only at h
  split at h
  case isFalse => cases h
  rename_i hk
  obtain ⟨hk1, _⟩ := hk
  subst hk1
  obtain ⟨_, g2, g3, g4⟩ := itR_bwd hf _ _ _ h
  obtain ⟨z, _, _, k2⟩ := num_bwd h1
  exact ⟨z, by rw [k2, g3, g2, UInt64.ofNat_toNat, List.append_assoc], g4⟩
theorem dgR_bwd {xs : List UInt8} {a : Nat} {e : Int} : ∀ (k : Nat) (vs : List (List UInt8)) (a2 : Nat), dgR xs k a e = some (vs, a2, 0) → e = 0 ∧ vs.length = k ∧ xs.drop a = vs.flatten ++ xs.drop a2 ∧ ∀ v ∈ vs, v.length = 32
  | 0, vs, a2, h => by
    obtain ⟨rfl, rfl, rfl⟩ : [] = vs ∧ a = a2 ∧ e = 0 := by simpa [dgR] using h
    exact ⟨rfl, rfl, rfl, fun v hv => (by cases hv)⟩
  | k + 1, vs, a2, h => by
    rw [dgR] at h
    obtain ⟨r, hr, h2⟩ := Option.bind_eq_some_iff.1 h
    obtain ⟨us, b, eb⟩ := r
    simp only at h2
    split at h2
    · rename_i h3
      obtain ⟨d, q, hb⟩ : ∃ d q, digR xs b eb = (d, q) := ⟨_, _, rfl⟩
      obtain ⟨c, ec⟩ := q
      rw [hb] at h2 h3
      simp only at h2 h3
      subst h3
      obtain ⟨z, ic, il, hd⟩ := dig_bwd hb
      subst z
      obtain ⟨rfl, rfl⟩ : us ++ [d] = vs ∧ c = a2 := by simpa using h2
      obtain ⟨g1, g2, g3, g4⟩ := dgR_bwd k us b hr
      have hl := (digR_at xs b 0 oM).2
      rw [hb] at hl
      refine ⟨g1, by rw [List.length_append, g2]; rfl, ?_, fun v hv => ?_⟩
      · rw [g3, hd, List.flatten_append]
        simp
      · rcases List.mem_append.1 hv with hv | hv
        · exact g4 v hv
        · rw [List.mem_singleton.1 hv]; exact hl
    · cases h2
theorem dlistR_bwd {xs : List UInt8} {a M : Nat} {e : Int} {vs : List (List UInt8)} {a2 : Nat} (h : dlistR xs M a e = some (vs, a2, 0)) : e = 0 ∧ xs.drop a = (Av (UInt64.ofNat vs.length) ++ vs.flatten) ++ xs.drop a2 ∧ ∀ v ∈ vs, v.length = 32 := by
  unfold dlistR at h
  obtain ⟨x, p, h1⟩ : ∃ x p, A7 xs a e = (x, p) := ⟨_, _, rfl⟩
  obtain ⟨a1, e1⟩ := p
  rw [h1] at h
  simp only at h
  split at h
  case isFalse => cases h
  rename_i hk
  obtain ⟨hk1, _⟩ := hk
  subst hk1
  obtain ⟨_, g2, g3, g4⟩ := dgR_bwd _ _ _ h
  obtain ⟨z, _, _, k2⟩ := num_bwd h1
  exact ⟨z, by rw [k2, g3, g2, UInt64.ofNat_toNat, List.append_assoc], g4⟩
theorem stage_bwd {r : RS} {b : Int} {F : DMsg → Nat → Int → RS} {D : DMsg} {a : Nat} (h : stageO r b F = some (D, a, 0)) : ∃ D1 a1 e1, r = some (D1, a1, e1) ∧ ((Bn (Ao D1.dKind) b = 0 ∧ D = D1 ∧ a = a1 ∧ e1 = 0) ∨ (¬ Bn (Ao D1.dKind) b = 0 ∧ F D1 a1 e1 = some (D, a, 0))) := by
  unfold stageO at h
  obtain ⟨p, h1, h2⟩ := Option.bind_eq_some_iff.1 h
  obtain ⟨D1, a1, e1⟩ := p
  refine ⟨D1, a1, e1, h1, ?_⟩
  by_cases hb : Bn (Ao D1.dKind) b = 0
  · rw [if_neg (fun e => e hb)] at h2
    cases h2
    exact .inl ⟨hb, rfl, rfl, rfl⟩
  · rw [if_pos hb] at h2
    exact .inr ⟨hb, h2⟩
theorem map_some' {α : Type} {o : Option (α × Nat × Int)} {g : α → DMsg} {D : DMsg} {a : Nat} {e : Int} (h : o.map (fun r => (g r.1, r.2)) = some (D, a, e)) : ∃ x, o = some (x, a, e) ∧ D = g x := by
  obtain ⟨r, h1, h2⟩ := Option.map_eq_some_iff.1 h
  obtain ⟨x, b, c⟩ := r
  cases h2
  exact ⟨x, h1, rfl⟩

theorem bwd2 {X : List UInt8} {D : DMsg} {a : Nat} (h : rS2 X = some (D, a, 0)) : ∃ D1 a1, rS1 X = some (D1, a1, 0) ∧ D.dKind = D1.dKind ∧ D = { D1 with dHeads := D.dHeads } ∧ X.drop a1 = P2 D.dKind D.dHeads ++ X.drop a ∧ (¬ Bn (Ao D.dKind) 2 = 0 → ∀ l ∈ D.dHeads, l.length = 32) := by
  obtain ⟨D1, a1, e1, h1, h2⟩ := stage_bwd h
  rcases h2 with ⟨hb, rfl, rfl, rfl⟩ | ⟨hb, h2⟩
  · exact ⟨D, a, h1, rfl, rfl, by rw [P2_no hb]; rfl, fun e => absurd hb e⟩
  · obtain ⟨vs, hr, rfl⟩ := map_some' (g := fun x => { D1 with dHeads := x }) h2
    obtain ⟨rfl, g2, g3⟩ := dlistR_bwd hr
    exact ⟨D1, a1, h1, rfl, rfl, by rw [g2, P2_yes hb], fun _ => g3⟩

theorem bwd3 {X : List UInt8} {D : DMsg} {a : Nat} (h : rS3 X = some (D, a, 0)) : ∃ D1 a1, rS2 X = some (D1, a1, 0) ∧ D.dKind = D1.dKind ∧ D = { D1 with dWant := D.dWant } ∧ X.drop a1 = P3 D.dKind D.dWant ++ X.drop a ∧ (¬ Bn (Ao D.dKind) 4 = 0 → ∀ l ∈ D.dWant, l.length = 32) := by
  obtain ⟨D1, a1, e1, h1, h2⟩ := stage_bwd h
  rcases h2 with ⟨hb, rfl, rfl, rfl⟩ | ⟨hb, h2⟩
  · exact ⟨D, a, h1, rfl, rfl, by rw [P3_no hb]; rfl, fun e => absurd hb e⟩
  · obtain ⟨vs, hr, rfl⟩ := map_some' (g := fun x => { D1 with dWant := x }) h2
    obtain ⟨rfl, g2, g3⟩ := dlistR_bwd hr
    exact ⟨D1, a1, h1, rfl, rfl, by rw [g2, P3_yes hb], fun _ => g3⟩

theorem bwd4 {X : List UInt8} {D : DMsg} {a : Nat} (h : rS4 X = some (D, a, 0)) : ∃ D1 a1, rS3 X = some (D1, a1, 0) ∧ D.dKind = D1.dKind ∧ D = { D1 with dBlocks := D.dBlocks } ∧ X.drop a1 = P4 D.dKind D.dBlocks ++ X.drop a ∧ (¬ Bn (Ao D.dKind) 8 = 0 → ∀ l ∈ D.dBlocks, l.ok) := by
  obtain ⟨D1, a1, e1, h1, h2⟩ := stage_bwd h
  rcases h2 with ⟨hb, rfl, rfl, rfl⟩ | ⟨hb, h2⟩
  · exact ⟨D, a, h1, rfl, rfl, by rw [P4_no hb]; rfl, fun e => absurd hb e⟩
  · obtain ⟨vs, hr, rfl⟩ := map_some' (g := fun x => { D1 with dBlocks := x }) h2
    obtain ⟨rfl, g2, g3⟩ := listR_bwd (g := Bj) (Q := fun d => d.ok) (fun ys hy => ⟨by obtain ⟨c1, c2⟩ := readD_only hy; exact (if_pos c1).trans c2, readD_okB hy⟩) hr
    exact ⟨D1, a1, h1, rfl, rfl, by rw [g2, P4_yes hb], fun _ => g3⟩

theorem bwd5 {X : List UInt8} {D : DMsg} {a : Nat} (h : rS5 X = some (D, a, 0)) : ∃ D1 a1, rS4 X = some (D1, a1, 0) ∧ D.dKind = D1.dKind ∧ D = { D1 with dVotes := D.dVotes } ∧ X.drop a1 = P5 D.dKind D.dVotes ++ X.drop a ∧ (¬ Bn (Ao D.dKind) 16 = 0 → ∀ l ∈ D.dVotes, l.ok) := by
  obtain ⟨D1, a1, e1, h1, h2⟩ := stage_bwd h
  rcases h2 with ⟨hb, rfl, rfl, rfl⟩ | ⟨hb, h2⟩
  · exact ⟨D, a, h1, rfl, rfl, by rw [P5_no hb]; rfl, fun e => absurd hb e⟩
  · obtain ⟨vs, hr, rfl⟩ := map_some' (g := fun x => { D1 with dVotes := x }) h2
    obtain ⟨rfl, g2, g3⟩ := listR_bwd (g := Bb) (Q := fun d => d.ok) (fun ys hy => ⟨(voteRd_only hy).2.1, (voteRd_only hy).2.2⟩) (by rw [← readVL_is]; exact hr)
    exact ⟨D1, a1, h1, rfl, rfl, by rw [g2, P5_yes hb], fun _ => g3⟩

theorem bwd6 {X : List UInt8} {D : DMsg} {a : Nat} (h : rS6 X = some (D, a, 0)) : ∃ D1 a1, rS5 X = some (D1, a1, 0) ∧ D.dKind = D1.dKind ∧ D = { D1 with dCuts := D.dCuts } ∧ X.drop a1 = P6 D.dKind D.dCuts ++ X.drop a ∧ (¬ Bn (Ao D.dKind) 32 = 0 → ∀ l ∈ D.dCuts, l.dPrev.length = 32 ∧ ∀ x ∈ l.dHeads, x.length = 32) := by
  obtain ⟨D1, a1, e1, h1, h2⟩ := stage_bwd h
  rcases h2 with ⟨hb, rfl, rfl, rfl⟩ | ⟨hb, h2⟩
  · exact ⟨D, a, h1, rfl, rfl, by rw [P6_no hb]; rfl, fun e => absurd hb e⟩
  · obtain ⟨vs, hr, rfl⟩ := map_some' (g := fun x => { D1 with dCuts := x }) h2
    obtain ⟨rfl, g2, g3⟩ := listR_bwd (g := cutR) (Q := fun d => d.dPrev.length = 32 ∧ ∀ l ∈ d.dHeads, l.length = 32) (fun ys hy => ⟨by obtain ⟨c1, c2, _⟩ := cutRd_only hy; exact (if_pos c1).trans c2, (cutRd_only hy).2.2⟩) hr
    exact ⟨D1, a1, h1, rfl, rfl, by rw [g2, P6_yes hb], fun _ => g3⟩

theorem bwd7 {X : List UInt8} {D : DMsg} {a : Nat} (h : rS7 X = some (D, a, 0)) : ∃ D1 a1, rS6 X = some (D1, a1, 0) ∧ D.dKind = D1.dKind ∧ D = { D1 with dCerts := D.dCerts } ∧ X.drop a1 = P7 D.dKind D.dCerts ++ X.drop a ∧ (¬ Bn (Ao D.dKind) 64 = 0 → ∀ l ∈ D.dCerts, (l.dCut.dPrev.length = 32 ∧ ∀ x ∈ l.dCut.dHeads, x.length = 32) ∧ ∀ v ∈ l.dVotes, v.ok) := by
  obtain ⟨D1, a1, e1, h1, h2⟩ := stage_bwd h
  rcases h2 with ⟨hb, rfl, rfl, rfl⟩ | ⟨hb, h2⟩
  · exact ⟨D, a, h1, rfl, rfl, by rw [P7_no hb]; rfl, fun e => absurd hb e⟩
  · obtain ⟨vs, hr, rfl⟩ := map_some' (g := fun x => { D1 with dCerts := x }) h2
    obtain ⟨rfl, g2, g3⟩ := listR_bwd (g := Bm) (Q := fun d => (d.dCut.dPrev.length = 32 ∧ ∀ l ∈ d.dCut.dHeads, l.length = 32) ∧ ∀ v ∈ d.dVotes, v.ok) (fun ys hy => ⟨by obtain ⟨c1, c2, _⟩ := certRd_only hy; exact (if_pos c1).trans c2, by obtain ⟨_, _, c⟩ := certRd_only hy; exact ⟨⟨c.prev, c.heads⟩, c.votes⟩⟩) hr
    exact ⟨D1, a1, h1, rfl, rfl, by rw [g2, P7_yes hb], fun _ => g3⟩

theorem bwd1 {X : List UInt8} {D : DMsg} {a : Nat} (h : rS1 X = some (D, a, 0)) : ∃ D1 a1, rS0 X = some (D1, a1, 0) ∧ D.dKind = D1.dKind ∧ D = { D1 with dHeight := D.dHeight } ∧ X.drop a1 = P1 D.dKind D.dHeight ++ X.drop a := by
  obtain ⟨D1, a1, e1, h1, h2⟩ := stage_bwd h
  rcases h2 with ⟨hb, rfl, rfl, rfl⟩ | ⟨hb, h2⟩
  · exact ⟨D, a, h1, rfl, rfl, by rw [P1_no hb]; rfl⟩
  · obtain ⟨x, p, hn⟩ : ∃ x p, A7 X a1 e1 = (x, p) := ⟨_, _, rfl⟩
    obtain ⟨a2, e2⟩ := p
    rw [hn] at h2
    cases h2
    obtain ⟨rfl, _, _, g⟩ := num_bwd hn
    exact ⟨D1, a1, h1, rfl, rfl, by rw [g, P1_yes hb]⟩
theorem bwd0 {X : List UInt8} {D : DMsg} {a : Nat} (h : rS0 X = some (D, a, 0)) : X = [Hw.Bq D.dKind] ++ X.drop a := by
  unfold rS0 at h
  obtain ⟨x, p, hw⟩ : ∃ x p, wordR X 0 0 = (x, p) := ⟨_, _, rfl⟩
  obtain ⟨a2, e2⟩ := p
  rw [hw] at h
  simp only at h
  split at h
  · cases h
  · cases h
    unfold wordR at hw
    rw [if_neg sP] at hw
    split at hw
    · cases hw
    · rename_i hl
      cases hw
      cases X with
      | nil => simp at hl
      | cons c t =>
        show c :: t = [Hw.Bq ((c.toUInt64.toNat : Nat) : Int)] ++ t
        have e : Hw.Bq ((c.toUInt64.toNat : Nat) : Int) = c := by
          apply UInt8.toNat_inj.1
          simp only [Hw.Bq]
          rw [UInt8.toNat_toUInt64, UInt8.toNat_ofNat']
          have := c.toNat_lt
          omega
        rw [e]; rfl
theorem rS_bwd {X : List UInt8} {D : DMsg} {a : Nat} (h : rS7 X = some (D, a, 0)) (hl : X.length ≤ a) (hc : D.check = 0) : msgB D = X ∧ D.oks := by
  obtain ⟨hd, _⟩ := (valid_iff D).1 hc
  obtain ⟨hk, g1, g2, g3, g4, g5, g6, g7, g8, g9, g10, g11, g12, g13, g14, g15⟩ := hd
  obtain ⟨k1, k2, k3, k4, k5, k6, k7⟩ := kind_has hk
  have n2 : Bn (Ao D.dKind) 2 = 0 → D.dHeads = [] := fun e => List.eq_nil_of_length_eq_zero (by have := k2.1 e; omega)
  have n3 : Bn (Ao D.dKind) 4 = 0 → D.dWant = [] := fun e => List.eq_nil_of_length_eq_zero (by have := k3.1 e; omega)
  have n4 : Bn (Ao D.dKind) 8 = 0 → D.dBlocks = [] := fun e => List.eq_nil_of_length_eq_zero (by have := k4.1 e; omega)
  have n5 : Bn (Ao D.dKind) 16 = 0 → D.dVotes = [] := fun e => List.eq_nil_of_length_eq_zero (by have := k5.1 e; omega)
  have n6 : Bn (Ao D.dKind) 32 = 0 → D.dCuts = [] := fun e => List.eq_nil_of_length_eq_zero (by have := k6.1 e; omega)
  have n7 : Bn (Ao D.dKind) 64 = 0 → D.dCerts = [] := fun e => List.eq_nil_of_length_eq_zero (by have := k7.1 e; omega)
  clear k1 k2 k3 k4 k5 k6 k7 g1 g2 g3 g4 g5 g6 g7 g8 g9 g10 g11 g12 g13 g14 g15 hk
  obtain ⟨D6, a6, s6, q7, w7, x7, o7⟩ := bwd7 h
  obtain ⟨D5, a5, s5, q6, w6, x6, o6⟩ := bwd6 s6
  obtain ⟨D4, a4, s4, q5, w5, x5, o5⟩ := bwd5 s5
  obtain ⟨D3, a3, s3, q4, w4, x4, o4⟩ := bwd4 s4
  obtain ⟨D2, a2, s2, q3, w3, x3, o3⟩ := bwd3 s3
  obtain ⟨D1, a1, s1, q2, w2, x2, o2⟩ := bwd2 s2
  obtain ⟨D0, a0, s0, q1, w1, x1⟩ := bwd1 s1
  have x0 := bwd0 s0
  have c6 : D6.dCuts = D.dCuts := by rw [w7]
  have c5 : D5.dVotes = D.dVotes := by rw [w7, w6]
  have c4 : D4.dBlocks = D.dBlocks := by rw [w7, w6, w5]
  have c3 : D3.dWant = D.dWant := by rw [w7, w6, w5, w4]
  have c2 : D2.dHeads = D.dHeads := by rw [w7, w6, w5, w4, w3]
  have c1 : D1.dHeight = D.dHeight := by rw [w7, w6, w5, w4, w3, w2]
  clear w7 w6 w5 w4 w3 w2 w1
  rw [← q7, c6] at x6 o6
  rw [← q6, ← q7, c5] at x5 o5
  rw [← q5, ← q6, ← q7, c4] at x4 o4
  rw [← q4, ← q5, ← q6, ← q7, c3] at x3 o3
  rw [← q3, ← q4, ← q5, ← q6, ← q7, c2] at x2 o2
  rw [← q2, ← q3, ← q4, ← q5, ← q6, ← q7, c1] at x1
  rw [← q1, ← q2, ← q3, ← q4, ← q5, ← q6, ← q7] at x0
  rw [List.drop_of_length_le hl, List.append_nil] at x7
  refine ⟨?_, ⟨?_, ?_, ?_, ?_, ?_, ?_⟩⟩
  · rw [x0, x1, x2, x3, x4, x5, x6, x7, msgB_app, mB6_app, mB5_app, mB4_app, mB3_app, mB2_app, mB1_app]
    simp only [List.append_assoc]
  · by_cases e : Bn (Ao D.dKind) 2 = 0
    · rw [n2 e]; exact fun l hl => by cases hl
    · exact o2 e
  · by_cases e : Bn (Ao D.dKind) 4 = 0
    · rw [n3 e]; exact fun l hl => by cases hl
    · exact o3 e
  · by_cases e : Bn (Ao D.dKind) 8 = 0
    · rw [n4 e]; exact fun l hl => by cases hl
    · exact o4 e
  · by_cases e : Bn (Ao D.dKind) 16 = 0
    · rw [n5 e]; exact fun l hl => by cases hl
    · exact o5 e
  · by_cases e : Bn (Ao D.dKind) 32 = 0
    · rw [n6 e]; exact fun l hl => by cases hl
    · exact o6 e
  · by_cases e : Bn (Ao D.dKind) 64 = 0
    · rw [n7 e]; exact fun l hl => by cases hl
    · exact o7 e
theorem msgRd_two (xs : List UInt8) : msgRd xs = (dmz, 4) ∨ ∃ D a, msgRd xs = (D, 0) ∧ rS7 xs = some (D, a, 0) ∧ xs.length ≤ a ∧ D.check = 0 := by
  cases h : rS7 xs with
  | none => exact .inl (msgRd_none h)
  | some p =>
    obtain ⟨D, a, e⟩ := p
    by_cases hg : endR xs.length a e = 0 ∧ D.check = 0
    · refine .inr ⟨D, a, msgRd_ok h hg, ?_, ?_, hg.2⟩
      all_goals
        have he := hg.1
        unfold endR at he
        split at he
        · rename_i h1
          first
            | exact by rw [h1]
            | (rw [if_neg] at he
               · rename_i h2; omega
               · intro h2; rw [if_pos h2] at he; cases he)
            | (refine Nat.le_of_not_lt fun h2 => ?_
               rw [if_pos oM] at he; cases he)
        · rename_i h1; exact absurd he h1
    · exact .inl (msgRd_bad h hg)
theorem msgRd_only {xs : List UInt8} (h : (msgRd xs).2 = 0) : (msgRd xs).1.check = 0 ∧ msgB (msgRd xs).1 = xs ∧ (msgRd xs).1.oks := by
  rcases msgRd_two xs with h1 | ⟨D, a, h1, h2, h3, h4⟩
  · rw [h1] at h; cases h
  · rw [h1]
    exact ⟨h4, rS_bwd h2 h3 h4⟩
theorem msgRd_bytes {D : DMsg} (hc : D.check = 0) (o : D.oks) : msgRd (msgB D) = (D, 0) := by
  have := rS_fwd hc o []
  rw [List.append_nil] at this
  exact msgRd_ok this ⟨by simp [endR], hc⟩
theorem msgRd_more {D : DMsg} (hc : D.check = 0) (o : D.oks) (b : UInt8) : msgRd (msgB D ++ [b]) = (dmz, 4) := by
  have := rS_fwd hc o [b]
  refine msgRd_bad this fun h => ?_
  have h := h.1
  simp only [endR, if_true] at h
  rw [List.length_append, List.length_singleton, if_pos oM] at h
  cases h
theorem msgB_pos (D : DMsg) : 0 < (msgB D).length := by
  rw [msgB_app, mB6_app, mB5_app, mB4_app, mB3_app, mB2_app, mB1_app]
  simp only [List.length_append, List.length_singleton]
  omega
theorem msgRd_less {D : DMsg} (hc : D.check = 0) (o : D.oks) : msgRd ((msgB D).take ((msgB D).length - 1)) = (dmz, 4) := by
  rcases msgRd_two ((msgB D).take ((msgB D).length - 1)) with h | ⟨E, a, h1, h2, h3, h4⟩
  · exact h
  · exfalso
    obtain ⟨g1, g2⟩ := rS_bwd h2 h3 h4
    have hl := msgB_pos D
    obtain ⟨b, hb⟩ : ∃ b, msgB D = (msgB D).take ((msgB D).length - 1) ++ [b] := by
      refine ⟨(msgB D)[(msgB D).length - 1]'oM, ?_⟩
      have := List.take_succ_eq_append_getElem (l := msgB D) (i := (msgB D).length - 1) oM
      rw [show (msgB D).length - 1 + 1 = (msgB D).length by omega, List.take_length] at this
      exact this
    have h5 := msgRd_more h4 g2 b
    rw [g1, ← hb, msgRd_bytes hc o] at h5
    have := congrArg Prod.snd h5
    cases this
theorem msgB_most {D : DMsg} (hc : D.check = 0) (o : D.oks) : (msgB D).length ≤ 16384 := by
  obtain ⟨hd, _⟩ := (valid_iff D).1 hc
  obtain ⟨hk, g1, g2, g3, g4, g5, g6, g7, g8, g9, g10, g11, g12, g13, g14, g15⟩ := hd
  obtain ⟨k1, k2, k3, k4, k5, k6, k7⟩ := kind_has hk
  have b1 : (P1 D.dKind D.dHeight).length ≤ 9 := by
    by_cases e : Bn (Ao D.dKind) 1 = 0
    · rw [P1_no e]; exact Nat.zero_le _
    · rw [P1_yes e, As]; exact (A9 _).2
  have b2 : (P2 D.dKind D.dHeads).length ≤ 1033 := by
    by_cases e : Bn (Ao D.dKind) 2 = 0
    · rw [P2_no e]; exact Nat.zero_le _
    · rw [P2_yes e, List.length_append, flat32 o.h]; have := nb_le D.dHeads.length oM; omega
  have b3 : (P3 D.dKind D.dWant).length ≤ 1033 := by
    by_cases e : Bn (Ao D.dKind) 4 = 0
    · rw [P3_no e]; exact Nat.zero_le _
    · rw [P3_yes e, List.length_append, flat32 o.w]; have := nb_le D.dWant.length oM; omega
  have b4 : (P4 D.dKind D.dBlocks).length ≤ if D.dKind = 3 then 9681 else 0 := by
    by_cases e : Bn (Ao D.dKind) 8 = 0
    · rw [P4_no e]; exact Nat.zero_le _
    · rw [if_pos (by have := mt k4.2 e; omega), P4_yes e, List.length_append]
      have h1 := nb_le D.dBlocks.length oM
      have h2 := listB_le Bj 1200 dE D.dBlocks (fun d hd => blockBy_tight (o.b d hd))
      have h3 : D.dBlocks.length * (1200 + 9) ≤ 8 * 1209 := Nat.mul_le_mul_right _ g11
      omega
  have b5 : (P5 D.dKind D.dVotes).length ≤ if D.dKind = 4 then 3469 else 0 := by
    by_cases e : Bn (Ao D.dKind) 16 = 0
    · rw [P5_no e]; exact Nat.zero_le _
    · rw [if_pos (by have := mt k5.2 e; omega), P5_yes e, List.length_append]
      have h1 := nb_le D.dVotes.length oM
      have h2 := listB_le Bb 164 dE D.dVotes (fun d hd => voteBy_le (o.v d hd))
      have h3 : D.dVotes.length * (164 + 9) ≤ 20 * 173 := Nat.mul_le_mul_right _ g12
      omega
  have b6 : (P6 D.dKind D.dCuts).length ≤ if D.dKind = 4 then 8045 else 0 := by
    by_cases e : Bn (Ao D.dKind) 32 = 0
    · rw [P6_no e]; exact Nat.zero_le _
    · rw [if_pos (by have := mt k6.2 e; omega), P6_yes e, List.length_append]
      have h1 := nb_le D.dCuts.length oM
      have h2 := listB_le cutR 2000 dE D.dCuts (fun d hd => cutR_tight (o.c d hd))
      have h3 : D.dCuts.length * (2000 + 9) ≤ 4 * 2009 := Nat.mul_le_mul_right _ g13
      omega
  have b7 : (P7 D.dKind D.dCerts).length ≤ if D.dKind = 5 then 10027 else 0 := by
    by_cases e : Bn (Ao D.dKind) 64 = 0
    · rw [P7_no e]; exact Nat.zero_le _
    · rw [if_pos (by have := mt k7.2 e; omega), P7_yes e, List.length_append]
      have h1 := nb_le D.dCerts.length oM
      have h2 := listB_le Bm 5000 dE D.dCerts (fun d hd => certBy_tight (o.e d hd))
      have h3 : D.dCerts.length * (5000 + 9) ≤ 2 * 5009 := Nat.mul_le_mul_right _ g14
      omega
  rw [msgB_app, mB6_app, mB5_app, mB4_app, mB3_app, mB2_app, mB1_app]
  simp only [List.length_append, List.length_singleton]
  split at b4 <;> split at b5 <;> split at b6 <;> split at b7 <;> omega

end Go.Proofs.YtdifpjmfabhpiaaGreat
end

section
namespace Go.Proofs.YtdifpjmfabhpiaaGreat
open Go Hw

noncomputable def sameM (a b : DMsg) : Bool := decide (a.dKind = b.dKind) && (decide ((a.dHeight.toNat : Int) = (b.dHeight.toNat : Int)) && (decide (a.dHeads = b.dHeads) && (decide (a.dWant = b.dWant) && (sameL sameBk a.dBlocks b.dBlocks && (sameL sameV a.dVotes b.dVotes && (sameL sameC a.dCuts b.dCuts && sameL sameE a.dCerts b.dCerts))))))
theorem sameM_self (a : DMsg) : sameM a a = true := by
  simp only [sameM, decide_true, sameL_self sameBk_self, sameL_self sameE_self, sameL_self sameV_self, sameL_self sameC_self, Bool.and_self]
structure DMsg.tiny (a : DMsg) : Prop where
  h : a.dHeads.length ≤ 1000000
  w : a.dWant.length ≤ 1000000
  b : ∀ d ∈ a.dBlocks, d.ls.length ≤ 1000000
  c : ∀ d ∈ a.dCuts, d.dHeads.length ≤ 1000000
  e : ∀ d ∈ a.dCerts, d.dCut.dHeads.length ≤ 1000000
theorem msg_tiny {D : DMsg} (h : D.check = 0) : D.tiny := by
  have s := msg_sizes h
  exact ⟨by have := s.h; omega, by have := s.w; omega, fun d hd => by have := d.head_small (s.gb d hd); omega, fun d hd => by have := d.small (s.gc d hd); omega, fun d hd => by have := d.dCut.small (DCert.facts (s.ge d hd)).1; omega⟩

theorem kit_msg (A B : Msg) (a b : DMsg) (hsm : a.tiny) : Meets Tryz.prog 35 [agg A.cells, agg B.cells] [] (fun W => MsgIs W A a ∧ MsgIs W B b) (fun v out => v = .bool (sameM a b) ∧ out = []) := by
 intro W hW
 have hA := hW.1.ok
 have hB := hW.2.ok
 have e1 := hW.1.fKind
 have e2 := hW.2.fKind
 have e3 := hW.1.fHeight
 have e4 := hW.2.fHeight
 refine An Tryz.func35 rfl 59 Tryz.ntmps35 rfl ?_
 refine Sat.seq (Sat.region ?_)
 refine Tr.boxA rfl rfl ?_
 intro n2 hn2 hf2
 refine Tr.boxA rfl rfl ?_
 intro n3 hn3 hf3
 refine Tr.a rfl rfl rfl ?_
 refine Tr.nil (Aa (Sat.seq (Sat.region ?_)))
 refine Tr.fld rfl rfl rfl Y57 rfl Sz3 dE _ rfl ?_
 refine Tr.load1 rfl rfl rfl Y3 rfl mM (by first | exact Msg.get_fKind (by first | exact oK  | exact hA | exact hB) | exact vL) ?_
 refine Tr.fld rfl rfl rfl Y57 rfl Sz3 dE _ rfl ?_
 refine Tr.load1 rfl rfl rfl Y3 rfl mM (by first | exact Msg.get_fKind (by first | exact oK  | exact hA | exact hB) | exact vL) ?_
 refine two (fun r hr k => Tr.eqi rfl rfl rfl rfl hr k) (fun hs1_40 => ?_) (fun hs1_40 => ?_)
 ·
  first | have hs1_4 := of_decide_eq_true hs1_40 | have hs1_4 := of_decide_eq_false hs1_40 | have hs1_4 := A0 hs1_40 | have hs1_4 := A1 hs1_40 | have hs1_4 := hs1_40
  refine Tr.m rfl rfl rfl ?_
  refine Tr.fld rfl rfl rfl Y57 rfl B6 dE _ rfl ?_
  refine Tr.load1 rfl rfl rfl Y48 rfl mM (by first | exact Msg.get_fHeight (by first | exact oK  | exact hA | exact hB) | exact vL) ?_
  refine Tr.fld rfl rfl rfl Y57 rfl B6 dE _ rfl ?_
  refine Tr.load1 rfl rfl rfl Y48 rfl mM (by first | exact Msg.get_fHeight (by first | exact oK  | exact hA | exact hB) | exact vL) ?_
  refine two (fun r hr k => Tr.eqi rfl rfl rfl rfl hr k) (fun hs1_100 => ?_) (fun hs1_100 => ?_)
  ·
   first | have hs1_10 := of_decide_eq_true hs1_100 | have hs1_10 := of_decide_eq_false hs1_100 | have hs1_10 := A0 hs1_100 | have hs1_10 := A1 hs1_100 | have hs1_10 := hs1_100
   refine Tr.pick rfl rfl rfl rfl rfl rfl ?_
   refine Tr.m rfl rfl rfl ?_
   refine Tr.fld rfl rfl rfl Y57 rfl Sz51 dE _ rfl ?_
   refine Tr.load1 rfl rfl rfl Y51 rfl mM (by first | exact Msg.get_fHeads (by first | exact oK  | exact hA | exact hB) | exact vL) ?_
   refine Tr.fld rfl rfl rfl Y57 rfl Sz51 dE _ rfl ?_
   refine Tr.load1 rfl rfl rfl Y51 rfl mM (by first | exact Msg.get_fHeads (by first | exact oK  | exact hA | exact hB) | exact vL) ?_
   refine Tr.callB rfl rfl rfl rfl Body130 (digests_any2 _ _ _ _ _ _ a.dHeads b.dHeads hW.1.fHeads.row hW.2.fHeads.row hW.1.fHeads.len hW.2.fHeads.len (by have := hW.1.fHeads.len; have := hsm.h; omega)) (fun w h => ⟨Aw h rfl hW.1.fHeads.see, Aw h rfl hW.2.fHeads.see⟩) (fun hs1_170 => ?_) (fun hs1_170 => ?_)
   ·
    first | have hs1_17 := of_decide_eq_true hs1_170 | have hs1_17 := of_decide_eq_false hs1_170 | have hs1_17 := A0 hs1_170 | have hs1_17 := A1 hs1_170 | have hs1_17 := hs1_170
    refine Tr.pick rfl rfl rfl rfl rfl rfl ?_
    refine Tr.m rfl rfl rfl ?_
    refine Tr.fld rfl rfl rfl Y57 rfl Sz51 dE _ rfl ?_
    refine Tr.load1 rfl rfl rfl Y51 rfl mM (by first | exact Msg.get_fWant (by first | exact oK  | exact hA | exact hB) | exact vL) ?_
    refine Tr.fld rfl rfl rfl Y57 rfl Sz51 dE _ rfl ?_
    refine Tr.load1 rfl rfl rfl Y51 rfl mM (by first | exact Msg.get_fWant (by first | exact oK  | exact hA | exact hB) | exact vL) ?_
    refine Tr.callB rfl rfl rfl rfl Body130 (digests_any2 _ _ _ _ _ _ a.dWant b.dWant hW.1.fWant.row hW.2.fWant.row hW.1.fWant.len hW.2.fWant.len (by have := hW.1.fWant.len; have := hsm.w; omega)) (fun w h => ⟨Aw h rfl hW.1.fWant.see, Aw h rfl hW.2.fWant.see⟩) (fun hs1_240 => ?_) (fun hs1_240 => ?_)
    ·
     first | have hs1_24 := of_decide_eq_true hs1_240 | have hs1_24 := of_decide_eq_false hs1_240 | have hs1_24 := A0 hs1_240 | have hs1_24 := A1 hs1_240 | have hs1_24 := hs1_240
     refine Tr.pick rfl rfl rfl rfl rfl rfl ?_
     refine Tr.m rfl rfl rfl ?_
     refine Tr.fld rfl rfl rfl Y57 rfl Sz22 dE _ rfl ?_
     refine Tr.load1 rfl rfl rfl Y22 rfl mM (by first | exact Msg.get_fBlocks (by first | exact oK  | exact hA | exact hB) | exact vL) ?_
     refine Tr.fld rfl rfl rfl Y57 rfl Sz22 dE _ rfl ?_
     refine Tr.load1 rfl rfl rfl Y22 rfl mM (by first | exact Msg.get_fBlocks (by first | exact oK  | exact hA | exact hB) | exact vL) ?_
     refine Tr.callB rfl rfl rfl rfl Body19 (kit_blocks A.fBlocks B.fBlocks a.dBlocks b.dBlocks hsm.b) (fun w h => ⟨Blocks_ext h rfl hW.1.fBlocks, Blocks_ext h rfl hW.2.fBlocks⟩) (fun hs1_310 => ?_) (fun hs1_310 => ?_)
     ·
      first | have hs1_31 := of_decide_eq_true hs1_310 | have hs1_31 := of_decide_eq_false hs1_310 | have hs1_31 := A0 hs1_310 | have hs1_31 := A1 hs1_310 | have hs1_31 := hs1_310
      refine Tr.pick rfl rfl rfl rfl rfl rfl ?_
      refine Tr.m rfl rfl rfl ?_
      refine Tr.fld rfl rfl rfl Y57 rfl Sz24 dE _ rfl ?_
      refine Tr.load1 rfl rfl rfl Y24 rfl mM (by first | exact Msg.get_fVotes (by first | exact oK  | exact hA | exact hB) | exact vL) ?_
      refine Tr.fld rfl rfl rfl Y57 rfl Sz24 dE _ rfl ?_
      refine Tr.load1 rfl rfl rfl Y24 rfl mM (by first | exact Msg.get_fVotes (by first | exact oK  | exact hA | exact hB) | exact vL) ?_
      refine Tr.callB rfl rfl rfl rfl Body21 (kit_votes A.fVotes B.fVotes a.dVotes b.dVotes) (fun w h => ⟨Votes_ext h rfl hW.1.fVotes, Votes_ext h rfl hW.2.fVotes⟩) (fun hs1_380 => ?_) (fun hs1_380 => ?_)
      ·
       first | have hs1_38 := of_decide_eq_true hs1_380 | have hs1_38 := of_decide_eq_false hs1_380 | have hs1_38 := A0 hs1_380 | have hs1_38 := A1 hs1_380 | have hs1_38 := hs1_380
       refine Tr.pick rfl rfl rfl rfl rfl rfl ?_
       refine Tr.m rfl rfl rfl ?_
       refine Tr.fld rfl rfl rfl Y57 rfl Sz25 dE _ rfl ?_
       refine Tr.load1 rfl rfl rfl Y25 rfl mM (by first | exact Msg.get_fCuts (by first | exact oK  | exact hA | exact hB) | exact vL) ?_
       refine Tr.fld rfl rfl rfl Y57 rfl Sz25 dE _ rfl ?_
       refine Tr.load1 rfl rfl rfl Y25 rfl mM (by first | exact Msg.get_fCuts (by first | exact oK  | exact hA | exact hB) | exact vL) ?_
       refine Tr.callB rfl rfl rfl rfl Body22 (kit_cuts A.fCuts B.fCuts a.dCuts b.dCuts hsm.c) (fun w h => ⟨Cuts_ext h rfl hW.1.fCuts, Cuts_ext h rfl hW.2.fCuts⟩) (fun hs1_450 => ?_) (fun hs1_450 => ?_)
       ·
        first | have hs1_45 := of_decide_eq_true hs1_450 | have hs1_45 := of_decide_eq_false hs1_450 | have hs1_45 := A0 hs1_450 | have hs1_45 := A1 hs1_450 | have hs1_45 := hs1_450
        refine Tr.pick rfl rfl rfl rfl rfl rfl ?_
        refine Tr.m rfl rfl rfl ?_
        refine Tr.fld rfl rfl rfl Y57 rfl Sz23 dE _ rfl ?_
        refine Tr.load1 rfl rfl rfl Y23 rfl mM (by first | exact Msg.get_fCerts (by first | exact oK  | exact hA | exact hB) | exact vL) ?_
        refine Tr.fld rfl rfl rfl Y57 rfl Sz23 dE _ rfl ?_
        refine Tr.load1 rfl rfl rfl Y23 rfl mM (by first | exact Msg.get_fCerts (by first | exact oK  | exact hA | exact hB) | exact vL) ?_
        refine Tr.cV rfl rfl rfl rfl Body20 (kit_certs A.fCerts B.fCerts a.dCerts b.dCerts hsm.e) (fun w h => ⟨Certs_ext h rfl hW.1.fCerts, Certs_ext h rfl hW.2.fCerts⟩) ?_
        refine Tr.pick rfl rfl rfl rfl rfl rfl ?_
        refine Tr.a rfl rfl rfl ?_
        refine Tr.nil (Aa (Sat.ret (Ai ?_)))
        refine ⟨_, [], Ae rfl rfl, sP, sP, ?_, rfl⟩
        simp_all [sameM]
       ·
        first | have hs1_45 := of_decide_eq_true hs1_450 | have hs1_45 := of_decide_eq_false hs1_450 | have hs1_45 := A0 hs1_450 | have hs1_45 := A1 hs1_450 | have hs1_45 := hs1_450
        refine Tr.pick rfl rfl rfl rfl rfl rfl ?_
        refine Tr.m rfl rfl rfl ?_
        refine Tr.skp rfl rfl ?_
        refine Tr.skp rfl rfl ?_
        refine Tr.skp rfl rfl ?_
        refine Tr.skp rfl rfl ?_
        refine Tr.skp rfl rfl ?_
        refine Tr.pick rfl rfl rfl rfl rfl rfl ?_
        refine Tr.a rfl rfl rfl ?_
        refine Tr.nil (Aa (Sat.ret (Ai ?_)))
        refine ⟨_, [], Ae rfl rfl, sP, sP, ?_, rfl⟩
        simp_all [sameM]
      ·
       first | have hs1_38 := of_decide_eq_true hs1_380 | have hs1_38 := of_decide_eq_false hs1_380 | have hs1_38 := A0 hs1_380 | have hs1_38 := A1 hs1_380 | have hs1_38 := hs1_380
       refine Tr.pick rfl rfl rfl rfl rfl rfl ?_
       refine Tr.m rfl rfl rfl ?_
       refine Tr.skp rfl rfl ?_
       refine Tr.skp rfl rfl ?_
       refine Tr.skp rfl rfl ?_
       refine Tr.skp rfl rfl ?_
       refine Tr.skp rfl rfl ?_
       refine Tr.pick rfl rfl rfl rfl rfl rfl ?_
       refine Tr.m rfl rfl rfl ?_
       refine Tr.skp rfl rfl ?_
       refine Tr.skp rfl rfl ?_
       refine Tr.skp rfl rfl ?_
       refine Tr.skp rfl rfl ?_
       refine Tr.skp rfl rfl ?_
       refine Tr.pick rfl rfl rfl rfl rfl rfl ?_
       refine Tr.a rfl rfl rfl ?_
       refine Tr.nil (Aa (Sat.ret (Ai ?_)))
       refine ⟨_, [], Ae rfl rfl, sP, sP, ?_, rfl⟩
       simp_all [sameM]
     ·
      first | have hs1_31 := of_decide_eq_true hs1_310 | have hs1_31 := of_decide_eq_false hs1_310 | have hs1_31 := A0 hs1_310 | have hs1_31 := A1 hs1_310 | have hs1_31 := hs1_310
      refine Tr.pick rfl rfl rfl rfl rfl rfl ?_
      refine Tr.m rfl rfl rfl ?_
      refine Tr.skp rfl rfl ?_
      refine Tr.skp rfl rfl ?_
      refine Tr.skp rfl rfl ?_
      refine Tr.skp rfl rfl ?_
      refine Tr.skp rfl rfl ?_
      refine Tr.pick rfl rfl rfl rfl rfl rfl ?_
      refine Tr.m rfl rfl rfl ?_
      refine Tr.skp rfl rfl ?_
      refine Tr.skp rfl rfl ?_
      refine Tr.skp rfl rfl ?_
      refine Tr.skp rfl rfl ?_
      refine Tr.skp rfl rfl ?_
      refine Tr.pick rfl rfl rfl rfl rfl rfl ?_
      refine Tr.m rfl rfl rfl ?_
      refine Tr.skp rfl rfl ?_
      refine Tr.skp rfl rfl ?_
      refine Tr.skp rfl rfl ?_
      refine Tr.skp rfl rfl ?_
      refine Tr.skp rfl rfl ?_
      refine Tr.pick rfl rfl rfl rfl rfl rfl ?_
      refine Tr.a rfl rfl rfl ?_
      refine Tr.nil (Aa (Sat.ret (Ai ?_)))
      refine ⟨_, [], Ae rfl rfl, sP, sP, ?_, rfl⟩
      simp_all [sameM]
    ·
     first | have hs1_24 := of_decide_eq_true hs1_240 | have hs1_24 := of_decide_eq_false hs1_240 | have hs1_24 := A0 hs1_240 | have hs1_24 := A1 hs1_240 | have hs1_24 := hs1_240
     refine Tr.pick rfl rfl rfl rfl rfl rfl ?_
     refine Tr.m rfl rfl rfl ?_
     refine Tr.skp rfl rfl ?_
     refine Tr.skp rfl rfl ?_
     refine Tr.skp rfl rfl ?_
     refine Tr.skp rfl rfl ?_
     refine Tr.skp rfl rfl ?_
     refine Tr.pick rfl rfl rfl rfl rfl rfl ?_
     refine Tr.m rfl rfl rfl ?_
     refine Tr.skp rfl rfl ?_
     refine Tr.skp rfl rfl ?_
     refine Tr.skp rfl rfl ?_
     refine Tr.skp rfl rfl ?_
     refine Tr.skp rfl rfl ?_
     refine Tr.pick rfl rfl rfl rfl rfl rfl ?_
     refine Tr.m rfl rfl rfl ?_
     refine Tr.skp rfl rfl ?_
     refine Tr.skp rfl rfl ?_
     refine Tr.skp rfl rfl ?_
     refine Tr.skp rfl rfl ?_
     refine Tr.skp rfl rfl ?_
     refine Tr.pick rfl rfl rfl rfl rfl rfl ?_
     refine Tr.m rfl rfl rfl ?_
     refine Tr.skp rfl rfl ?_
     refine Tr.skp rfl rfl ?_
     refine Tr.skp rfl rfl ?_
     refine Tr.skp rfl rfl ?_
     refine Tr.skp rfl rfl ?_
     refine Tr.pick rfl rfl rfl rfl rfl rfl ?_
     refine Tr.a rfl rfl rfl ?_
     refine Tr.nil (Aa (Sat.ret (Ai ?_)))
     refine ⟨_, [], Ae rfl rfl, sP, sP, ?_, rfl⟩
     simp_all [sameM]
   ·
    first | have hs1_17 := of_decide_eq_true hs1_170 | have hs1_17 := of_decide_eq_false hs1_170 | have hs1_17 := A0 hs1_170 | have hs1_17 := A1 hs1_170 | have hs1_17 := hs1_170
    refine Tr.pick rfl rfl rfl rfl rfl rfl ?_
    refine Tr.m rfl rfl rfl ?_
    refine Tr.skp rfl rfl ?_
    refine Tr.skp rfl rfl ?_
    refine Tr.skp rfl rfl ?_
    refine Tr.skp rfl rfl ?_
    refine Tr.skp rfl rfl ?_
    refine Tr.pick rfl rfl rfl rfl rfl rfl ?_
    refine Tr.m rfl rfl rfl ?_
    refine Tr.skp rfl rfl ?_
    refine Tr.skp rfl rfl ?_
    refine Tr.skp rfl rfl ?_
    refine Tr.skp rfl rfl ?_
    refine Tr.skp rfl rfl ?_
    refine Tr.pick rfl rfl rfl rfl rfl rfl ?_
    refine Tr.m rfl rfl rfl ?_
    refine Tr.skp rfl rfl ?_
    refine Tr.skp rfl rfl ?_
    refine Tr.skp rfl rfl ?_
    refine Tr.skp rfl rfl ?_
    refine Tr.skp rfl rfl ?_
    refine Tr.pick rfl rfl rfl rfl rfl rfl ?_
    refine Tr.m rfl rfl rfl ?_
    refine Tr.skp rfl rfl ?_
    refine Tr.skp rfl rfl ?_
    refine Tr.skp rfl rfl ?_
    refine Tr.skp rfl rfl ?_
    refine Tr.skp rfl rfl ?_
    refine Tr.pick rfl rfl rfl rfl rfl rfl ?_
    refine Tr.m rfl rfl rfl ?_
    refine Tr.skp rfl rfl ?_
    refine Tr.skp rfl rfl ?_
    refine Tr.skp rfl rfl ?_
    refine Tr.skp rfl rfl ?_
    refine Tr.skp rfl rfl ?_
    refine Tr.pick rfl rfl rfl rfl rfl rfl ?_
    refine Tr.a rfl rfl rfl ?_
    refine Tr.nil (Aa (Sat.ret (Ai ?_)))
    refine ⟨_, [], Ae rfl rfl, sP, sP, ?_, rfl⟩
    simp_all [sameM]
  ·
   first | have hs1_10 := of_decide_eq_true hs1_100 | have hs1_10 := of_decide_eq_false hs1_100 | have hs1_10 := A0 hs1_100 | have hs1_10 := A1 hs1_100 | have hs1_10 := hs1_100
   refine Tr.pick rfl rfl rfl rfl rfl rfl ?_
   refine Tr.m rfl rfl rfl ?_
   refine Tr.skp rfl rfl ?_
   refine Tr.skp rfl rfl ?_
   refine Tr.skp rfl rfl ?_
   refine Tr.skp rfl rfl ?_
   refine Tr.skp rfl rfl ?_
   refine Tr.pick rfl rfl rfl rfl rfl rfl ?_
   refine Tr.m rfl rfl rfl ?_
   refine Tr.skp rfl rfl ?_
   refine Tr.skp rfl rfl ?_
   refine Tr.skp rfl rfl ?_
   refine Tr.skp rfl rfl ?_
   refine Tr.skp rfl rfl ?_
   refine Tr.pick rfl rfl rfl rfl rfl rfl ?_
   refine Tr.m rfl rfl rfl ?_
   refine Tr.skp rfl rfl ?_
   refine Tr.skp rfl rfl ?_
   refine Tr.skp rfl rfl ?_
   refine Tr.skp rfl rfl ?_
   refine Tr.skp rfl rfl ?_
   refine Tr.pick rfl rfl rfl rfl rfl rfl ?_
   refine Tr.m rfl rfl rfl ?_
   refine Tr.skp rfl rfl ?_
   refine Tr.skp rfl rfl ?_
   refine Tr.skp rfl rfl ?_
   refine Tr.skp rfl rfl ?_
   refine Tr.skp rfl rfl ?_
   refine Tr.pick rfl rfl rfl rfl rfl rfl ?_
   refine Tr.m rfl rfl rfl ?_
   refine Tr.skp rfl rfl ?_
   refine Tr.skp rfl rfl ?_
   refine Tr.skp rfl rfl ?_
   refine Tr.skp rfl rfl ?_
   refine Tr.skp rfl rfl ?_
   refine Tr.pick rfl rfl rfl rfl rfl rfl ?_
   refine Tr.m rfl rfl rfl ?_
   refine Tr.skp rfl rfl ?_
   refine Tr.skp rfl rfl ?_
   refine Tr.skp rfl rfl ?_
   refine Tr.skp rfl rfl ?_
   refine Tr.skp rfl rfl ?_
   refine Tr.pick rfl rfl rfl rfl rfl rfl ?_
   refine Tr.a rfl rfl rfl ?_
   refine Tr.nil (Aa (Sat.ret (Ai ?_)))
   refine ⟨_, [], Ae rfl rfl, sP, sP, ?_, rfl⟩
   simp_all [sameM]
 ·
  first | have hs1_4 := of_decide_eq_true hs1_40 | have hs1_4 := of_decide_eq_false hs1_40 | have hs1_4 := A0 hs1_40 | have hs1_4 := A1 hs1_40 | have hs1_4 := hs1_40
  refine Tr.m rfl rfl rfl ?_
  refine Tr.skp rfl rfl ?_
  refine Tr.skp rfl rfl ?_
  refine Tr.skp rfl rfl ?_
  refine Tr.skp rfl rfl ?_
  refine Tr.skp rfl rfl ?_
  refine Tr.pick rfl rfl rfl rfl rfl rfl ?_
  refine Tr.m rfl rfl rfl ?_
  refine Tr.skp rfl rfl ?_
  refine Tr.skp rfl rfl ?_
  refine Tr.skp rfl rfl ?_
  refine Tr.skp rfl rfl ?_
  refine Tr.skp rfl rfl ?_
  refine Tr.pick rfl rfl rfl rfl rfl rfl ?_
  refine Tr.m rfl rfl rfl ?_
  refine Tr.skp rfl rfl ?_
  refine Tr.skp rfl rfl ?_
  refine Tr.skp rfl rfl ?_
  refine Tr.skp rfl rfl ?_
  refine Tr.skp rfl rfl ?_
  refine Tr.pick rfl rfl rfl rfl rfl rfl ?_
  refine Tr.m rfl rfl rfl ?_
  refine Tr.skp rfl rfl ?_
  refine Tr.skp rfl rfl ?_
  refine Tr.skp rfl rfl ?_
  refine Tr.skp rfl rfl ?_
  refine Tr.skp rfl rfl ?_
  refine Tr.pick rfl rfl rfl rfl rfl rfl ?_
  refine Tr.m rfl rfl rfl ?_
  refine Tr.skp rfl rfl ?_
  refine Tr.skp rfl rfl ?_
  refine Tr.skp rfl rfl ?_
  refine Tr.skp rfl rfl ?_
  refine Tr.skp rfl rfl ?_
  refine Tr.pick rfl rfl rfl rfl rfl rfl ?_
  refine Tr.m rfl rfl rfl ?_
  refine Tr.skp rfl rfl ?_
  refine Tr.skp rfl rfl ?_
  refine Tr.skp rfl rfl ?_
  refine Tr.skp rfl rfl ?_
  refine Tr.skp rfl rfl ?_
  refine Tr.pick rfl rfl rfl rfl rfl rfl ?_
  refine Tr.m rfl rfl rfl ?_
  refine Tr.skp rfl rfl ?_
  refine Tr.skp rfl rfl ?_
  refine Tr.skp rfl rfl ?_
  refine Tr.skp rfl rfl ?_
  refine Tr.skp rfl rfl ?_
  refine Tr.pick rfl rfl rfl rfl rfl rfl ?_
  refine Tr.a rfl rfl rfl ?_
  refine Tr.nil (Aa (Sat.ret (Ai ?_)))
  refine ⟨_, [], Ae rfl rfl, sP, sP, ?_, rfl⟩
  simp_all [sameM]

theorem kit_msg_same (A B : Msg) (a : DMsg) (h : a.tiny) : Meets Tryz.prog 35 [agg A.cells, agg B.cells] [] (fun W => MsgIs W A a ∧ MsgIs W B a) (fun v out => v = .bool true ∧ out = []) := by
  have h2 := kit_msg A B a a h
  rwa [sameM_self] at h2
theorem seesP_take {w : World} {p : Option Addr} {xs : List UInt8} {k : Nat} (h : SeesP w p (Ab xs)) : SeesP w p (Ab (xs.take k)) := fun j v hj => by
  refine h j v ?_
  rw [Ab, List.map_take, List.getElem?_take] at hj
  split at hj
  · exact hj
  · cases hj
theorem certread_know {xs : List UInt8} (v : Value) (out : List Blk) (w : World) (h : CertRead xs v out) (hl : Lies out w) : ∃ C : Cert, C.ok ∧ v = .tuple #[agg C.cells, i64 (Bv xs).2] ∧ C.fCut.fHeads.n = (Bv xs).1.dCut.dHeads.length ∧ ∀ W2, Lies out W2 → CertIs W2 C (Bv xs).1 := by
  obtain ⟨C, ok, e, hx⟩ := h
  exact ⟨C, ok, e, (hx w hl).fCut.fHeads.len.symm, hx⟩
theorem cert_okR2 {W : World} {C : Cert} {D : DCert} (h : CertIs W C D) : D.ok := by
  obtain ⟨_, hv⟩ := h.fVotes
  exact ⟨h.fCut.fPrev ▸ h.fCut.ok.l_fPrev, h.fCut.fHeads.row, seqv_ok hv⟩

theorem law_syncback (C : Cert) (E : DCert) (m : Msg) (D : DMsg) (s : Sl) (xs : List UInt8) : Meets Tryz.prog 4 [agg C.cells, agg m.cells, s.v] [] (fun W => CertIs W C E ∧ MsgIs W m D ∧ BytesAt W s xs) (fun v out => v = .bool true ∧ out = []) := by
 intro W hW
 have hC := hW.1.ok
 have hm := hW.2.1.ok
 have hoks := msg_oks hW.2.1
 have heok := cert_okR2 hW.1
 refine An Tryz.func4 rfl 169 Tryz.ntmps4 rfl ?_
 refine Sat.seq (Sat.region ?_)
 refine Tr.boxA rfl rfl ?_
 intro n3 hn3 hf3
 refine Tr.boxA rfl rfl ?_
 intro n4 hn4 hf4
 refine Tr.a rfl rfl rfl ?_
 refine Tr.nil (Aa (Sat.seq (Sat.seq (Sat.region ?_))))
 refine Tr.cV rfl rfl rfl rfl Body23 (law25_lives) tV ?_
 refine Tr.not rfl rfl rfl ?_
 refine Tr.nil (Aa ?_)
 refine Sat.cond_f rfl (rfl) ?_
 refine Sat.skip (Aa (Sat.seq (Sat.seq (Sat.region ?_))))
 refine Tr.lA rfl rfl rfl Y55 rfl Sz55 mM (Cert.length (by first | exact oK  | exact hC | exact hm | exact ok40 | exact ok62 | exact ok95 | exact ok108 | exact ok129 | exact ok137 | exact ok146)) ?_
 refine Tr.mkRow (z := agg Cert.zero.cells) [agg C.cells] C.cells rfl rfl rfl Y23 Sz55 Cert.zr rfl rfl (by intro v hv; rw [List.mem_singleton.1 hv]; exact Cert.length hC) dE (by simp [Value.cells]) ?_
 intro q24
 refine Tr.callB rfl rfl rfl rfl Body24 (lightd_certs ⟨some ⟨q24, 0, none⟩, 1, 1⟩ [E] 1) (fun w h => ⟨_, seq_one q24 55 C (Lies.of h (by intro b hb; rw [List.mem_singleton.1 hb]; repeat (first | exact List.mem_cons_self | refine List.mem_cons_of_mem _ ?_ | refine mem_seg ?_))) (Cert.length hC) (by rw [Cert.length hC]) (hW.1.ext h rfl)⟩) (fun hs3_20 => ?_) (fun hs3_20 => ?_)
 ·
  first | have hs3_2 := of_decide_eq_true hs3_20 | have hs3_2 := of_decide_eq_false hs3_20 | have hs3_2 := A0 hs3_20 | have hs3_2 := A1 hs3_20 | have hs3_2 := hs3_20
  refine Tr.not rfl rfl rfl ?_
  refine Tr.m rfl rfl rfl ?_
  refine Tr.lA rfl rfl rfl Y57 rfl Sz57 mM (Msg.length (by first | exact oK  | exact hC | exact hm | exact ok40 | exact ok62 | exact ok95 | exact ok108 | exact ok129 | exact ok137 | exact ok146)) ?_
  refine Tr.callB rfl rfl rfl rfl Body25 (light_msg m D) (fun w h => hW.2.1.ext h rfl) (fun hs3_60 => ?_) (fun hs3_60 => ?_)
  ·
   first | have hs3_6 := of_decide_eq_true hs3_60 | have hs3_6 := of_decide_eq_false hs3_60 | have hs3_6 := A0 hs3_60 | have hs3_6 := A1 hs3_60 | have hs3_6 := hs3_60
   refine Tr.not rfl rfl rfl ?_
   refine Tr.pick rfl rfl rfl rfl rfl rfl ?_
   refine Tr.m rfl rfl rfl ?_
   refine Tr.m rfl rfl rfl ?_
   refine Tr.lenSl rfl rfl rfl Y58 ?_
   refine Tr.gtr rfl rfl rfl rfl rfl ?_
   refine Tr.pick rfl rfl rfl rfl rfl rfl ?_
   refine Tr.nil (Aa ?_)
   first
    | refine Sat.condP rfl (fun hc1 => ?_) (fun hc1 => ?_)
    | refine Sat.condNP rfl (fun hc1 => ?_) (fun hc1 => ?_)
    | refine Sat.cond rfl (fun hc1 => ?_) (fun hc1 => ?_)
   ·
    refine Sat.seq (Sat.region ?_)
    refine Tr.a rfl rfl rfl ?_
    refine Tr.nil (Aa (Sat.ret (Ap (Ai ?_))))
    refine ⟨_, [], Ae rfl rfl, sP, sP, ?_, rfl⟩
    rfl
   ·
    refine Sat.skip (Aa (Sat.seq (Sat.region ?_)))
    refine Tr.m rfl rfl rfl ?_
    refine Tr.call4 rfl rfl rfl rfl rfl Body27 (kit_own s xs oM) (fun w h => bytes_ext h rfl hW.2.2) ?_
    rintro v39 out39 ⟨q39, c39, rfl, hc39, rfl⟩
    refine Tr.call4 rfl rfl rfl rfl rfl Body26 (sync_read (some ⟨q39, 0, none⟩) s.n c39 xs hW.2.2.len (fun e => by cases e) oM) (fun w h => SeesP.of (Aq h mM)) ?_
    rintro v40 out40 ⟨m40, ok40, rfl, h40⟩
    refine Tr.m rfl rfl rfl ?_
    refine Tr.eX rfl rfl rfl rfl ?_
    refine Tr.eX rfl rfl rfl rfl ?_
    refine Tr.alloc (cs := Msg.zero.cells) rfl Msg.zr rfl ?_
    intro n7 hn7 hf7
    refine Tr.sA rfl rfl rfl rfl (Msg.isCell (by first | exact oK  | exact hC | exact hm | exact ok40 | exact ok62 | exact ok95 | exact ok108 | exact ok129 | exact ok137 | exact ok146)) Sz57 (Msg.length (by first | exact oK  | exact hC | exact hm | exact ok40 | exact ok62 | exact ok95 | exact ok108 | exact ok129 | exact ok137 | exact ok146)) mM (Msg.length (by first | exact oK  | exact hC | exact hm | exact ok40 | exact ok62 | exact ok95 | exact ok108 | exact ok129 | exact ok137 | exact ok146)) uU ?_
    refine Tr.a rfl rfl rfl ?_
    refine Tr.nil (Aa ?_)
    refine Sat.join (ι := Unit) (fun _u => ⟨[(2, s.v), (3, ptr n3 0), (4, ptr n4 0), (7, ptr n7 0)], [⟨n7, m40.cells, 57, 8⟩, ⟨n4, m.cells, 57, m.cells.length⟩, ⟨n3, C.cells, 55, C.cells.length⟩]⟩) (fun _u => True) ?_ ?_
    ·
     refine Sat.seq (Sat.region ?_)
     refine Tr.m rfl rfl rfl ?_
     refine Tr.eqi rfl rfl rfl rfl rfl ?_
     refine Tr.nil (Aa ?_)
     first
      | refine Sat.condP rfl (fun hc2 => ?_) (fun hc2 => ?_)
      | refine Sat.condNP rfl (fun hc2 => ?_) (fun hc2 => ?_)
      | refine Sat.cond rfl (fun hc2 => ?_) (fun hc2 => ?_)
     ·
      have hro := msgRd_only hc2
      refine Sat.seq (Sat.region ?_)
      refine Tr.lA rfl rfl rfl Y57 rfl Sz57 mM (Msg.length (by first | exact oK  | exact hC | exact hm | exact ok40 | exact ok62 | exact ok95 | exact ok108 | exact ok129 | exact ok137 | exact ok146)) ?_
      refine Tr.call4 rfl rfl rfl rfl rfl Body28 (msg_bytes m40 (msgRd xs).1) (fun w h => h40 w (Lies.of h iN)) ?_
      rintro v47 out47 ⟨s47, rfl, hac47⟩
      refine Tr.m rfl rfl rfl ?_
      refine Tr.eX rfl rfl rfl rfl ?_
      refine Tr.eX rfl rfl rfl rfl ?_
      refine Tr.a rfl rfl rfl ?_
      refine Tr.a rfl rfl rfl ?_
      refine Tr.nil (Aa (Sat.seq (Sat.region ?_)))
      refine Tr.m rfl rfl rfl ?_
      refine Tr.nei rfl rfl rfl rfl (show (!decide _) = false from congrArg not (decide_eq_true (hro.1))) ?_
      refine Tr.m rfl rfl rfl ?_
      refine Tr.m rfl rfl rfl ?_
      refine Tr.toStr rfl rfl rfl Y58 Y5 Y9 (fun w h => hac47.see (Lies.of h iN)) hac47.num.symm ?_
      refine Tr.m rfl rfl rfl ?_
      refine Tr.toStr rfl rfl rfl Y58 Y5 Y9 (fun w h => Aw h rfl hW.2.2.see) hW.2.2.len ?_
      refine Tr.neq_str rfl rfl rfl rfl (show (!decide _) = false from congrArg not (decide_eq_true ((if_pos hro.1).trans hro.2.1))) ?_
      refine Tr.pick rfl rfl rfl rfl rfl rfl ?_
      refine Tr.nil (Aa ?_)
      refine Sat.cond_f rfl rfl ?_
      refine Sat.skip (Aa ?_)
      exact ⟨(), trivial, Af (wk1 rfl (wk1 rfl (wk1 rfl (wk1 rfl wk0)))) (Ac rM (Ac rM (Ac rM Ad)))⟩
     ·
      refine Sat.skip (Aa ?_)
      exact ⟨(), trivial, Af (wk1 rfl (wk1 rfl (wk1 rfl (wk1 rfl wk0)))) (Ac rM (Ac rM (Ac rM Ad)))⟩
    ·
     intro _u hj
     skip
     refine Sat.seq (Sat.region ?_)
     refine Tr.m rfl rfl rfl ?_
     refine Tr.call4 rfl rfl rfl rfl rfl Body27 (kit_own s xs oM) (fun w h => bytes_ext h rfl hW.2.2) ?_
     rintro v61 out61 ⟨q61, c61, rfl, hc61, rfl⟩
     refine Tr.call4 rfl rfl rfl rfl rfl Body29 (cert_read (some ⟨q61, 0, none⟩) s.n c61 xs hW.2.2.len (fun e => by cases e) oM) (fun w h => SeesP.of (Aq h mM)) ?_
     rintro v62 out62 ⟨C62, ok62, rfl, h62⟩
     refine Tr.m rfl rfl rfl ?_
     refine Tr.eX rfl rfl rfl rfl ?_
     refine Tr.eX rfl rfl rfl rfl ?_
     refine Tr.alloc (cs := Cert.zero.cells) rfl Cert.zr rfl ?_
     intro n11 hn11 hf11
     refine Tr.sA rfl rfl rfl rfl (Cert.isCell (by first | exact oK  | exact hC | exact hm | exact ok40 | exact ok62 | exact ok95 | exact ok108 | exact ok129 | exact ok137 | exact ok146)) Sz55 (Cert.length (by first | exact oK  | exact hC | exact hm | exact ok40 | exact ok62 | exact ok95 | exact ok108 | exact ok129 | exact ok137 | exact ok146)) mM (Cert.length (by first | exact oK  | exact hC | exact hm | exact ok40 | exact ok62 | exact ok95 | exact ok108 | exact ok129 | exact ok137 | exact ok146)) uU ?_
     refine Tr.a rfl rfl rfl ?_
     refine Tr.nil (Aa ?_)
     refine Sat.join (ι := Unit) (fun _u => ⟨[(2, s.v), (3, ptr n3 0), (4, ptr n4 0), (7, ptr n7 0)], [⟨n7, m40.cells, 57, 8⟩, ⟨n4, m.cells, 57, m.cells.length⟩, ⟨n3, C.cells, 55, C.cells.length⟩]⟩) (fun _u => True) ?_ ?_
     ·
      refine Sat.seq (Sat.region ?_)
      refine Tr.m rfl rfl rfl ?_
      refine Tr.eqi rfl rfl rfl rfl rfl ?_
      refine Tr.nil (Aa ?_)
      first
       | refine Sat.condP rfl (fun hc4 => ?_) (fun hc4 => ?_)
       | refine Sat.condNP rfl (fun hc4 => ?_) (fun hc4 => ?_)
       | refine Sat.cond rfl (fun hc4 => ?_) (fun hc4 => ?_)
      ·
       have hrc := certRd_only hc4
       refine Sat.seq (Sat.region ?_)
       refine Tr.lA rfl rfl rfl Y55 rfl Sz55 mM (Cert.length (by first | exact oK  | exact hC | exact hm | exact ok40 | exact ok62 | exact ok95 | exact ok108 | exact ok129 | exact ok137 | exact ok146)) ?_
       refine Tr.call4 rfl rfl rfl rfl rfl Body30 (cert_bytes C62 (Bv xs).1) (fun w h => h62 w (Lies.of h iN)) ?_
       rintro v69 out69 ⟨s69, rfl, hac69⟩
       refine Tr.m rfl rfl rfl ?_
       refine Tr.eX rfl rfl rfl rfl ?_
       refine Tr.eX rfl rfl rfl rfl ?_
       refine Tr.a rfl rfl rfl ?_
       refine Tr.a rfl rfl rfl ?_
       refine Tr.nil (Aa (Sat.seq (Sat.region ?_)))
       refine Tr.m rfl rfl rfl ?_
       refine Tr.nei rfl rfl rfl rfl (show (!decide _) = false from congrArg not (decide_eq_true (hrc.1))) ?_
       refine Tr.m rfl rfl rfl ?_
       refine Tr.m rfl rfl rfl ?_
       refine Tr.toStr rfl rfl rfl Y58 Y5 Y9 (fun w h => hac69.see (Lies.of h iN)) hac69.num.symm ?_
       refine Tr.m rfl rfl rfl ?_
       refine Tr.toStr rfl rfl rfl Y58 Y5 Y9 (fun w h => Aw h rfl hW.2.2.see) hW.2.2.len ?_
       refine Tr.neq_str rfl rfl rfl rfl (show (!decide _) = false from congrArg not (decide_eq_true ((if_pos hrc.1).trans hrc.2.1))) ?_
       refine Tr.pick rfl rfl rfl rfl rfl rfl ?_
       refine Tr.nil (Aa ?_)
       refine Sat.cond_f rfl rfl ?_
       refine Sat.skip (Aa ?_)
       exact ⟨(), trivial, Af (wk1 rfl (wk1 rfl (wk1 rfl (wk1 rfl wk0)))) (Ac rM (Ac rM (Ac rM Ad)))⟩
      ·
       refine Sat.skip (Aa ?_)
       exact ⟨(), trivial, Af (wk1 rfl (wk1 rfl (wk1 rfl (wk1 rfl wk0)))) (Ac rM (Ac rM (Ac rM Ad)))⟩
     ·
      intro _u hj
      skip
      refine Sat.seq (Sat.region ?_)
      refine Tr.lA rfl rfl rfl Y55 rfl Sz55 mM (Cert.length (by first | exact oK  | exact hC | exact hm | exact ok40 | exact ok62 | exact ok95 | exact ok108 | exact ok129 | exact ok137 | exact ok146)) ?_
      refine Tr.call4 rfl rfl rfl rfl rfl Body30 (cert_bytes C E) (fun w h => hW.1.ext h rfl) ?_
      rintro v83 out83 ⟨s83, rfl, hac83⟩
      have hn83 := hac83.num
      have hle83 : (Bm E).length ≤ 5000 := certBy_tight ⟨⟨heok.prev, heok.heads⟩, heok.votes⟩
      refine Tr.m rfl rfl rfl ?_
      refine Tr.eX rfl rfl rfl rfl ?_
      refine Tr.eX rfl rfl rfl rfl ?_
      refine Tr.a rfl rfl rfl ?_
      refine Tr.a rfl rfl rfl ?_
      refine Tr.nil (Aa (Sat.seq (Sat.seq (Sat.region ?_))))
      refine Tr.m rfl rfl rfl ?_
      refine Tr.lA rfl rfl rfl Y55 rfl Sz55 mM (Cert.length (by first | exact oK  | exact hC | exact hm | exact ok40 | exact ok62 | exact ok95 | exact ok108 | exact ok129 | exact ok137 | exact ok146)) ?_
      refine Tr.cV rfl rfl rfl rfl Body31 (cert_check C E) (fun w h => hW.1.ext h rfl) ?_
      refine Tr.nei rfl rfl rfl rfl (show (!decide _) = false from congrArg not (decide_eq_true (rfl))) ?_
      refine Tr.nil (Aa ?_)
      refine Sat.cond_f rfl rfl ?_
      refine Sat.skip (Aa ?_)
      refine Sat.join (ι := Unit) (fun _u => ⟨[(2, s.v), (3, ptr n3 0), (4, ptr n4 0), (7, ptr n7 0)], [⟨n7, m40.cells, 57, 8⟩, ⟨n4, m.cells, 57, m.cells.length⟩, ⟨n3, C.cells, 55, C.cells.length⟩]⟩) (fun _u => True) ?_ ?_
      ·
       refine Sat.seq (Sat.region ?_)
       refine Tr.m rfl rfl rfl ?_
       refine Tr.eqi rfl rfl rfl rfl rfl ?_
       refine Tr.nil (Aa ?_)
       first
        | refine Sat.condP rfl (fun hc7 => ?_) (fun hc7 => ?_)
        | refine Sat.condNP rfl (fun hc7 => ?_) (fun hc7 => ?_)
        | refine Sat.cond rfl (fun hc7 => ?_) (fun hc7 => ?_)
       ·
        have hcE : Bv (Bm E) = (E, 0) := by rw [show Bm E = E.bytes from if_pos hc7]; exact certRd_bytes heok.prev heok.heads heok.votes hc7
        have hes := E.dCut.small (DCert.facts hc7).1
        have hhl := hW.1.fCut.fHeads.len
        refine Sat.seq (Sat.region ?_)
        refine Tr.m rfl rfl rfl ?_
        refine Tr.call4 rfl rfl rfl rfl rfl Body27 (kit_own s83 (Bm E) oM) (fun w h => acc_bytes hac83 (Lies.of h iN) rfl oM) ?_
        rintro v94 out94 ⟨q94, c94, rfl, hc94, rfl⟩
        refine Tr.call4 rfl rfl rfl rfl rfl Body29 (meets_know (cert_read (some ⟨q94, 0, none⟩) s83.n c94 (Bm E) hn83.symm (fun e => by cases e) oM) certread_know) (fun w h => SeesP.of (Aq h mM)) ?_
        rintro v95 out95 ⟨C95, ok95, rfl, l95, h95⟩
        rw [hcE] at l95 h95 ⊢
        dsimp only at l95 h95
        refine Tr.m rfl rfl rfl ?_
        refine Tr.eX rfl rfl rfl rfl ?_
        refine Tr.eX rfl rfl rfl rfl ?_
        refine Tr.alloc (cs := Cert.zero.cells) rfl Cert.zr rfl ?_
        intro n15 hn15 hf15
        refine Tr.sA rfl rfl rfl rfl (Cert.isCell (by first | exact oK  | exact hC | exact hm | exact ok40 | exact ok62 | exact ok95 | exact ok108 | exact ok129 | exact ok137 | exact ok146)) Sz55 (Cert.length (by first | exact oK  | exact hC | exact hm | exact ok40 | exact ok62 | exact ok95 | exact ok108 | exact ok129 | exact ok137 | exact ok146)) mM (Cert.length (by first | exact oK  | exact hC | exact hm | exact ok40 | exact ok62 | exact ok95 | exact ok108 | exact ok129 | exact ok137 | exact ok146)) uU ?_
        refine Tr.a rfl rfl rfl ?_
        refine Tr.nil (Aa (Sat.seq (Sat.region ?_)))
        refine Tr.m rfl rfl rfl ?_
        refine Tr.nei rfl rfl rfl rfl (show (!decide _) = false from congrArg not (decide_eq_true (rfl))) ?_
        refine Tr.m rfl rfl rfl ?_
        refine Tr.lA rfl rfl rfl Y55 rfl Sz55 mM (Cert.length (by first | exact oK  | exact hC | exact hm | exact ok40 | exact ok62 | exact ok95 | exact ok108 | exact ok129 | exact ok137 | exact ok146)) ?_
        refine Tr.lA rfl rfl rfl Y55 rfl Sz55 mM (Cert.length (by first | exact oK  | exact hC | exact hm | exact ok40 | exact ok62 | exact ok95 | exact ok108 | exact ok129 | exact ok137 | exact ok146)) ?_
        refine Tr.cV rfl rfl rfl rfl Body32 ((kit_cert C95 C E E oM).imp (fun w h => h) (fun v out h => by rwa [sameE_self] at h)) (fun w h => ⟨h95 w (Lies.of h iN), hW.1.ext h rfl⟩) ?_
        refine Tr.not rfl rfl rfl ?_
        refine Tr.pick rfl rfl rfl rfl rfl rfl ?_
        refine Tr.nil (Aa ?_)
        refine Sat.cond_f rfl rfl ?_
        refine Sat.skip (Aa ?_)
        exact ⟨(), trivial, Af (wk1 rfl (wk1 rfl (wk1 rfl (wk1 rfl wk0)))) (Ac rM (Ac rM (Ac rM Ad)))⟩
       ·
        refine Sat.skip (Aa ?_)
        exact ⟨(), trivial, Af (wk1 rfl (wk1 rfl (wk1 rfl (wk1 rfl wk0)))) (Ac rM (Ac rM (Ac rM Ad)))⟩
      ·
       intro _u hj
       skip
       refine Sat.seq (Sat.region ?_)
       refine Tr.lA rfl rfl rfl Y57 rfl Sz57 mM (Msg.length (by first | exact oK  | exact hC | exact hm | exact ok40 | exact ok62 | exact ok95 | exact ok108 | exact ok129 | exact ok137 | exact ok146)) ?_
       refine Tr.call4 rfl rfl rfl rfl rfl Body33 (kit_own_msg m D hs3_6) (fun w h => hW.2.1.ext h rfl) ?_
       rintro v108 out108 ⟨m108, ok108, rfl, h108⟩
       refine Tr.call4 rfl rfl rfl rfl rfl Body28 (msg_bytes m108 D) (fun w h => h108 w (Lies.of h iN)) ?_
       rintro v109 out109 ⟨s109, rfl, hac109⟩
       have hn109 := hac109.num
       refine Tr.m rfl rfl rfl ?_
       refine Tr.eX rfl rfl rfl rfl ?_
       refine Tr.eX rfl rfl rfl rfl ?_
       refine Tr.a rfl rfl rfl ?_
       refine Tr.a rfl rfl rfl ?_
       refine Tr.nil (Aa (Sat.seq (Sat.seq (Sat.region ?_))))
       refine Tr.m rfl rfl rfl ?_
       refine Tr.nei rfl rfl rfl rfl rfl ?_
       refine Tr.nil (Aa ?_)
       first
        | refine Sat.condP rfl (fun hc9 => ?_) (fun hc9 => ?_)
        | refine Sat.condNP rfl (fun hc9 => ?_) (fun hc9 => ?_)
        | refine Sat.cond rfl (fun hc9 => ?_) (fun hc9 => ?_)
       ·
        refine Sat.seq (Sat.region ?_)
        refine Tr.m rfl rfl rfl ?_
        refine Tr.lA rfl rfl rfl Y57 rfl Sz57 mM (Msg.length (by first | exact oK  | exact hC | exact hm | exact ok40 | exact ok62 | exact ok95 | exact ok108 | exact ok129 | exact ok137 | exact ok146)) ?_
        refine Tr.cV rfl rfl rfl rfl Body34 (msg_check m D) (fun w h => hW.2.1.ext h rfl) ?_
        refine Tr.eqi rfl rfl rfl rfl (decide_eq_true (rfl)) ?_
        refine Tr.m rfl rfl rfl ?_
        refine Tr.m rfl rfl rfl ?_
        refine Tr.lenSl rfl rfl rfl Y58 ?_
        refine Tr.eqi rfl rfl rfl rfl (decide_eq_true (by rw [hn109, show msgR D = [] from if_neg hc9]; rfl)) ?_
        refine Tr.pick rfl rfl rfl rfl rfl rfl ?_
        refine Tr.a rfl rfl rfl ?_
        refine Tr.nil (Aa (Sat.ret (Ap (Ai ?_))))
        refine ⟨_, [], Ae rfl rfl, sP, sP, ?_, rfl⟩
        rfl
       ·
        refine Sat.skip (Aa (Sat.seq (Sat.seq (Sat.region ?_))))
        have cD : D.check = 0 := hc9
        have hbD : msgR D = msgB D := if_pos cD
        rw [hbD] at hac109 hn109
        have hmost := msgB_most cD hoks
        have hpos := msgB_pos D
        refine Tr.m rfl rfl rfl ?_
        refine Tr.lenSl rfl rfl rfl Y58 ?_
        refine Tr.eqi rfl rfl rfl rfl (decide_eq_false oM) ?_
        refine Tr.nil (Aa ?_)
        refine Sat.cond_f rfl rfl ?_
        refine Sat.skip (Aa (Sat.seq (Sat.region ?_)))
        refine Tr.m rfl rfl rfl ?_
        refine Tr.call4 rfl rfl rfl rfl rfl Body27 (kit_own s109 (msgB D) oM) (fun w h => acc_bytes hac109 (Lies.of h iN) rfl oM) ?_
        rintro v128 out128 ⟨q128, c128, rfl, hc128, rfl⟩
        refine Tr.call4 rfl rfl rfl rfl rfl Body26 (sync_read (some ⟨q128, 0, none⟩) s109.n c128 (msgB D) hn109.symm (fun e => by cases e) oM) (fun w h => SeesP.of (Aq h mM)) ?_
        rintro v129 out129 ⟨m129, ok129, rfl, h129⟩
        rw [msgRd_bytes cD hoks] at h129 ⊢
        dsimp only at h129
        refine Tr.m rfl rfl rfl ?_
        refine Tr.eX rfl rfl rfl rfl ?_
        refine Tr.eX rfl rfl rfl rfl ?_
        refine Tr.sA rfl rfl rfl rfl (Msg.isCell (by first | exact oK  | exact hC | exact hm | exact ok40 | exact ok62 | exact ok95 | exact ok108 | exact ok129 | exact ok137 | exact ok146)) Sz57 (Msg.length (by first | exact oK  | exact hC | exact hm | exact ok40 | exact ok62 | exact ok95 | exact ok108 | exact ok129 | exact ok137 | exact ok146)) mM (Msg.length (by first | exact oK  | exact hC | exact hm | exact ok40 | exact ok62 | exact ok95 | exact ok108 | exact ok129 | exact ok137 | exact ok146)) uU ?_
        refine Tr.a rfl rfl rfl ?_
        refine Tr.nil (Aa (Sat.seq (Sat.region ?_)))
        refine Tr.m rfl rfl rfl ?_
        refine Tr.call4 rfl rfl rfl rfl rfl Body27 (kit_own s109 (msgB D) oM) (fun w h => acc_bytes hac109 (Lies.of h iN) rfl oM) ?_
        rintro v134 out134 ⟨q134, c134, rfl, hc134, rfl⟩
        refine Tr.mkRow (z := u8 0) [u8 0] (Ab [0]) rfl rfl rfl Y58 Sz5 Zr5 rfl rfl (by intro v hv; rw [List.mem_singleton.1 hv]; rfl) dE rfl ?_
        intro q135
        refine Tr.appendSl (z := u8 0) (by' := 1) (Ab [0]) rfl rfl rfl rfl rfl Y58 Y58 Sz5 Zr5 (by unfold By; kernel_rfl) rfl (fun w h => SeesP.of (Aq h mM)) (fun e => by cases e) (Bd _) rM rfl (by rw [Ab, List.length_map, hn109, Nat.mul_one]) hc134 oM oM (by rfl) ?_
        intro q136 c136 hq136
        refine Tr.call4 rfl rfl rfl rfl rfl Body26 (sync_read (some ⟨q136, 0, none⟩) (s109.n + 1) c136 (msgB D ++ [0]) (by rw [List.length_append, hn109]; rfl) (fun e => by cases e) oM) (fun w h => by rw [bytesV_app]; exact SeesP.of (Aq h mM)) ?_
        rintro v137 out137 ⟨m137, ok137, rfl, h137⟩
        clear h137
        rw [msgRd_more cD hoks]
        refine Tr.m rfl rfl rfl ?_
        refine Tr.eX rfl rfl rfl rfl ?_
        refine Tr.eX rfl rfl rfl rfl ?_
        refine Tr.alloc (cs := Msg.zero.cells) rfl Msg.zr rfl ?_
        intro n17 hn17 hf17
        refine Tr.sA rfl rfl rfl rfl (Msg.isCell (by first | exact oK  | exact hC | exact hm | exact ok40 | exact ok62 | exact ok95 | exact ok108 | exact ok129 | exact ok137 | exact ok146)) Sz57 (Msg.length (by first | exact oK  | exact hC | exact hm | exact ok40 | exact ok62 | exact ok95 | exact ok108 | exact ok129 | exact ok137 | exact ok146)) mM (Msg.length (by first | exact oK  | exact hC | exact hm | exact ok40 | exact ok62 | exact ok95 | exact ok108 | exact ok129 | exact ok137 | exact ok146)) uU ?_
        refine Tr.a rfl rfl rfl ?_
        refine Tr.nil (Aa (Sat.seq (Sat.region ?_)))
        refine Tr.m rfl rfl rfl ?_
        refine Tr.m rfl rfl rfl ?_
        refine Tr.lenSl rfl rfl rfl Y58 ?_
        refine Tr.sub_i64 rfl rfl rfl rfl oM ?_
        refine Tr.sliceHiG s109 (s109.n - 1) rfl rfl rfl rfl oM (by have := hac109.cap; omega) Y58 Sz5 ?_
        refine Tr.call4 rfl rfl rfl rfl rfl Body26 (sync_read s109.p (s109.n - 1) s109.c ((msgB D).take ((msgB D).length - 1)) (by rw [List.length_take]; omega) (fun e => by have := hac109.nil e; omega) oM) (fun w h => seesP_take (hac109.see (Lies.of h iN))) ?_
        rintro v146 out146 ⟨m146, ok146, rfl, h146⟩
        clear h146
        rw [msgRd_less cD hoks]
        refine Tr.m rfl rfl rfl ?_
        refine Tr.eX rfl rfl rfl rfl ?_
        refine Tr.eX rfl rfl rfl rfl ?_
        refine Tr.alloc (cs := Msg.zero.cells) rfl Msg.zr rfl ?_
        intro n19 hn19 hf19
        refine Tr.sA rfl rfl rfl rfl (Msg.isCell (by first | exact oK  | exact hC | exact hm | exact ok40 | exact ok62 | exact ok95 | exact ok108 | exact ok129 | exact ok137 | exact ok146)) Sz57 (Msg.length (by first | exact oK  | exact hC | exact hm | exact ok40 | exact ok62 | exact ok95 | exact ok108 | exact ok129 | exact ok137 | exact ok146)) mM (Msg.length (by first | exact oK  | exact hC | exact hm | exact ok40 | exact ok62 | exact ok95 | exact ok108 | exact ok129 | exact ok137 | exact ok146)) uU ?_
        refine Tr.a rfl rfl rfl ?_
        refine Tr.nil (Aa (Sat.seq (Sat.region ?_)))
        refine Tr.m rfl rfl rfl ?_
        refine Tr.eqi rfl rfl rfl rfl (decide_eq_true (rfl)) ?_
        refine Tr.m rfl rfl rfl ?_
        refine Tr.lA rfl rfl rfl Y57 rfl Sz57 mM (Msg.length (by first | exact oK  | exact hC | exact hm | exact ok40 | exact ok62 | exact ok95 | exact ok108 | exact ok129 | exact ok137 | exact ok146)) ?_
        refine Tr.lA rfl rfl rfl Y57 rfl Sz57 mM (Msg.length (by first | exact oK  | exact hC | exact hm | exact ok40 | exact ok62 | exact ok95 | exact ok108 | exact ok129 | exact ok137 | exact ok146)) ?_
        refine Tr.cV rfl rfl rfl rfl Body35 (kit_msg_same m129 m D (msg_tiny cD)) (fun w h => ⟨h129 w (Lies.of h iN), hW.2.1.ext h rfl⟩) ?_
        refine Tr.pick rfl rfl rfl rfl rfl rfl ?_
        refine Tr.m rfl rfl rfl ?_
        refine Tr.m rfl rfl rfl ?_
        refine Tr.eqi rfl rfl rfl rfl (decide_eq_true (rfl)) ?_
        refine Tr.pick rfl rfl rfl rfl rfl rfl ?_
        refine Tr.m rfl rfl rfl ?_
        refine Tr.m rfl rfl rfl ?_
        refine Tr.eqi rfl rfl rfl rfl (decide_eq_true (rfl)) ?_
        refine Tr.pick rfl rfl rfl rfl rfl rfl ?_
        refine Tr.m rfl rfl rfl ?_
        refine Tr.m rfl rfl rfl ?_
        refine Tr.lenSl rfl rfl rfl Y58 ?_
        refine Tr.leq rfl rfl rfl rfl (decide_eq_true oM) ?_
        refine Tr.pick rfl rfl rfl rfl rfl rfl ?_
        refine Tr.a rfl rfl rfl ?_
        refine Tr.nil (Aa (Sat.ret (Ai ?_)))
        refine ⟨_, [], Ae rfl rfl, sP, sP, ?_, rfl⟩
        rfl
  ·
   first | have hs3_6 := of_decide_eq_true hs3_60 | have hs3_6 := of_decide_eq_false hs3_60 | have hs3_6 := A0 hs3_60 | have hs3_6 := A1 hs3_60 | have hs3_6 := hs3_60
   refine Tr.not rfl rfl rfl ?_
   refine Tr.pick rfl rfl rfl rfl rfl rfl ?_
   refine Tr.m rfl rfl rfl ?_
   refine Tr.skp rfl rfl ?_
   refine Tr.skp rfl rfl ?_
   refine Tr.skp rfl rfl ?_
   refine Tr.pick rfl rfl rfl rfl rfl rfl ?_
   refine Tr.nil (Aa ?_)
   refine Sat.cond_t rfl rfl ?_
   refine Sat.seq (Sat.region ?_)
   refine Tr.a rfl rfl rfl ?_
   refine Tr.nil (Aa (Sat.ret (Ap (Ai ?_))))
   refine ⟨_, [], Ae rfl rfl, sP, sP, ?_, rfl⟩
   rfl
 ·
  first | have hs3_2 := of_decide_eq_true hs3_20 | have hs3_2 := of_decide_eq_false hs3_20 | have hs3_2 := A0 hs3_20 | have hs3_2 := A1 hs3_20 | have hs3_2 := hs3_20
  refine Tr.not rfl rfl rfl ?_
  refine Tr.m rfl rfl rfl ?_
  refine Tr.skp rfl rfl ?_
  refine Tr.skp rfl rfl ?_
  refine Tr.skp rfl rfl ?_
  refine Tr.pick rfl rfl rfl rfl rfl rfl ?_
  refine Tr.m rfl rfl rfl ?_
  refine Tr.skp rfl rfl ?_
  refine Tr.skp rfl rfl ?_
  refine Tr.skp rfl rfl ?_
  refine Tr.pick rfl rfl rfl rfl rfl rfl ?_
  refine Tr.nil (Aa ?_)
  refine Sat.cond_t rfl rfl ?_
  refine Sat.seq (Sat.region ?_)
  refine Tr.a rfl rfl rfl ?_
  refine Tr.nil (Aa (Sat.ret (Ap (Ai ?_))))
  refine ⟨_, [], Ae rfl rfl, sP, sP, ?_, rfl⟩
  rfl

end Go.Proofs.YtdifpjmfabhpiaaGreat
end

section
namespace Go.Proofs.YtdifpjmfabhpiaaGreat
open Go Go.ChangeShapes Go.WideShapes Go.ChangeAt Go.RowKit

theorem ownSBack : ownKnob Tryz.prog.godebug = none := by kernel_rfl
theorem laidOutSBack : laidOutB Tryz.prog = true := by kernel_rfl

theorem openSlSBack {H : Type} {enc : TypeId × Value → H} {P : Program} {W : World} {base : Nat} {sp : Nat → Bool} {held : Bool} {k e : TypeId} (hu : P.underlying k = some (.slice e)) (he : P.underlying e = some (.int .u8)) (hc : P.cellsOf e = 1) {r : Reach} {b0 : Nat} {v : Value} {d : DataW H} {ps : List MemPlace}
    (hval : Value.okWide P W r b0 k v) (hd : DataW.Trod enc P W base sp held k v d ps) : ∃ s l, v = Hw.Sl.v s ∧ Hw.BytesAt W s l := by
  simp only [Value.okWide, hu, Cell.okWide] at hval
  obtain ⟨a1, len, cap, rfl⟩ : ∃ a1 len cap, v = .slice a1 len cap := by
    unfold Cell.ok at hval
    rw [hu] at hval
    split at hval <;> first | exact hval.elim | exact ⟨_, _, _, rfl⟩ | simp_all
  obtain ⟨fuel, hf⟩ := hd
  obtain ⟨s, l, h1, h2⟩ := Hw.open_bytesS hu he hc hf
  refine ⟨s, l, ?_, h2⟩
  simp [Value.cells] at h1
  exact h1

theorem walkSBack (w : World) (x0 : Cert) (D0 : DCert) (is0 : CertIs w x0 D0) (x1 : Msg) (D1 : DMsg) (is1 : MsgIs w x1 D1) (s2 : Hw.Sl) (l2 : List UInt8) (hs2 : Hw.BytesAt w s2 l2) : Calls Tryz.prog 4 #[Hw.agg x0.cells, Hw.agg x1.cells, Hw.Sl.v s2] w fun e w' => e = .returned (.bool true) ∧ Below w.heap.size w w' :=
  by
  have fin : ∀ {us : Array Value}, Calls Tryz.prog 4 us w (fun e W' => ∃ v out, e = .returned v ∧ (v = .bool true ∧ out = []) ∧ Hw.Ret [] out w W') → Calls Tryz.prog 4 us w (fun e w' => e = .returned (.bool true) ∧ Below w.heap.size w w') :=
    fun h => h.mono fun e w' ⟨v, out, he, ⟨hv, ho⟩, hr⟩ => ⟨by rw [he, hv], Hw.Keeps.below hr.keeps⟩
  exact fin (law_syncback x0 D0 x1 D1 s2 l2 w ⟨is0, is1, hs2⟩)

theorem liftedSBack (os : Os) (started : os.Started) (H : Type) (enc : TypeId × Value → H) :
    ReturnsInHanded {} Tryz.checked os 4 .any (Rows.syncBackSpec.pre6 enc Tryz.prog Tryz.f4 Rows.syncBackRow.domain false) (Rows.syncBackSpec.post enc Tryz.prog Tryz.f4 false true false false) := by
  refine returnsInHanded_of_change (C := Tryz.checked) ownSBack started (by kernel_rfl) Tryz.func4
    (ChangeSpec.witness6 (enc := enc) (C := Tryz.checked) false ⟨#[], #[.agg (#[.int .u64 0] ++ Array.replicate 32 (.int .u8 0) ++ #[.slice none 0 0, .slice none 0 0]), .agg #[.int .i64 0, .int .u64 0, .slice none 0 0, .slice none 0 0, .slice none 0 0, .slice none 0 0, .slice none 0 0, .slice none 0 0], .slice none 0 0], []⟩ 8 (by kernel_rfl) (by kernel_rfl) (by kernel_rfl) (by kernel_rfl)) ?_
  intro W base args ds gs before hval0 hW hcnd _
  have hval : ∀ (j : Nat) t v, Tryz.f4.params[j]? = some t → args[j]? = some v → Value.okWide Tryz.prog W .any base t v := hval0
  have hW' := hW
  obtain ⟨p, q, hA0, hV, rfl, hfz, hnd⟩ := hW
  have hA : DataW.TrodAll enc Tryz.prog W 0 (fun _ => true) true Tryz.f4.params.toList args.toList ds p := hA0
  rw [Tryz.params4] at hA hval
  obtain ⟨v0, vs0, d0, ds0, p0, q0, hargs, rfl, rfl, h0, r0⟩ := trodAll_cons hA
  obtain ⟨v1, vs1, d1, ds1, p1, q1, rfl, rfl, rfl, h1, r1⟩ := trodAll_cons r0
  obtain ⟨v2, vs2, d2, ds2, p2, q2, rfl, rfl, rfl, h2, r2⟩ := trodAll_cons r1
  obtain ⟨rfl, rfl, rfl⟩ := trodAll_nil r2
  obtain rfl : args = #[v0, v1, v2] := by cases args; simp_all
  obtain ⟨rfl, rfl⟩ := trodVars_none hV
  have k0 := h0
  have lt0 : ∀ x ∈ p0, x.block < W.heap.size := by obtain ⟨m, hm⟩ := k0; exact DataW.trod_lt m _ _ _ hm
  have k1 := h1
  have lt1 : ∀ x ∈ p1, x.block < W.heap.size := by obtain ⟨m, hm⟩ := k1; exact DataW.trod_lt m _ _ _ hm
  have k2 := h2
  have lt2 : ∀ x ∈ p2, x.block < W.heap.size := by obtain ⟨m, hm⟩ := k2; exact DataW.trod_lt m _ _ _ hm
  obtain ⟨x0, D0, rfl, is0⟩ := Cert.openW (hval 0 55 v0 rfl rfl) h0
  obtain ⟨x1, D1, rfl, is1⟩ := Msg.openW (hval 1 57 v1 rfl rfl) h1
  obtain ⟨s2, l2, rfl, hs2⟩ := openSlSBack Tryz.underlying58 Tryz.underlying5 (by kernel_rfl) (hval 2 58 v2 rfl rfl) h2
  clear hA0 hval0
  refine (walkSBack W x0 D0 is0 x1 D1 is1 s2 l2 hs2).mono fun e W' ⟨he, bel⟩ => ?_
  subst he
  exact ⟨_, rfl, _, _, _, [], _, [], hW', trodAll_mk1 (shut_bool Tryz.underlying4 _), (trodAll_cons_mk (Below.trod laidOutSBack (by kernel_rfl) (of_decide_eq_true (by kernel_rfl)) k0 bel lt0) (trodAll_cons_mk (Below.trod laidOutSBack (by kernel_rfl) (of_decide_eq_true (by kernel_rfl)) k1 bel lt1) (trodAll_cons_mk (Below.trod laidOutSBack (by kernel_rfl) (of_decide_eq_true (by kernel_rfl)) k2 bel lt2) trodAll_mk0))), rfl, bel.frame _, fun h => by cases h⟩

theorem syncBack_holds : Rows.SyncBackSaid :=
  OpenClaim.holds_of_wide 4 Tryz.f4 rfl rfl rfl rfl rfl rfl rfl ⟨rfl, rfl, rfl, rfl, rfl⟩ rfl rfl rfl rfl rfl (by kernel_rfl) Tryz.func4 (by kernel_rfl)
    (of_decide_eq_true (by kernel_rfl)) (by unfold Func.isWrapper; first | (rw [if_pos (by decide +kernel)]; kernel_rfl) | (rw [if_neg (by decide +kernel)]; exact ⟨rfl, rfl⟩))
    (fun os started H enc _ => liftedSBack os started H enc)

end Go.Proofs.YtdifpjmfabhpiaaGreat
end
