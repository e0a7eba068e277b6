/- Contracts of functions of the loaded program, and the lemmas that they need (part 4). It proves no statement by itself; it has no conditions. -/
import Derived.WalkKit
import Derived.Orders
import Derived.Deep.LoopGhost
import Derived.IntWalk
import Derived.Laws.StructEq
import Derived.ArgAppend
import Derived.Deep.AppendSrc
import Derived.Lib.Bytealg
import Derived.Lib.BytesEntry
import Derived.Laws.IdiomStrings
import Derived.WideKeyArr2
import Derived.ProofKit
import Derived.OpenShut
import Derived.Deep.Slices
import Derived.Laws.Pointers
import Derived.Laws.Cover3
import Derived.LaidEqlPtr
import Derived.LoopN
import Derived.RangeFuncLeaves
import Derived.RangeFuncSeq
import Derived.OrdersIn
import Derived.Test.YtlgbmfokgnoocaaRows
import Derived.KernelRfl
import Derived.Laws.Externs
import Derived.Defers
import Derived.ChangeOld
import Derived.Below
import Derived.Test.YtlgbmfokgnoocaaKKindsC3
section
namespace Go.Proofs.Ytlgbmfokgnoocaa
open Go Hw
set_option linter.unusedVariables false
set_option linter.unusedSimpArgs false

def DCert.vote (D : DCert) (k : Nat) : Vote := D.dVotes.getD k Vote.zero
def DCert.head (D : DCert) : Bool := (!decide (D.dCut.check = 0)) || (decide ((D.dVotes.length : Int) < 1) || decide ((16 : Int) < (D.dVotes.length : Int)))
/-- what is wrong with one of the votes -/
def DCert.bad (D : DCert) (k : Nat) : Prop := ¬ vcheck (D.vote k) = 0 ∨ ¬ (D.vote k).fPhase = 3 ∨ ¬ ((D.vote k).fHeight.toNat : Int) = (D.dCut.dHeight.toNat : Int) ∨ ¬ (D.vote k).fValue = cnameD D.dCut ∨ ¬ ((D.vote k).fRound.toNat : Int) = ((D.vote 0).fRound.toNat : Int) ∨ (0 < k ∧ (0 : Int) ≤ cmpB (D.vote (k - 1)).fVoter (D.vote k).fVoter)
open Classical in
noncomputable def DCert.check (D : DCert) : Int := if D.head = true ∨ ∃ k, k < D.dVotes.length ∧ D.bad k then 2 else 0
theorem cert_bad1 {D : DCert} (h : D.head = true) : D.check = 2 := if_pos (.inl h)
theorem cert_bad2 {D : DCert} {k : Nat} (h : k < D.dVotes.length) (hb : D.bad k) : D.check = 2 := if_pos (.inr ⟨k, h, hb⟩)
theorem cert_good {D : DCert} (h : ¬ D.head = true) (hb : ∀ j, j < D.dVotes.length → ¬ D.bad j) : D.check = 0 := if_neg fun e => e.elim h fun ⟨j, h1, h2⟩ => hb j h1 h2
theorem sees_sub {w : World} {b o off : Nat} {cs l : List Value} (hs : Sees w b o cs) (h : ∀ (j : Nat) (v : Value), l[j]? = some v → cs[off + j]? = some v) : Sees w b (o + off) l := fun j v hj => by
  have := hs _ v (h j v hj)
  rwa [← Nat.add_assoc] at this
theorem vote_is {D : DCert} {k : Nat} {V : Vote} (h : D.dVotes[k]? = some V) : D.vote k = V := by simp [DCert.vote, List.getD_eq_getElem?_getD, h]

set_option maxRecDepth 100000 in
set_option maxHeartbeats 4000000 in
theorem cert_check (C : Cert) (D : DCert) : Meets Try.prog 42 [agg C.cells] [] (fun W => CertIs W C D) (fun v out => v = i64 D.check ∧ out = []) := by
  intro W hW
  obtain ⟨rs, hV⟩ := hW.fVotes
  have hok := hW.ok
  have hmax := hV.max
  simp only [maxLen] at hmax
  have hcap := hV.cap
  have hnd := hV.nd
  have ehh := hW.fCut.fHeight
  refine calls_of (hp0 := []) Try.func42 rfl 79 Try.ntmps42 rfl (HRep.nil _) ?_
  refine Sat.seq ?_
  refine Sat.region ?_
  refine Tr.boxA rfl rfl ?_
  intro n1 hn1 hf1
  refine Tr.assign rfl rfl rfl ?_
  refine Tr.nil ?_
  refine at_n ?_
  refine Sat.seq ?_
  refine Sat.seq ?_
  refine Sat.region ?_
  refine Tr.fld rfl rfl rfl Try.underlying36 rfl Sz33 dE _ rfl ?_
  refine Tr.loadN (Cut.cells _) rfl rfl rfl Try.underlying33 rfl Sz33 mM (Cert.row_fCut (by first | (simp [cnameD_length, hW.fCut.ok.l_fPrev]; done) | exact oK  | exact hok | exact hVk | exact hok.o_fCut)) (Cert.rl_fCut (by first | (simp [cnameD_length, hW.fCut.ok.l_fPrev]; done) | exact oK  | exact hok | exact hVk | exact hok.o_fCut)) ?_
  refine Tr.callV rfl rfl rfl rfl Body49 (cut_check C.fCut D.dCut) (fun w h => hW.fCut.ext h rfl) ?_
  refine two (fun r hr k => Tr.nei rfl rfl rfl rfl hr k) (fun hs1_30 => ?_) (fun hs1_30 => ?_)
  ·
    first | have hs1_3 := of_decide_eq_true hs1_30 | have hs1_3 := of_decide_eq_false hs1_30 | have hs1_3 := nd_t hs1_30 | have hs1_3 := nd_f hs1_30 | have hs1_3 := hs1_30
    refine Tr.move rfl rfl rfl ?_
    refine Tr.skp rfl rfl ?_
    refine Tr.skp rfl rfl ?_
    refine Tr.skp rfl rfl ?_
    refine Tr.skp rfl rfl ?_
    refine Tr.pick rfl rfl rfl rfl rfl rfl ?_
    refine Tr.move rfl rfl rfl ?_
    refine Tr.skp rfl rfl ?_
    refine Tr.skp rfl rfl ?_
    refine Tr.skp rfl rfl ?_
    refine Tr.skp rfl rfl ?_
    refine Tr.pick rfl rfl rfl rfl rfl rfl ?_
    refine Tr.nil ?_
    refine at_n ?_
    refine Sat.cond_t rfl rfl ?_
    refine Sat.seq ?_
    refine Sat.region ?_
    refine Tr.assign rfl rfl rfl ?_
    refine Tr.nil ?_
    refine at_n ?_
    refine Sat.ret ?_
    refine at_r ?_
    refine en_r ?_
    refine ⟨_, [], res_tmp rfl rfl, sP, sP, ?_, rfl⟩
    first
      | exact congrArg i64 (cert_bad1 (by simp only [DCert.head, hnd, Bool.or_eq_true, Bool.not_eq_true', decide_eq_true_eq, decide_eq_false_iff_not]; omega)).symm
      | exact congrArg i64 (cert_bad2 (k := k) oM (by
          simp only [DCert.bad, hvk, hv0, ← ehh]
          first
            | exact .inl ‹_›
            | exact .inr (.inl ‹_›)
            | exact .inr (.inr (.inl ‹_›))
            | exact .inr (.inr (.inr (.inl ‹_›)))
            | exact .inr (.inr (.inr (.inr (.inl ‹_›))))
            | (rw [vote_is hdp]; exact .inr (.inr (.inr (.inr (.inr ⟨by omega, by omega⟩))))))).symm
      | exact congrArg i64 (cert_good hnb (by rw [hnd]; exact hg)).symm
  ·
    first | have hs1_3 := of_decide_eq_true hs1_30 | have hs1_3 := of_decide_eq_false hs1_30 | have hs1_3 := nd_t hs1_30 | have hs1_3 := nd_f hs1_30 | have hs1_3 := hs1_30
    refine Tr.move rfl rfl rfl ?_
    refine Tr.fld rfl rfl rfl Try.underlying36 rfl Sz34 dE _ rfl ?_
    refine Tr.load1 rfl rfl rfl Try.underlying34 rfl mM (by first | exact Cert.get_fVotes (by first | (simp [cnameD_length, hW.fCut.ok.l_fPrev]; done) | exact oK  | exact hok | exact hVk | exact hok.o_fCut) | exact (by first | rfl | exact get_words (by first | omega | (simp [cnameD_length, hW.fCut.ok.l_fPrev]; done) | (simp [cnameD_length, hW.fCut.ok.l_fPrev]; omega)) | exact get_bytes (by first | omega | (simp [cnameD_length, hW.fCut.ok.l_fPrev]; done) | (simp [cnameD_length, hW.fCut.ok.l_fPrev]; omega)) | exact get_ints (by first | omega | (simp [cnameD_length, hW.fCut.ok.l_fPrev]; done) | (simp [cnameD_length, hW.fCut.ok.l_fPrev]; omega)))) ?_
    refine Tr.lenSl rfl rfl rfl Try.underlying34 ?_
    refine two (fun r hr k => Tr.lss rfl rfl rfl rfl hr k) (fun hs1_80 => ?_) (fun hs1_80 => ?_)
    ·
      first | have hs1_8 := of_decide_eq_true hs1_80 | have hs1_8 := of_decide_eq_false hs1_80 | have hs1_8 := nd_t hs1_80 | have hs1_8 := nd_f hs1_80 | have hs1_8 := hs1_80
      refine Tr.pick rfl rfl rfl rfl rfl rfl ?_
      refine Tr.move rfl rfl rfl ?_
      refine Tr.skp rfl rfl ?_
      refine Tr.skp rfl rfl ?_
      refine Tr.skp rfl rfl ?_
      refine Tr.skp rfl rfl ?_
      refine Tr.pick rfl rfl rfl rfl rfl rfl ?_
      refine Tr.nil ?_
      refine at_n ?_
      refine Sat.cond_t rfl rfl ?_
      refine Sat.seq ?_
      refine Sat.region ?_
      refine Tr.assign rfl rfl rfl ?_
      refine Tr.nil ?_
      refine at_n ?_
      refine Sat.ret ?_
      refine at_r ?_
      refine en_r ?_
      refine ⟨_, [], res_tmp rfl rfl, sP, sP, ?_, rfl⟩
      first
        | exact congrArg i64 (cert_bad1 (by simp only [DCert.head, hnd, Bool.or_eq_true, Bool.not_eq_true', decide_eq_true_eq, decide_eq_false_iff_not]; omega)).symm
        | exact congrArg i64 (cert_bad2 (k := k) oM (by
            simp only [DCert.bad, hvk, hv0, ← ehh]
            first
              | exact .inl ‹_›
              | exact .inr (.inl ‹_›)
              | exact .inr (.inr (.inl ‹_›))
              | exact .inr (.inr (.inr (.inl ‹_›)))
              | exact .inr (.inr (.inr (.inr (.inl ‹_›))))
              | (rw [vote_is hdp]; exact .inr (.inr (.inr (.inr (.inr ⟨by omega, by omega⟩))))))).symm
        | exact congrArg i64 (cert_good hnb (by rw [hnd]; exact hg)).symm
    ·
      first | have hs1_8 := of_decide_eq_true hs1_80 | have hs1_8 := of_decide_eq_false hs1_80 | have hs1_8 := nd_t hs1_80 | have hs1_8 := nd_f hs1_80 | have hs1_8 := hs1_80
      refine Tr.pick rfl rfl rfl rfl rfl rfl ?_
      refine Tr.move rfl rfl rfl ?_
      refine Tr.fld rfl rfl rfl Try.underlying36 rfl Sz34 dE _ rfl ?_
      refine Tr.load1 rfl rfl rfl Try.underlying34 rfl mM (by first | exact Cert.get_fVotes (by first | (simp [cnameD_length, hW.fCut.ok.l_fPrev]; done) | exact oK  | exact hok | exact hVk | exact hok.o_fCut) | exact (by first | rfl | exact get_words (by first | omega | (simp [cnameD_length, hW.fCut.ok.l_fPrev]; done) | (simp [cnameD_length, hW.fCut.ok.l_fPrev]; omega)) | exact get_bytes (by first | omega | (simp [cnameD_length, hW.fCut.ok.l_fPrev]; done) | (simp [cnameD_length, hW.fCut.ok.l_fPrev]; omega)) | exact get_ints (by first | omega | (simp [cnameD_length, hW.fCut.ok.l_fPrev]; done) | (simp [cnameD_length, hW.fCut.ok.l_fPrev]; omega)))) ?_
      refine Tr.lenSl rfl rfl rfl Try.underlying34 ?_
      refine Tr.gtr rfl rfl rfl rfl rfl ?_
      refine Tr.pick rfl rfl rfl rfl rfl rfl ?_
      refine Tr.nil ?_
      refine at_n ?_
      first
        | refine Sat.condP rfl (fun hc0 => ?_) (fun hc0 => ?_)
        | refine Sat.condNP rfl (fun hc0 => ?_) (fun hc0 => ?_)
        | refine Sat.cond rfl (fun hc0 => ?_) (fun hc0 => ?_)
      ·
        refine Sat.seq ?_
        refine Sat.region ?_
        refine Tr.assign rfl rfl rfl ?_
        refine Tr.nil ?_
        refine at_n ?_
        refine Sat.ret ?_
        refine at_r ?_
        refine en_r ?_
        refine ⟨_, [], res_tmp rfl rfl, sP, sP, ?_, rfl⟩
        first
          | exact congrArg i64 (cert_bad1 (by simp only [DCert.head, hnd, Bool.or_eq_true, Bool.not_eq_true', decide_eq_true_eq, decide_eq_false_iff_not]; omega)).symm
          | exact congrArg i64 (cert_bad2 (k := k) oM (by
              simp only [DCert.bad, hvk, hv0, ← ehh]
              first
                | exact .inl ‹_›
                | exact .inr (.inl ‹_›)
                | exact .inr (.inr (.inl ‹_›))
                | exact .inr (.inr (.inr (.inl ‹_›)))
                | exact .inr (.inr (.inr (.inr (.inl ‹_›))))
                | (rw [vote_is hdp]; exact .inr (.inr (.inr (.inr (.inr ⟨by omega, by omega⟩))))))).symm
          | exact congrArg i64 (cert_good hnb (by rw [hnd]; exact hg)).symm
      ·
        have hnb : ¬ D.head = true := by simp only [DCert.head, hnd, Bool.or_eq_true, Bool.not_eq_true', decide_eq_true_eq, decide_eq_false_iff_not]; omega
        refine Sat.skip ?_
        refine at_n ?_
        refine Sat.seq ?_
        refine Sat.region ?_
        refine Tr.fld rfl rfl rfl Try.underlying36 rfl Sz33 dE _ rfl ?_
        refine Tr.loadN (Cut.cells _) rfl rfl rfl Try.underlying33 rfl Sz33 mM (Cert.row_fCut (by first | (simp [cnameD_length, hW.fCut.ok.l_fPrev]; done) | exact oK  | exact hok | exact hVk | exact hok.o_fCut)) (Cert.rl_fCut (by first | (simp [cnameD_length, hW.fCut.ok.l_fPrev]; done) | exact oK  | exact hok | exact hVk | exact hok.o_fCut)) ?_
        refine Tr.callV rfl rfl rfl rfl Body69 (cut_name C.fCut D.dCut) (fun w h => hW.fCut.ext h rfl) ?_
        refine Tr.alloc (cs := (bytesV (List.replicate 32 0))) rfl Zr25 rfl ?_
        intro n3 hn3 hf3
        first
          | refine Tr.storeAll rfl rfl rfl rfl cB Sz25 (by first | assumption | (simp [cnameD_length, hW.fCut.ok.l_fPrev]; done) | (rw [bytesV, List.length_map]; assumption)) mM (by first | assumption | (simp [cnameD_length, hW.fCut.ok.l_fPrev]; done) | (rw [bytesV, List.length_map]; assumption)) uU ?_
          | refine Tr.storeN _ rfl rfl rfl rfl rfl cB Sz25 (by first | assumption | (simp [cnameD_length, hW.fCut.ok.l_fPrev]; done) | (rw [bytesV, List.length_map]; assumption)) mM (by first | assumption | (simp [cnameD_length, hW.fCut.ok.l_fPrev]; done) | (rw [bytesV, List.length_map]; assumption)) (by exact rfl) uU ?_
        refine Tr.nil ?_
        refine at_n ?_
        refine Sat.seq ?_
        refine Sat.seq ?_
        refine Sat.region ?_
        refine Tr.fld rfl rfl rfl Try.underlying36 rfl Sz34 dE _ rfl ?_
        refine Tr.load1 rfl rfl rfl Try.underlying34 rfl mM (by first | exact Cert.get_fVotes (by first | (simp [cnameD_length, hW.fCut.ok.l_fPrev]; done) | exact oK  | exact hok | exact hVk | exact hok.o_fCut) | exact (by first | rfl | exact get_words (by first | omega | (simp [cnameD_length, hW.fCut.ok.l_fPrev]; done) | (simp [cnameD_length, hW.fCut.ok.l_fPrev]; omega)) | exact get_bytes (by first | omega | (simp [cnameD_length, hW.fCut.ok.l_fPrev]; done) | (simp [cnameD_length, hW.fCut.ok.l_fPrev]; omega)) | exact get_ints (by first | omega | (simp [cnameD_length, hW.fCut.ok.l_fPrev]; done) | (simp [cnameD_length, hW.fCut.ok.l_fPrev]; omega)))) ?_
        refine Tr.lenSl rfl rfl rfl Try.underlying34 ?_
        refine Tr.move rfl rfl rfl ?_
        refine Tr.nil ?_
        refine at_n ?_
        refine Sat.block ?_
        refine Sat.loop (ι := Nat) (fun k => ⟨[(1, ptr n1 0), (3, ptr n3 0), (26, C.fVotes.v), (27, i64 (C.fVotes.n : Int)), (28, i64 (k : Int))], [⟨n3, bytesV (cnameD D.dCut), 25, 32⟩, ⟨n1, C.cells, 36, C.cells.length⟩]⟩) (fun k => k ≤ C.fVotes.n ∧ ∀ j, j < k → ¬ D.bad j) (fun k => C.fVotes.n - k) (0) ?_ ?_ ?_
        · exact ⟨by omega, fun j hj => by omega⟩
        · exact weak_of (wk1 rfl (wk1 rfl (wk1 rfl (wk1 rfl (wk1 rfl wk0))))) (wh1 mM (wh1 mM wh0)) nD
        ·
          rintro k ⟨hk, hg⟩
          refine Sat.seq ?_
          refine Sat.region ?_
          refine Tr.lss rfl rfl rfl rfl rfl ?_
          refine Tr.nil ?_
          refine at_n ?_
          refine Sat.seq ?_
          first
            | refine Sat.condP rfl (fun hc1 => ?_) (fun hc1 => ?_)
            | refine Sat.condNP rfl (fun hc1 => ?_) (fun hc1 => ?_)
            | refine Sat.cond rfl (fun hc1 => ?_) (fun hc1 => ?_)
          ·
            have hk2 : k < C.fVotes.n := by omega
            obtain ⟨b, o, Vk, d, hsp, hr, hd, his, hlen, hsee⟩ := hV.at dE hk2
            obtain rfl := his.eq
            have hVk := his.ok
            have hlv := hVk.l_fValue
            obtain ⟨b0, o0, V0, d0, hsp0, hr0, hd0, his0, hlen0, hsee0⟩ := hV.at dE (show 0 < C.fVotes.n by omega)
            obtain rfl := his0.eq
            have hV0 := his0.ok
            have hvk := vote_is hd
            have hv0 := vote_is hd0
            refine Sat.skip ?_
            refine at_n ?_
            refine Sat.seq ?_
            refine Sat.block ?_
            refine Sat.seq ?_
            refine Sat.region ?_
            refine Tr.move rfl rfl rfl ?_
            refine Tr.idxSlP 132 rfl rfl rfl hsp rfl Try.underlying34 Sz38 (k) oM oM ?_
            refine Tr.loadEN Vk.cells rfl rfl rfl Try.underlying38 rfl Sz38 sP hlen hsee ?_
            refine Tr.alloc (cs := Vote.zero.cells) rfl Vote.zr rfl ?_
            intro n5 hn5 hf5
            refine Tr.assign rfl rfl rfl ?_
            refine Tr.storeAll rfl rfl rfl rfl (Vote.isCell (by first | (simp [cnameD_length, hW.fCut.ok.l_fPrev]; done) | exact oK  | exact hok | exact hVk | exact hok.o_fCut)) Sz38 (Vote.length (by first | (simp [cnameD_length, hW.fCut.ok.l_fPrev]; done) | exact oK  | exact hok | exact hVk | exact hok.o_fCut)) mM (Vote.length (by first | (simp [cnameD_length, hW.fCut.ok.l_fPrev]; done) | exact oK  | exact hok | exact hVk | exact hok.o_fCut)) uU ?_
            refine Tr.nil ?_
            refine at_n ?_
            refine Sat.seq ?_
            refine Sat.seq ?_
            refine Sat.region ?_
            refine Tr.loadAll rfl rfl rfl Try.underlying38 rfl Sz38 mM (Vote.length (by first | (simp [cnameD_length, hW.fCut.ok.l_fPrev]; done) | exact oK  | exact hok | exact hVk | exact hok.o_fCut)) ?_
            refine Tr.callV rfl rfl rfl rfl Body46 (vote_check Vk hVk) (fun _ _ => trivial) ?_
            refine two (fun r hr k => Tr.nei rfl rfl rfl rfl hr k) (fun hs7_20 => ?_) (fun hs7_20 => ?_)
            ·
              first | have hs7_2 := of_decide_eq_true hs7_20 | have hs7_2 := of_decide_eq_false hs7_20 | have hs7_2 := nd_t hs7_20 | have hs7_2 := nd_f hs7_20 | have hs7_2 := hs7_20
              refine Tr.move rfl rfl rfl ?_
              refine Tr.skp rfl rfl ?_
              refine Tr.skp rfl rfl ?_
              refine Tr.skp rfl rfl ?_
              refine Tr.pick rfl rfl rfl rfl rfl rfl ?_
              refine Tr.move rfl rfl rfl ?_
              refine Tr.skp rfl rfl ?_
              refine Tr.skp rfl rfl ?_
              refine Tr.skp rfl rfl ?_
              refine Tr.skp rfl rfl ?_
              refine Tr.skp rfl rfl ?_
              refine Tr.skp rfl rfl ?_
              refine Tr.pick rfl rfl rfl rfl rfl rfl ?_
              refine Tr.nil ?_
              refine at_n ?_
              refine Sat.cond_t rfl rfl ?_
              refine Sat.seq ?_
              refine Sat.region ?_
              refine Tr.assign rfl rfl rfl ?_
              refine Tr.nil ?_
              refine at_n ?_
              refine Sat.ret ?_
              refine at_r ?_
              refine bl_r ?_
              refine at_r ?_
              refine at_r ?_
              refine bl_r ?_
              refine at_r ?_
              refine en_r ?_
              refine ⟨_, [], res_tmp rfl rfl, sP, sP, ?_, rfl⟩
              first
                | exact congrArg i64 (cert_bad1 (by simp only [DCert.head, hnd, Bool.or_eq_true, Bool.not_eq_true', decide_eq_true_eq, decide_eq_false_iff_not]; omega)).symm
                | exact congrArg i64 (cert_bad2 (k := k) oM (by
                    simp only [DCert.bad, hvk, hv0, ← ehh]
                    first
                      | exact .inl ‹_›
                      | exact .inr (.inl ‹_›)
                      | exact .inr (.inr (.inl ‹_›))
                      | exact .inr (.inr (.inr (.inl ‹_›)))
                      | exact .inr (.inr (.inr (.inr (.inl ‹_›))))
                      | (rw [vote_is hdp]; exact .inr (.inr (.inr (.inr (.inr ⟨by omega, by omega⟩))))))).symm
                | exact congrArg i64 (cert_good hnb (by rw [hnd]; exact hg)).symm
            ·
              first | have hs7_2 := of_decide_eq_true hs7_20 | have hs7_2 := of_decide_eq_false hs7_20 | have hs7_2 := nd_t hs7_20 | have hs7_2 := nd_f hs7_20 | have hs7_2 := hs7_20
              refine Tr.move rfl rfl rfl ?_
              refine Tr.fld rfl rfl rfl Try.underlying38 rfl Sz3 dE _ rfl ?_
              refine Tr.load1 rfl rfl rfl Try.underlying3 rfl mM (by first | exact Vote.get_fPhase (by first | (simp [cnameD_length, hW.fCut.ok.l_fPrev]; done) | exact oK  | exact hok | exact hVk | exact hok.o_fCut) | exact (by first | rfl | exact get_words (by first | omega | (simp [cnameD_length, hW.fCut.ok.l_fPrev]; done) | (simp [cnameD_length, hW.fCut.ok.l_fPrev]; omega)) | exact get_bytes (by first | omega | (simp [cnameD_length, hW.fCut.ok.l_fPrev]; done) | (simp [cnameD_length, hW.fCut.ok.l_fPrev]; omega)) | exact get_ints (by first | omega | (simp [cnameD_length, hW.fCut.ok.l_fPrev]; done) | (simp [cnameD_length, hW.fCut.ok.l_fPrev]; omega)))) ?_
              refine two (fun r hr k => Tr.nei rfl rfl rfl rfl hr k) (fun hs7_60 => ?_) (fun hs7_60 => ?_)
              ·
                first | have hs7_6 := of_decide_eq_true hs7_60 | have hs7_6 := of_decide_eq_false hs7_60 | have hs7_6 := nd_t hs7_60 | have hs7_6 := nd_f hs7_60 | have hs7_6 := hs7_60
                refine Tr.pick rfl rfl rfl rfl rfl rfl ?_
                refine Tr.move rfl rfl rfl ?_
                refine Tr.skp rfl rfl ?_
                refine Tr.skp rfl rfl ?_
                refine Tr.skp rfl rfl ?_
                refine Tr.skp rfl rfl ?_
                refine Tr.skp rfl rfl ?_
                refine Tr.skp rfl rfl ?_
                refine Tr.pick rfl rfl rfl rfl rfl rfl ?_
                refine Tr.nil ?_
                refine at_n ?_
                refine Sat.cond_t rfl rfl ?_
                refine Sat.seq ?_
                refine Sat.region ?_
                refine Tr.assign rfl rfl rfl ?_
                refine Tr.nil ?_
                refine at_n ?_
                refine Sat.ret ?_
                refine at_r ?_
                refine bl_r ?_
                refine at_r ?_
                refine at_r ?_
                refine bl_r ?_
                refine at_r ?_
                refine en_r ?_
                refine ⟨_, [], res_tmp rfl rfl, sP, sP, ?_, rfl⟩
                first
                  | exact congrArg i64 (cert_bad1 (by simp only [DCert.head, hnd, Bool.or_eq_true, Bool.not_eq_true', decide_eq_true_eq, decide_eq_false_iff_not]; omega)).symm
                  | exact congrArg i64 (cert_bad2 (k := k) oM (by
                      simp only [DCert.bad, hvk, hv0, ← ehh]
                      first
                        | exact .inl ‹_›
                        | exact .inr (.inl ‹_›)
                        | exact .inr (.inr (.inl ‹_›))
                        | exact .inr (.inr (.inr (.inl ‹_›)))
                        | exact .inr (.inr (.inr (.inr (.inl ‹_›))))
                        | (rw [vote_is hdp]; exact .inr (.inr (.inr (.inr (.inr ⟨by omega, by omega⟩))))))).symm
                  | exact congrArg i64 (cert_good hnb (by rw [hnd]; exact hg)).symm
              ·
                first | have hs7_6 := of_decide_eq_true hs7_60 | have hs7_6 := of_decide_eq_false hs7_60 | have hs7_6 := nd_t hs7_60 | have hs7_6 := nd_f hs7_60 | have hs7_6 := hs7_60
                refine Tr.pick rfl rfl rfl rfl rfl rfl ?_
                refine Tr.move rfl rfl rfl ?_
                refine Tr.fld rfl rfl rfl Try.underlying38 rfl Sz24 dE _ rfl ?_
                refine Tr.load1 rfl rfl rfl Try.underlying24 rfl mM (by first | exact Vote.get_fHeight (by first | (simp [cnameD_length, hW.fCut.ok.l_fPrev]; done) | exact oK  | exact hok | exact hVk | exact hok.o_fCut) | exact (by first | rfl | exact get_words (by first | omega | (simp [cnameD_length, hW.fCut.ok.l_fPrev]; done) | (simp [cnameD_length, hW.fCut.ok.l_fPrev]; omega)) | exact get_bytes (by first | omega | (simp [cnameD_length, hW.fCut.ok.l_fPrev]; done) | (simp [cnameD_length, hW.fCut.ok.l_fPrev]; omega)) | exact get_ints (by first | omega | (simp [cnameD_length, hW.fCut.ok.l_fPrev]; done) | (simp [cnameD_length, hW.fCut.ok.l_fPrev]; omega)))) ?_
                refine Tr.fld rfl rfl rfl Try.underlying36 rfl Sz33 dE _ rfl ?_
                refine Tr.fld rfl rfl rfl Try.underlying33 rfl Sz24 dE _ rfl ?_
                refine Tr.load1 rfl rfl rfl Try.underlying24 rfl mM (Cert.see_fCut hok 0 _ (Cut.get_fHeight hok.o_fCut)) ?_
                refine Tr.nei rfl rfl rfl rfl rfl ?_
                refine Tr.pick rfl rfl rfl rfl rfl rfl ?_
                refine Tr.nil ?_
                refine at_n ?_
                first
                  | refine Sat.condP rfl (fun hc2 => ?_) (fun hc2 => ?_)
                  | refine Sat.condNP rfl (fun hc2 => ?_) (fun hc2 => ?_)
                  | refine Sat.cond rfl (fun hc2 => ?_) (fun hc2 => ?_)
                ·
                  refine Sat.seq ?_
                  refine Sat.region ?_
                  refine Tr.assign rfl rfl rfl ?_
                  refine Tr.nil ?_
                  refine at_n ?_
                  refine Sat.ret ?_
                  refine at_r ?_
                  refine bl_r ?_
                  refine at_r ?_
                  refine at_r ?_
                  refine bl_r ?_
                  refine at_r ?_
                  refine en_r ?_
                  refine ⟨_, [], res_tmp rfl rfl, sP, sP, ?_, rfl⟩
                  first
                    | exact congrArg i64 (cert_bad1 (by simp only [DCert.head, hnd, Bool.or_eq_true, Bool.not_eq_true', decide_eq_true_eq, decide_eq_false_iff_not]; omega)).symm
                    | exact congrArg i64 (cert_bad2 (k := k) oM (by
                        simp only [DCert.bad, hvk, hv0, ← ehh]
                        first
                          | exact .inl ‹_›
                          | exact .inr (.inl ‹_›)
                          | exact .inr (.inr (.inl ‹_›))
                          | exact .inr (.inr (.inr (.inl ‹_›)))
                          | exact .inr (.inr (.inr (.inr (.inl ‹_›))))
                          | (rw [vote_is hdp]; exact .inr (.inr (.inr (.inr (.inr ⟨by omega, by omega⟩))))))).symm
                    | exact congrArg i64 (cert_good hnb (by rw [hnd]; exact hg)).symm
                ·
                  refine Sat.skip ?_
                  refine at_n ?_
                  refine Sat.seq ?_
                  refine Sat.seq ?_
                  refine Sat.draw [(0, 0), (1, 1), (1, 2), (0, 3), (0, 4), (0, 5), (1, 6), (0, 7), (1, 8), (0, 9), (0, 10), (1, 11), (0, 12), (0, 13)] Mixed (by kernel_rfl) ?_
                  refine Tr.fld rfl rfl rfl Try.underlying38 rfl Sz25 dE _ rfl ?_
                  first
                    | refine Tr.loadN (bytesV _) rfl rfl rfl Try.underlying25 rfl Sz25 mM (Vote.row_fValue (by first | (simp [cnameD_length, hW.fCut.ok.l_fPrev]; done) | exact oK  | exact hok | exact hVk | exact hok.o_fCut)) (Vote.rl_fValue (by first | (simp [cnameD_length, hW.fCut.ok.l_fPrev]; done) | exact oK  | exact hok | exact hVk | exact hok.o_fCut)) ?_
                  first
                    | refine Tr.loadAll rfl rfl rfl Try.underlying25 rfl Sz25 mM (by first | assumption | (simp [cnameD_length, hW.fCut.ok.l_fPrev]; done) | (rw [bytesV, List.length_map]; assumption)) ?_
                    | refine Tr.loadN _ rfl rfl rfl Try.underlying25 rfl Sz25 mM (by exact rfl) (by first | assumption | (simp [cnameD_length, hW.fCut.ok.l_fPrev]; done) | (rw [bytesV, List.length_map]; assumption)) ?_
                  refine two (fun r hr k => Tr.neq_bytes rfl rfl rfl rfl Try.eqGuardType25 Try.underlying25 Try.underlying5 Sz5 (by first | assumption | (simp [cnameD_length, hW.fCut.ok.l_fPrev]; done) | (rw [bytesV, List.length_map]; assumption)) (by first | assumption | (simp [cnameD_length, hW.fCut.ok.l_fPrev]; done) | (rw [bytesV, List.length_map]; assumption)) hr k) (fun hs9_30 => ?_) (fun hs9_30 => ?_)
                  ·
                    first | have hs9_3 := of_decide_eq_true hs9_30 | have hs9_3 := of_decide_eq_false hs9_30 | have hs9_3 := nd_t hs9_30 | have hs9_3 := nd_f hs9_30 | have hs9_3 := hs9_30
                    refine Tr.move rfl rfl rfl ?_
                    refine Tr.skp rfl rfl ?_
                    refine Tr.skp rfl rfl ?_
                    refine Tr.skp rfl rfl ?_
                    refine Tr.skp rfl rfl ?_
                    refine Tr.skp rfl rfl ?_
                    refine Tr.skp rfl rfl ?_
                    refine Tr.skp rfl rfl ?_
                    refine Tr.skp rfl rfl ?_
                    refine Tr.pick rfl rfl rfl rfl rfl rfl ?_
                    refine Tr.nil ?_
                    refine at_n ?_
                    refine Sat.cond_t rfl rfl ?_
                    refine Sat.seq ?_
                    refine Sat.region ?_
                    refine Tr.assign rfl rfl rfl ?_
                    refine Tr.nil ?_
                    refine at_n ?_
                    refine Sat.ret ?_
                    refine at_r ?_
                    refine bl_r ?_
                    refine at_r ?_
                    refine at_r ?_
                    refine bl_r ?_
                    refine at_r ?_
                    refine en_r ?_
                    refine ⟨_, [], res_tmp rfl rfl, sP, sP, ?_, rfl⟩
                    first
                      | exact congrArg i64 (cert_bad1 (by simp only [DCert.head, hnd, Bool.or_eq_true, Bool.not_eq_true', decide_eq_true_eq, decide_eq_false_iff_not]; omega)).symm
                      | exact congrArg i64 (cert_bad2 (k := k) oM (by
                          simp only [DCert.bad, hvk, hv0, ← ehh]
                          first
                            | exact .inl ‹_›
                            | exact .inr (.inl ‹_›)
                            | exact .inr (.inr (.inl ‹_›))
                            | exact .inr (.inr (.inr (.inl ‹_›)))
                            | exact .inr (.inr (.inr (.inr (.inl ‹_›))))
                            | (rw [vote_is hdp]; exact .inr (.inr (.inr (.inr (.inr ⟨by omega, by omega⟩))))))).symm
                      | exact congrArg i64 (cert_good hnb (by rw [hnd]; exact hg)).symm
                  ·
                    first | have hs9_3 := of_decide_eq_true hs9_30 | have hs9_3 := of_decide_eq_false hs9_30 | have hs9_3 := nd_t hs9_30 | have hs9_3 := nd_f hs9_30 | have hs9_3 := hs9_30
                    refine Tr.move rfl rfl rfl ?_
                    refine Tr.fld rfl rfl rfl Try.underlying38 rfl Sz24 dE _ rfl ?_
                    refine Tr.load1 rfl rfl rfl Try.underlying24 rfl mM (by first | exact Vote.get_fRound (by first | (simp [cnameD_length, hW.fCut.ok.l_fPrev]; done) | exact oK  | exact hok | exact hVk | exact hok.o_fCut) | exact (by first | rfl | exact get_words (by first | omega | (simp [cnameD_length, hW.fCut.ok.l_fPrev]; done) | (simp [cnameD_length, hW.fCut.ok.l_fPrev]; omega)) | exact get_bytes (by first | omega | (simp [cnameD_length, hW.fCut.ok.l_fPrev]; done) | (simp [cnameD_length, hW.fCut.ok.l_fPrev]; omega)) | exact get_ints (by first | omega | (simp [cnameD_length, hW.fCut.ok.l_fPrev]; done) | (simp [cnameD_length, hW.fCut.ok.l_fPrev]; omega)))) ?_
                    refine Tr.fld rfl rfl rfl Try.underlying36 rfl Sz34 dE _ rfl ?_
                    refine Tr.load1 rfl rfl rfl Try.underlying34 rfl mM (by first | exact Cert.get_fVotes (by first | (simp [cnameD_length, hW.fCut.ok.l_fPrev]; done) | exact oK  | exact hok | exact hVk | exact hok.o_fCut) | exact (by first | rfl | exact get_words (by first | omega | (simp [cnameD_length, hW.fCut.ok.l_fPrev]; done) | (simp [cnameD_length, hW.fCut.ok.l_fPrev]; omega)) | exact get_bytes (by first | omega | (simp [cnameD_length, hW.fCut.ok.l_fPrev]; done) | (simp [cnameD_length, hW.fCut.ok.l_fPrev]; omega)) | exact get_ints (by first | omega | (simp [cnameD_length, hW.fCut.ok.l_fPrev]; done) | (simp [cnameD_length, hW.fCut.ok.l_fPrev]; omega)))) ?_
                    refine Tr.idxSlP 132 rfl rfl rfl hsp0 rfl Try.underlying34 Sz38 (0) oM oM ?_
                    refine Tr.fld rfl rfl rfl Try.underlying38 rfl Sz24 dE _ rfl ?_
                    refine Tr.loadE rfl rfl rfl Try.underlying24 rfl (by first | (simp; done) | (simp; exact hW.2.2) | (simp [Cx.with]; done) | (simp [Cx.with]; omega)) (hsee0 1 _ (Vote.get_fRound hV0)) ?_
                    refine Tr.nei rfl rfl rfl rfl rfl ?_
                    refine Tr.pick rfl rfl rfl rfl rfl rfl ?_
                    refine Tr.nil ?_
                    refine at_n ?_
                    first
                      | refine Sat.condP rfl (fun hc3 => ?_) (fun hc3 => ?_)
                      | refine Sat.condNP rfl (fun hc3 => ?_) (fun hc3 => ?_)
                      | refine Sat.cond rfl (fun hc3 => ?_) (fun hc3 => ?_)
                    ·
                      refine Sat.seq ?_
                      refine Sat.region ?_
                      refine Tr.assign rfl rfl rfl ?_
                      refine Tr.nil ?_
                      refine at_n ?_
                      refine Sat.ret ?_
                      refine at_r ?_
                      refine bl_r ?_
                      refine at_r ?_
                      refine at_r ?_
                      refine bl_r ?_
                      refine at_r ?_
                      refine en_r ?_
                      refine ⟨_, [], res_tmp rfl rfl, sP, sP, ?_, rfl⟩
                      first
                        | exact congrArg i64 (cert_bad1 (by simp only [DCert.head, hnd, Bool.or_eq_true, Bool.not_eq_true', decide_eq_true_eq, decide_eq_false_iff_not]; omega)).symm
                        | exact congrArg i64 (cert_bad2 (k := k) oM (by
                            simp only [DCert.bad, hvk, hv0, ← ehh]
                            first
                              | exact .inl ‹_›
                              | exact .inr (.inl ‹_›)
                              | exact .inr (.inr (.inl ‹_›))
                              | exact .inr (.inr (.inr (.inl ‹_›)))
                              | exact .inr (.inr (.inr (.inr (.inl ‹_›))))
                              | (rw [vote_is hdp]; exact .inr (.inr (.inr (.inr (.inr ⟨by omega, by omega⟩))))))).symm
                        | exact congrArg i64 (cert_good hnb (by rw [hnd]; exact hg)).symm
                    ·
                      refine Sat.skip ?_
                      refine at_n ?_
                      refine Sat.seq ?_
                      refine Sat.draw [(0, 0), (0, 1), (0, 2), (0, 3), (1, 4), (0, 5), (0, 6), (0, 7), (0, 8), (0, 9), (0, 10), (0, 11), (3, 12), (0, 13), (0, 14)] Mixed (by kernel_rfl) ?_
                      refine Tr.move rfl rfl rfl ?_
                      refine two (fun r hr k => Tr.gtr rfl rfl rfl rfl hr k) (fun hs11_10 => ?_) (fun hs11_10 => ?_)
                      ·
                        first | have hs11_1 := of_decide_eq_true hs11_10 | have hs11_1 := of_decide_eq_false hs11_10 | have hs11_1 := nd_t hs11_10 | have hs11_1 := nd_f hs11_10 | have hs11_1 := hs11_10
                        obtain ⟨bp, op, Vp, dp, hspp, hrp, hdp, hisp, hlenp, hseep⟩ := hV.at dE (show k - 1 < C.fVotes.n by omega)
                        obtain rfl := hisp.eq
                        have hVp := hisp.ok
                        refine Tr.move rfl rfl rfl ?_
                        refine Tr.fld rfl rfl rfl Try.underlying36 rfl Sz34 dE _ rfl ?_
                        refine Tr.load1 rfl rfl rfl Try.underlying34 rfl mM (by first | exact Cert.get_fVotes (by first | (simp [cnameD_length, hW.fCut.ok.l_fPrev]; done) | exact oK  | exact hok | exact hVk | exact hok.o_fCut) | exact (by first | rfl | exact get_words (by first | omega | (simp [cnameD_length, hW.fCut.ok.l_fPrev]; done) | (simp [cnameD_length, hW.fCut.ok.l_fPrev]; omega)) | exact get_bytes (by first | omega | (simp [cnameD_length, hW.fCut.ok.l_fPrev]; done) | (simp [cnameD_length, hW.fCut.ok.l_fPrev]; omega)) | exact get_ints (by first | omega | (simp [cnameD_length, hW.fCut.ok.l_fPrev]; done) | (simp [cnameD_length, hW.fCut.ok.l_fPrev]; omega)))) ?_
                        refine Tr.move rfl rfl rfl ?_
                        refine Tr.sub_i64 rfl rfl rfl rfl oM ?_
                        refine Tr.idxSlP 132 rfl rfl rfl hspp rfl Try.underlying34 Sz38 (k - 1) oM oM ?_
                        refine Tr.fld rfl rfl rfl Try.underlying38 rfl Sz23 dE _ rfl ?_
                        refine Tr.sliceArr rfl rfl rfl Try.underlying23 Sz5 ?_
                        refine Tr.fld rfl rfl rfl Try.underlying38 rfl Sz23 dE _ rfl ?_
                        refine Tr.sliceArr rfl rfl rfl Try.underlying23 Sz5 ?_
                        refine Tr.callV rfl rfl rfl rfl Body70 (bytes_cmp _ _ _ _ _ _ Vp.fVoter Vk.fVoter hVp.l_fVoter hVk.l_fVoter) (fun W2 W2h => ⟨SeesP.of (sees_ext W2h sP (sees_sub hseep (Vote.see_fVoter hVp))), SeesP.of (sees_part W2h mM (Vote.see_fVoter hVk))⟩) ?_
                        refine Tr.geq rfl rfl rfl rfl rfl ?_
                        refine Tr.pick rfl rfl rfl rfl rfl rfl ?_
                        refine Tr.nil ?_
                        refine at_n ?_
                        first
                          | refine Sat.condP rfl (fun hc4 => ?_) (fun hc4 => ?_)
                          | refine Sat.condNP rfl (fun hc4 => ?_) (fun hc4 => ?_)
                          | refine Sat.cond rfl (fun hc4 => ?_) (fun hc4 => ?_)
                        ·
                          refine Sat.seq ?_
                          refine Sat.region ?_
                          refine Tr.assign rfl rfl rfl ?_
                          refine Tr.nil ?_
                          refine at_n ?_
                          refine Sat.ret ?_
                          refine bl_r ?_
                          refine at_r ?_
                          refine at_r ?_
                          refine bl_r ?_
                          refine at_r ?_
                          refine en_r ?_
                          refine ⟨_, [], res_tmp rfl rfl, sP, sP, ?_, rfl⟩
                          first
                            | exact congrArg i64 (cert_bad1 (by simp only [DCert.head, hnd, Bool.or_eq_true, Bool.not_eq_true', decide_eq_true_eq, decide_eq_false_iff_not]; omega)).symm
                            | exact congrArg i64 (cert_bad2 (k := k) oM (by
                                simp only [DCert.bad, hvk, hv0, ← ehh]
                                first
                                  | exact .inl ‹_›
                                  | exact .inr (.inl ‹_›)
                                  | exact .inr (.inr (.inl ‹_›))
                                  | exact .inr (.inr (.inr (.inl ‹_›)))
                                  | exact .inr (.inr (.inr (.inr (.inl ‹_›))))
                                  | (rw [vote_is hdp]; exact .inr (.inr (.inr (.inr (.inr ⟨by omega, by omega⟩))))))).symm
                            | exact congrArg i64 (cert_good hnb (by rw [hnd]; exact hg)).symm
                        ·
                          refine Sat.skip ?_
                          refine bl_n ?_
                          refine at_n ?_
                          refine Sat.region ?_
                          refine Tr.add_i64 rfl rfl rfl rfl oM ?_
                          refine Tr.move rfl rfl rfl ?_
                          refine Tr.nil ?_
                          refine at_n ?_
                          exact ⟨k + 1, ⟨by omega, fun j hj => by rcases Nat.lt_succ_iff_lt_or_eq.1 hj with h | rfl; exact hg j h; exact (by
                            simp only [DCert.bad, hvk, hv0, ← ehh]
                            rintro (h | h | h | h | h | ⟨h1, h2⟩) <;> first | exact h ‹_› | omega | (rw [vote_is hdp] at h2; omega))⟩, by omega, weak_of (wk1 rfl (wk1 rfl (wk1 rfl (wk1 rfl (wk1 rfl wk0))))) (wh1 mM (wh1 mM wh0)) nD⟩
                      ·
                        first | have hs11_1 := of_decide_eq_true hs11_10 | have hs11_1 := of_decide_eq_false hs11_10 | have hs11_1 := nd_t hs11_10 | have hs11_1 := nd_f hs11_10 | have hs11_1 := hs11_10
                        skip
                        refine Tr.move rfl rfl rfl ?_
                        refine Tr.skp rfl rfl ?_
                        refine Tr.skp rfl rfl ?_
                        refine Tr.skp rfl rfl ?_
                        refine Tr.skp rfl rfl ?_
                        refine Tr.skp rfl rfl ?_
                        refine Tr.skp rfl rfl ?_
                        refine Tr.skp rfl rfl ?_
                        refine Tr.skp rfl rfl ?_
                        refine Tr.skp rfl rfl ?_
                        refine Tr.skp rfl rfl ?_
                        refine Tr.skp rfl rfl ?_
                        refine Tr.pick rfl rfl rfl rfl rfl rfl ?_
                        refine Tr.nil ?_
                        refine at_n ?_
                        refine Sat.cond_f rfl rfl ?_
                        refine Sat.skip ?_
                        refine bl_n ?_
                        refine at_n ?_
                        refine Sat.region ?_
                        refine Tr.add_i64 rfl rfl rfl rfl oM ?_
                        refine Tr.move rfl rfl rfl ?_
                        refine Tr.nil ?_
                        refine at_n ?_
                        exact ⟨k + 1, ⟨by omega, fun j hj => by rcases Nat.lt_succ_iff_lt_or_eq.1 hj with h | rfl; exact hg j h; exact (by
                          simp only [DCert.bad, hvk, hv0, ← ehh]
                          rintro (h | h | h | h | h | ⟨h1, h2⟩) <;> first | exact h ‹_› | omega | (rw [vote_is hdp] at h2; omega))⟩, by omega, weak_of (wk1 rfl (wk1 rfl (wk1 rfl (wk1 rfl (wk1 rfl wk0))))) (wh1 mM (wh1 mM wh0)) nD⟩
          ·
            obtain rfl : k = C.fVotes.n := by omega
            refine Sat.exit ?_
            refine at_x ?_
            refine at_x ?_
            refine bl_h ?_
            refine at_n ?_
            refine Sat.seq ?_
            refine Sat.region ?_
            refine Tr.assign rfl rfl rfl ?_
            refine Tr.nil ?_
            refine at_n ?_
            refine Sat.ret ?_
            refine en_r ?_
            refine ⟨_, [], res_tmp rfl rfl, sP, sP, ?_, rfl⟩
            first
              | exact congrArg i64 (cert_bad1 (by simp only [DCert.head, hnd, Bool.or_eq_true, Bool.not_eq_true', decide_eq_true_eq, decide_eq_false_iff_not]; omega)).symm
              | exact congrArg i64 (cert_bad2 (k := k) oM (by
                  simp only [DCert.bad, hvk, hv0, ← ehh]
                  first
                    | exact .inl ‹_›
                    | exact .inr (.inl ‹_›)
                    | exact .inr (.inr (.inl ‹_›))
                    | exact .inr (.inr (.inr (.inl ‹_›)))
                    | exact .inr (.inr (.inr (.inr (.inl ‹_›))))
                    | (rw [vote_is hdp]; exact .inr (.inr (.inr (.inr (.inr ⟨by omega, by omega⟩))))))).symm
              | exact congrArg i64 (cert_good hnb (by rw [hnd]; exact hg)).symm

end Go.Proofs.Ytlgbmfokgnoocaa
end

section
namespace Go.Proofs.Ytlgbmfokgnoocaa
open Go Hw
set_option linter.unusedVariables false
set_option linter.unusedSimpArgs false

def lightOf {D : Type} (f : D → Bool) (ds : List D) (m : Int) : Bool := (!decide (m < (ds.length : Int))) && ds.all f
theorem light_all {D : Type} {f : D → Bool} {ds : List D} (h : ∀ j, j < ds.length → (ds.map f)[j]? = some true) : ds.all f = true := by
  rw [List.all_eq_true]
  intro x hx
  obtain ⟨j, hj, rfl⟩ := List.getElem_of_mem hx
  have := h j hj
  rw [List.getElem?_map, List.getElem?_eq_getElem hj] at this
  simpa using this
theorem light_not {D : Type} {f : D → Bool} {ds : List D} {k : Nat} (h : (ds.map f)[k]? = some false) : ds.all f = false := by
  rw [List.getElem?_map] at h
  obtain ⟨x, hx, hf⟩ := Option.map_eq_some_iff.1 h
  rw [List.all_eq_false]
  exact ⟨x, List.mem_of_getElem? hx, by rw [hf]; simp⟩
theorem light_over {D : Type} {f : D → Bool} {ds : List D} {m : Int} (h : m < (ds.length : Int)) : lightOf f ds m = false := by simp [lightOf, h]
theorem light_in {D : Type} {f : D → Bool} {ds : List D} {m : Int} (h : ¬ m < (ds.length : Int)) : lightOf f ds m = ds.all f := by simp [lightOf, h]
def lightBf (d : DB) : Bool := decide ((d.ls.length : Int) ≤ 40) && decide ((d.ds.length : Int) ≤ 2000)
def lightCf (d : DCut) : Bool := decide ((d.dHeads.length : Int) ≤ 40)
def lightEf (d : DCert) : Bool := decide ((d.dCut.dHeads.length : Int) ≤ 40) && decide ((d.dVotes.length : Int) ≤ 20)

set_option maxRecDepth 100000 in
set_option maxHeartbeats 4000000 in
theorem lightd_blocks (s : Sl) (ds : List DB) (m : Int) : Meets Try.prog 5 [s.v, i64 m] [] (fun W => BlocksAt W s ds) (fun v out => v = .bool (lightOf lightBf ds m) ∧ out = []) := by
  intro W hW
  obtain ⟨rs, hs⟩ := hW
  have hmax := hs.max
  simp only [maxLen] at hmax
  have hnd := hs.nd
  refine calls_of (hp0 := []) Try.func5 rfl 32 Try.ntmps5 rfl (HRep.nil _) ?_
  refine Sat.seq ?_
  refine Sat.region ?_
  refine Tr.assign rfl rfl rfl ?_
  refine Tr.nil ?_
  refine at_n ?_
  refine Sat.seq ?_
  refine Sat.seq ?_
  refine Sat.region ?_
  refine Tr.move rfl rfl rfl ?_
  refine Tr.lenSl rfl rfl rfl Try.underlying41 ?_
  refine Tr.move rfl rfl rfl ?_
  refine Tr.gtr rfl rfl rfl rfl rfl ?_
  refine Tr.nil ?_
  refine at_n ?_
  first
    | refine Sat.condP rfl (fun hc0 => ?_) (fun hc0 => ?_)
    | refine Sat.condNP rfl (fun hc0 => ?_) (fun hc0 => ?_)
    | refine Sat.cond rfl (fun hc0 => ?_) (fun hc0 => ?_)
  ·
    refine Sat.seq ?_
    refine Sat.region ?_
    refine Tr.assign rfl rfl rfl ?_
    refine Tr.nil ?_
    refine at_n ?_
    refine Sat.ret ?_
    refine at_r ?_
    refine en_r ?_
    refine ⟨_, [], res_tmp rfl rfl, sP, sP, ?_, rfl⟩
    first
      | exact congrArg Value.bool ((light_in (by rw [hnd]; omega)).trans (light_all (by rw [hnd]; exact hg))).symm
      | exact congrArg Value.bool ((light_in (by rw [hnd]; omega)).trans (light_not (k := k) (by rw [List.getElem?_map, hd]; simp [lightBf]; omega))).symm
      | exact congrArg Value.bool (light_over (by rw [hnd]; omega)).symm
  ·
    refine Sat.skip ?_
    refine at_n ?_
    refine Sat.seq ?_
    refine Sat.seq ?_
    refine Sat.region ?_
    refine Tr.assign rfl rfl rfl ?_
    refine Tr.nil ?_
    refine at_n ?_
    refine Sat.block ?_
    refine Sat.loop (ι := Nat) (fun k => ⟨[(0, s.v), (5, i64 (k : Int))], []⟩) (fun k => k ≤ s.n ∧ ∀ j, j < k → (ds.map lightBf)[j]? = some true) (fun k => s.n - k) (0) ?_ ?_ ?_
    · exact ⟨by omega, fun j hj => by omega⟩
    · exact weak_of (wk1 rfl (wk1 rfl wk0)) wh0 nD
    ·
      rintro k ⟨hk, hg⟩
      refine Sat.seq ?_
      refine Sat.seq ?_
      refine Sat.region ?_
      refine Tr.move rfl rfl rfl ?_
      refine Tr.move rfl rfl rfl ?_
      refine Tr.lenSl rfl rfl rfl Try.underlying41 ?_
      refine Tr.lss rfl rfl rfl rfl rfl ?_
      refine Tr.nil ?_
      refine at_n ?_
      first
        | refine Sat.condP rfl (fun hc1 => ?_) (fun hc1 => ?_)
        | refine Sat.condNP rfl (fun hc1 => ?_) (fun hc1 => ?_)
        | refine Sat.cond rfl (fun hc1 => ?_) (fun hc1 => ?_)
      ·
        have hk2 : k < s.n := by omega
        obtain ⟨b, o, r, d, hsp, hr, hd, his, hlen, hsee⟩ := hs.at dE hk2
        have e1 := his.ls.len
        have e2 := his.ds.len
        refine Sat.skip ?_
        refine at_n ?_
        refine Sat.seq ?_
        refine Sat.block ?_
        refine Sat.seq ?_
        refine Sat.region ?_
        refine Tr.move rfl rfl rfl ?_
        refine Tr.move rfl rfl rfl ?_
        refine Tr.idxSlP 131 rfl rfl rfl hsp rfl Try.underlying41 Sz31 k rfl oM ?_
        refine Tr.fld rfl rfl rfl Try.underlying31 rfl Sz26 dE _ rfl ?_
        refine Tr.loadE rfl rfl rfl Try.underlying26 rfl (by first | (simp; done) | (simp; exact hW.2.2) | (simp [Cx.with]; done) | (simp [Cx.with]; omega)) (hsee 65 _ (Block.get_fLinks his.ok)) ?_
        refine Tr.lenSl rfl rfl rfl Try.underlying26 ?_
        refine two (fun r hr k => Tr.gtr rfl rfl rfl rfl hr k) (fun hs6_60 => ?_) (fun hs6_60 => ?_)
        ·
          first | have hs6_6 := of_decide_eq_true hs6_60 | have hs6_6 := of_decide_eq_false hs6_60 | have hs6_6 := nd_t hs6_60 | have hs6_6 := nd_f hs6_60 | have hs6_6 := hs6_60
          refine Tr.move rfl rfl rfl ?_
          refine Tr.skp rfl rfl ?_
          refine Tr.skp rfl rfl ?_
          refine Tr.skp rfl rfl ?_
          refine Tr.skp rfl rfl ?_
          refine Tr.skp rfl rfl ?_
          refine Tr.skp rfl rfl ?_
          refine Tr.skp rfl rfl ?_
          refine Tr.pick rfl rfl rfl rfl rfl rfl ?_
          refine Tr.nil ?_
          refine at_n ?_
          refine Sat.cond_t rfl rfl ?_
          refine Sat.seq ?_
          refine Sat.region ?_
          refine Tr.assign rfl rfl rfl ?_
          refine Tr.nil ?_
          refine at_n ?_
          refine Sat.ret ?_
          refine bl_r ?_
          refine at_r ?_
          refine at_r ?_
          refine bl_r ?_
          refine at_r ?_
          refine en_r ?_
          refine ⟨_, [], res_tmp rfl rfl, sP, sP, ?_, rfl⟩
          first
            | exact congrArg Value.bool ((light_in (by rw [hnd]; omega)).trans (light_all (by rw [hnd]; exact hg))).symm
            | exact congrArg Value.bool ((light_in (by rw [hnd]; omega)).trans (light_not (k := k) (by rw [List.getElem?_map, hd]; simp [lightBf]; omega))).symm
            | exact congrArg Value.bool (light_over (by rw [hnd]; omega)).symm
        ·
          first | have hs6_6 := of_decide_eq_true hs6_60 | have hs6_6 := of_decide_eq_false hs6_60 | have hs6_6 := nd_t hs6_60 | have hs6_6 := nd_f hs6_60 | have hs6_6 := hs6_60
          refine Tr.move rfl rfl rfl ?_
          refine Tr.move rfl rfl rfl ?_
          refine Tr.move rfl rfl rfl ?_
          refine Tr.idxSlP 131 rfl rfl rfl hsp rfl Try.underlying41 Sz31 k rfl oM ?_
          refine Tr.fld rfl rfl rfl Try.underlying31 rfl Sz27 dE _ rfl ?_
          refine Tr.loadE rfl rfl rfl Try.underlying27 rfl (by first | (simp; done) | (simp; exact hW.2.2) | (simp [Cx.with]; done) | (simp [Cx.with]; omega)) (hsee 66 _ (Block.get_fData his.ok)) ?_
          refine Tr.lenSl rfl rfl rfl Try.underlying27 ?_
          refine Tr.gtr rfl rfl rfl rfl rfl ?_
          refine Tr.pick rfl rfl rfl rfl rfl rfl ?_
          refine Tr.nil ?_
          refine at_n ?_
          first
            | refine Sat.condP rfl (fun hc2 => ?_) (fun hc2 => ?_)
            | refine Sat.condNP rfl (fun hc2 => ?_) (fun hc2 => ?_)
            | refine Sat.cond rfl (fun hc2 => ?_) (fun hc2 => ?_)
          ·
            refine Sat.seq ?_
            refine Sat.region ?_
            refine Tr.assign rfl rfl rfl ?_
            refine Tr.nil ?_
            refine at_n ?_
            refine Sat.ret ?_
            refine bl_r ?_
            refine at_r ?_
            refine at_r ?_
            refine bl_r ?_
            refine at_r ?_
            refine en_r ?_
            refine ⟨_, [], res_tmp rfl rfl, sP, sP, ?_, rfl⟩
            first
              | exact congrArg Value.bool ((light_in (by rw [hnd]; omega)).trans (light_all (by rw [hnd]; exact hg))).symm
              | exact congrArg Value.bool ((light_in (by rw [hnd]; omega)).trans (light_not (k := k) (by rw [List.getElem?_map, hd]; simp [lightBf]; omega))).symm
              | exact congrArg Value.bool (light_over (by rw [hnd]; omega)).symm
          ·
            refine Sat.skip ?_
            refine bl_n ?_
            refine at_n ?_
            refine Sat.region ?_
            refine Tr.move rfl rfl rfl ?_
            refine Tr.add_i64 rfl rfl rfl rfl oM ?_
            refine Tr.assign rfl rfl rfl ?_
            refine Tr.nil ?_
            refine at_n ?_
            exact ⟨k + 1, ⟨by omega, fun j hj => by rcases Nat.lt_succ_iff_lt_or_eq.1 hj with h | rfl; exact hg j h; exact (by rw [List.getElem?_map, hd]; simp [lightBf]; omega)⟩, by omega, weak_of (wk1 rfl (wk1 rfl wk0)) wh0 nD⟩
      ·
        obtain rfl : k = s.n := by omega
        refine Sat.exit ?_
        refine at_x ?_
        refine at_x ?_
        refine bl_h ?_
        refine at_n ?_
        refine Sat.seq ?_
        refine Sat.region ?_
        refine Tr.assign rfl rfl rfl ?_
        refine Tr.nil ?_
        refine at_n ?_
        refine Sat.ret ?_
        refine en_r ?_
        refine ⟨_, [], res_tmp rfl rfl, sP, sP, ?_, rfl⟩
        first
          | exact congrArg Value.bool ((light_in (by rw [hnd]; omega)).trans (light_all (by rw [hnd]; exact hg))).symm
          | exact congrArg Value.bool ((light_in (by rw [hnd]; omega)).trans (light_not (k := k) (by rw [List.getElem?_map, hd]; simp [lightBf]; omega))).symm
          | exact congrArg Value.bool (light_over (by rw [hnd]; omega)).symm

set_option maxRecDepth 100000 in
set_option maxHeartbeats 4000000 in
theorem lightd_cuts (s : Sl) (ds : List DCut) (m : Int) : Meets Try.prog 7 [s.v, i64 m] [] (fun W => CutsAt W s ds) (fun v out => v = .bool (lightOf lightCf ds m) ∧ out = []) := by
  intro W hW
  obtain ⟨rs, hs⟩ := hW
  have hmax := hs.max
  simp only [maxLen] at hmax
  have hnd := hs.nd
  refine calls_of (hp0 := []) Try.func7 rfl 23 Try.ntmps7 rfl (HRep.nil _) ?_
  refine Sat.seq ?_
  refine Sat.region ?_
  refine Tr.assign rfl rfl rfl ?_
  refine Tr.nil ?_
  refine at_n ?_
  refine Sat.seq ?_
  refine Sat.seq ?_
  refine Sat.region ?_
  refine Tr.move rfl rfl rfl ?_
  refine Tr.lenSl rfl rfl rfl Try.underlying45 ?_
  refine Tr.move rfl rfl rfl ?_
  refine Tr.gtr rfl rfl rfl rfl rfl ?_
  refine Tr.nil ?_
  refine at_n ?_
  first
    | refine Sat.condP rfl (fun hc0 => ?_) (fun hc0 => ?_)
    | refine Sat.condNP rfl (fun hc0 => ?_) (fun hc0 => ?_)
    | refine Sat.cond rfl (fun hc0 => ?_) (fun hc0 => ?_)
  ·
    refine Sat.seq ?_
    refine Sat.region ?_
    refine Tr.assign rfl rfl rfl ?_
    refine Tr.nil ?_
    refine at_n ?_
    refine Sat.ret ?_
    refine at_r ?_
    refine en_r ?_
    refine ⟨_, [], res_tmp rfl rfl, sP, sP, ?_, rfl⟩
    first
      | exact congrArg Value.bool ((light_in (by rw [hnd]; omega)).trans (light_all (by rw [hnd]; exact hg))).symm
      | exact congrArg Value.bool ((light_in (by rw [hnd]; omega)).trans (light_not (k := k) (by rw [List.getElem?_map, hd]; simp [lightCf]; omega))).symm
      | exact congrArg Value.bool (light_over (by rw [hnd]; omega)).symm
  ·
    refine Sat.skip ?_
    refine at_n ?_
    refine Sat.seq ?_
    refine Sat.seq ?_
    refine Sat.region ?_
    refine Tr.assign rfl rfl rfl ?_
    refine Tr.nil ?_
    refine at_n ?_
    refine Sat.block ?_
    refine Sat.loop (ι := Nat) (fun k => ⟨[(0, s.v), (5, i64 (k : Int))], []⟩) (fun k => k ≤ s.n ∧ ∀ j, j < k → (ds.map lightCf)[j]? = some true) (fun k => s.n - k) (0) ?_ ?_ ?_
    · exact ⟨by omega, fun j hj => by omega⟩
    · exact weak_of (wk1 rfl (wk1 rfl wk0)) wh0 nD
    ·
      rintro k ⟨hk, hg⟩
      refine Sat.seq ?_
      refine Sat.seq ?_
      refine Sat.region ?_
      refine Tr.move rfl rfl rfl ?_
      refine Tr.move rfl rfl rfl ?_
      refine Tr.lenSl rfl rfl rfl Try.underlying45 ?_
      refine Tr.lss rfl rfl rfl rfl rfl ?_
      refine Tr.nil ?_
      refine at_n ?_
      first
        | refine Sat.condP rfl (fun hc1 => ?_) (fun hc1 => ?_)
        | refine Sat.condNP rfl (fun hc1 => ?_) (fun hc1 => ?_)
        | refine Sat.cond rfl (fun hc1 => ?_) (fun hc1 => ?_)
      ·
        have hk2 : k < s.n := by omega
        obtain ⟨b, o, r, d, hsp, hr, hd, his, hlen, hsee⟩ := hs.at dE hk2
        have e1 := his.fHeads.len
        refine Sat.skip ?_
        refine at_n ?_
        refine Sat.seq ?_
        refine Sat.block ?_
        refine Sat.seq ?_
        refine Sat.region ?_
        refine Tr.move rfl rfl rfl ?_
        refine Tr.move rfl rfl rfl ?_
        refine Tr.idxSlP 34 rfl rfl rfl hsp rfl Try.underlying45 Sz33 k rfl oM ?_
        refine Tr.fld rfl rfl rfl Try.underlying33 rfl Sz26 dE _ rfl ?_
        refine Tr.loadE rfl rfl rfl Try.underlying26 rfl (by first | (simp; done) | (simp; exact hW.2.2) | (simp [Cx.with]; done) | (simp [Cx.with]; omega)) (hsee 33 _ (Cut.get_fHeads his.ok)) ?_
        refine Tr.lenSl rfl rfl rfl Try.underlying26 ?_
        refine Tr.gtr rfl rfl rfl rfl rfl ?_
        refine Tr.nil ?_
        refine at_n ?_
        first
          | refine Sat.condP rfl (fun hc2 => ?_) (fun hc2 => ?_)
          | refine Sat.condNP rfl (fun hc2 => ?_) (fun hc2 => ?_)
          | refine Sat.cond rfl (fun hc2 => ?_) (fun hc2 => ?_)
        ·
          refine Sat.seq ?_
          refine Sat.region ?_
          refine Tr.assign rfl rfl rfl ?_
          refine Tr.nil ?_
          refine at_n ?_
          refine Sat.ret ?_
          refine bl_r ?_
          refine at_r ?_
          refine at_r ?_
          refine bl_r ?_
          refine at_r ?_
          refine en_r ?_
          refine ⟨_, [], res_tmp rfl rfl, sP, sP, ?_, rfl⟩
          first
            | exact congrArg Value.bool ((light_in (by rw [hnd]; omega)).trans (light_all (by rw [hnd]; exact hg))).symm
            | exact congrArg Value.bool ((light_in (by rw [hnd]; omega)).trans (light_not (k := k) (by rw [List.getElem?_map, hd]; simp [lightCf]; omega))).symm
            | exact congrArg Value.bool (light_over (by rw [hnd]; omega)).symm
        ·
          refine Sat.skip ?_
          refine bl_n ?_
          refine at_n ?_
          refine Sat.region ?_
          refine Tr.move rfl rfl rfl ?_
          refine Tr.add_i64 rfl rfl rfl rfl oM ?_
          refine Tr.assign rfl rfl rfl ?_
          refine Tr.nil ?_
          refine at_n ?_
          exact ⟨k + 1, ⟨by omega, fun j hj => by rcases Nat.lt_succ_iff_lt_or_eq.1 hj with h | rfl; exact hg j h; exact (by rw [List.getElem?_map, hd]; simp [lightCf]; omega)⟩, by omega, weak_of (wk1 rfl (wk1 rfl wk0)) wh0 nD⟩
      ·
        obtain rfl : k = s.n := by omega
        refine Sat.exit ?_
        refine at_x ?_
        refine at_x ?_
        refine bl_h ?_
        refine at_n ?_
        refine Sat.seq ?_
        refine Sat.region ?_
        refine Tr.assign rfl rfl rfl ?_
        refine Tr.nil ?_
        refine at_n ?_
        refine Sat.ret ?_
        refine en_r ?_
        refine ⟨_, [], res_tmp rfl rfl, sP, sP, ?_, rfl⟩
        first
          | exact congrArg Value.bool ((light_in (by rw [hnd]; omega)).trans (light_all (by rw [hnd]; exact hg))).symm
          | exact congrArg Value.bool ((light_in (by rw [hnd]; omega)).trans (light_not (k := k) (by rw [List.getElem?_map, hd]; simp [lightCf]; omega))).symm
          | exact congrArg Value.bool (light_over (by rw [hnd]; omega)).symm

set_option maxRecDepth 100000 in
set_option maxHeartbeats 4000000 in
theorem lightd_certs (s : Sl) (ds : List DCert) (m : Int) : Meets Try.prog 6 [s.v, i64 m] [] (fun W => CertsAt W s ds) (fun v out => v = .bool (lightOf lightEf ds m) ∧ out = []) := by
  intro W hW
  obtain ⟨rs, hs⟩ := hW
  have hmax := hs.max
  simp only [maxLen] at hmax
  have hnd := hs.nd
  refine calls_of (hp0 := []) Try.func6 rfl 33 Try.ntmps6 rfl (HRep.nil _) ?_
  refine Sat.seq ?_
  refine Sat.region ?_
  refine Tr.assign rfl rfl rfl ?_
  refine Tr.nil ?_
  refine at_n ?_
  refine Sat.seq ?_
  refine Sat.seq ?_
  refine Sat.region ?_
  refine Tr.move rfl rfl rfl ?_
  refine Tr.lenSl rfl rfl rfl Try.underlying43 ?_
  refine Tr.move rfl rfl rfl ?_
  refine Tr.gtr rfl rfl rfl rfl rfl ?_
  refine Tr.nil ?_
  refine at_n ?_
  first
    | refine Sat.condP rfl (fun hc0 => ?_) (fun hc0 => ?_)
    | refine Sat.condNP rfl (fun hc0 => ?_) (fun hc0 => ?_)
    | refine Sat.cond rfl (fun hc0 => ?_) (fun hc0 => ?_)
  ·
    refine Sat.seq ?_
    refine Sat.region ?_
    refine Tr.assign rfl rfl rfl ?_
    refine Tr.nil ?_
    refine at_n ?_
    refine Sat.ret ?_
    refine at_r ?_
    refine en_r ?_
    refine ⟨_, [], res_tmp rfl rfl, sP, sP, ?_, rfl⟩
    first
      | exact congrArg Value.bool ((light_in (by rw [hnd]; omega)).trans (light_all (by rw [hnd]; exact hg))).symm
      | exact congrArg Value.bool ((light_in (by rw [hnd]; omega)).trans (light_not (k := k) (by rw [List.getElem?_map, hd]; simp [lightEf]; omega))).symm
      | exact congrArg Value.bool (light_over (by rw [hnd]; omega)).symm
  ·
    refine Sat.skip ?_
    refine at_n ?_
    refine Sat.seq ?_
    refine Sat.seq ?_
    refine Sat.region ?_
    refine Tr.assign rfl rfl rfl ?_
    refine Tr.nil ?_
    refine at_n ?_
    refine Sat.block ?_
    refine Sat.loop (ι := Nat) (fun k => ⟨[(0, s.v), (5, i64 (k : Int))], []⟩) (fun k => k ≤ s.n ∧ ∀ j, j < k → (ds.map lightEf)[j]? = some true) (fun k => s.n - k) (0) ?_ ?_ ?_
    · exact ⟨by omega, fun j hj => by omega⟩
    · exact weak_of (wk1 rfl (wk1 rfl wk0)) wh0 nD
    ·
      rintro k ⟨hk, hg⟩
      refine Sat.seq ?_
      refine Sat.seq ?_
      refine Sat.region ?_
      refine Tr.move rfl rfl rfl ?_
      refine Tr.move rfl rfl rfl ?_
      refine Tr.lenSl rfl rfl rfl Try.underlying43 ?_
      refine Tr.lss rfl rfl rfl rfl rfl ?_
      refine Tr.nil ?_
      refine at_n ?_
      first
        | refine Sat.condP rfl (fun hc1 => ?_) (fun hc1 => ?_)
        | refine Sat.condNP rfl (fun hc1 => ?_) (fun hc1 => ?_)
        | refine Sat.cond rfl (fun hc1 => ?_) (fun hc1 => ?_)
      ·
        have hk2 : k < s.n := by omega
        obtain ⟨b, o, r, d, hsp, hr, hd, his, hlen, hsee⟩ := hs.at dE hk2
        have e1 := his.fCut.fHeads.len
        obtain ⟨_, hvs⟩ := his.fVotes
        have e2 := hvs.nd
        refine Sat.skip ?_
        refine at_n ?_
        refine Sat.seq ?_
        refine Sat.block ?_
        refine Sat.seq ?_
        refine Sat.region ?_
        refine Tr.move rfl rfl rfl ?_
        refine Tr.move rfl rfl rfl ?_
        refine Tr.idxSlP 35 rfl rfl rfl hsp rfl Try.underlying43 Sz36 k rfl oM ?_
        refine Tr.fld rfl rfl rfl Try.underlying36 rfl Sz33 dE _ rfl ?_
        refine Tr.fld rfl rfl rfl Try.underlying33 rfl Sz26 dE _ rfl ?_
        refine Tr.loadE rfl rfl rfl Try.underlying26 rfl (by first | (simp; done) | (simp; exact hW.2.2) | (simp [Cx.with]; done) | (simp [Cx.with]; omega)) (hsee 33 _ (Cert.see_fCut his.ok 33 _ (Cut.get_fHeads his.ok.o_fCut))) ?_
        refine Tr.lenSl rfl rfl rfl Try.underlying26 ?_
        refine two (fun r hr k => Tr.gtr rfl rfl rfl rfl hr k) (fun hs6_70 => ?_) (fun hs6_70 => ?_)
        ·
          first | have hs6_7 := of_decide_eq_true hs6_70 | have hs6_7 := of_decide_eq_false hs6_70 | have hs6_7 := nd_t hs6_70 | have hs6_7 := nd_f hs6_70 | have hs6_7 := hs6_70
          refine Tr.move rfl rfl rfl ?_
          refine Tr.skp rfl rfl ?_
          refine Tr.skp rfl rfl ?_
          refine Tr.skp rfl rfl ?_
          refine Tr.skp rfl rfl ?_
          refine Tr.skp rfl rfl ?_
          refine Tr.skp rfl rfl ?_
          refine Tr.skp rfl rfl ?_
          refine Tr.pick rfl rfl rfl rfl rfl rfl ?_
          refine Tr.nil ?_
          refine at_n ?_
          refine Sat.cond_t rfl rfl ?_
          refine Sat.seq ?_
          refine Sat.region ?_
          refine Tr.assign rfl rfl rfl ?_
          refine Tr.nil ?_
          refine at_n ?_
          refine Sat.ret ?_
          refine bl_r ?_
          refine at_r ?_
          refine at_r ?_
          refine bl_r ?_
          refine at_r ?_
          refine en_r ?_
          refine ⟨_, [], res_tmp rfl rfl, sP, sP, ?_, rfl⟩
          first
            | exact congrArg Value.bool ((light_in (by rw [hnd]; omega)).trans (light_all (by rw [hnd]; exact hg))).symm
            | exact congrArg Value.bool ((light_in (by rw [hnd]; omega)).trans (light_not (k := k) (by rw [List.getElem?_map, hd]; simp [lightEf]; omega))).symm
            | exact congrArg Value.bool (light_over (by rw [hnd]; omega)).symm
        ·
          first | have hs6_7 := of_decide_eq_true hs6_70 | have hs6_7 := of_decide_eq_false hs6_70 | have hs6_7 := nd_t hs6_70 | have hs6_7 := nd_f hs6_70 | have hs6_7 := hs6_70
          refine Tr.move rfl rfl rfl ?_
          refine Tr.move rfl rfl rfl ?_
          refine Tr.move rfl rfl rfl ?_
          refine Tr.idxSlP 35 rfl rfl rfl hsp rfl Try.underlying43 Sz36 k rfl oM ?_
          refine Tr.fld rfl rfl rfl Try.underlying36 rfl Sz34 dE _ rfl ?_
          refine Tr.loadE rfl rfl rfl Try.underlying34 rfl (by first | (simp; done) | (simp; exact hW.2.2) | (simp [Cx.with]; done) | (simp [Cx.with]; omega)) (hsee 34 _ (Cert.get_fVotes his.ok)) ?_
          refine Tr.lenSl rfl rfl rfl Try.underlying34 ?_
          refine Tr.gtr rfl rfl rfl rfl rfl ?_
          refine Tr.pick rfl rfl rfl rfl rfl rfl ?_
          refine Tr.nil ?_
          refine at_n ?_
          first
            | refine Sat.condP rfl (fun hc2 => ?_) (fun hc2 => ?_)
            | refine Sat.condNP rfl (fun hc2 => ?_) (fun hc2 => ?_)
            | refine Sat.cond rfl (fun hc2 => ?_) (fun hc2 => ?_)
          ·
            refine Sat.seq ?_
            refine Sat.region ?_
            refine Tr.assign rfl rfl rfl ?_
            refine Tr.nil ?_
            refine at_n ?_
            refine Sat.ret ?_
            refine bl_r ?_
            refine at_r ?_
            refine at_r ?_
            refine bl_r ?_
            refine at_r ?_
            refine en_r ?_
            refine ⟨_, [], res_tmp rfl rfl, sP, sP, ?_, rfl⟩
            first
              | exact congrArg Value.bool ((light_in (by rw [hnd]; omega)).trans (light_all (by rw [hnd]; exact hg))).symm
              | exact congrArg Value.bool ((light_in (by rw [hnd]; omega)).trans (light_not (k := k) (by rw [List.getElem?_map, hd]; simp [lightEf]; omega))).symm
              | exact congrArg Value.bool (light_over (by rw [hnd]; omega)).symm
          ·
            refine Sat.skip ?_
            refine bl_n ?_
            refine at_n ?_
            refine Sat.region ?_
            refine Tr.move rfl rfl rfl ?_
            refine Tr.add_i64 rfl rfl rfl rfl oM ?_
            refine Tr.assign rfl rfl rfl ?_
            refine Tr.nil ?_
            refine at_n ?_
            exact ⟨k + 1, ⟨by omega, fun j hj => by rcases Nat.lt_succ_iff_lt_or_eq.1 hj with h | rfl; exact hg j h; exact (by rw [List.getElem?_map, hd]; simp [lightEf]; omega)⟩, by omega, weak_of (wk1 rfl (wk1 rfl wk0)) wh0 nD⟩
      ·
        obtain rfl : k = s.n := by omega
        refine Sat.exit ?_
        refine at_x ?_
        refine at_x ?_
        refine bl_h ?_
        refine at_n ?_
        refine Sat.seq ?_
        refine Sat.region ?_
        refine Tr.assign rfl rfl rfl ?_
        refine Tr.nil ?_
        refine at_n ?_
        refine Sat.ret ?_
        refine en_r ?_
        refine ⟨_, [], res_tmp rfl rfl, sP, sP, ?_, rfl⟩
        first
          | exact congrArg Value.bool ((light_in (by rw [hnd]; omega)).trans (light_all (by rw [hnd]; exact hg))).symm
          | exact congrArg Value.bool ((light_in (by rw [hnd]; omega)).trans (light_not (k := k) (by rw [List.getElem?_map, hd]; simp [lightEf]; omega))).symm
          | exact congrArg Value.bool (light_over (by rw [hnd]; omega)).symm

end Go.Proofs.Ytlgbmfokgnoocaa
end

section
namespace Go.Proofs.Ytlgbmfokgnoocaa
open Go Hw
set_option linter.unusedVariables false
set_option linter.unusedSimpArgs false

theorem take_snoc {D : Type} {ds : List D} {k : Nat} {d : D} (h : ds[k]? = some d) : ds.take (k + 1) = ds.take k ++ [d] := by
  obtain ⟨hk, rfl⟩ := List.getElem?_eq_some_iff.1 h
  rw [List.take_succ_eq_append_getElem hk]
theorem owned_is {W : World} {B : Block} {D : DB} {q1 c1 q2 c2 : Nat} (h : BlockIs W B D) (h1 : B.fLinks.n ≤ c1) (h2 : B.fData.n ≤ c2) (n1 : B.fLinks.n ≤ 1000000) (n2 : B.fData.n ≤ 1000000) : ∀ W2, Lies [⟨q2, bytesV D.ds, 5, c2 * 1⟩, ⟨q1, flatB D.ls, 25, c1 * 32⟩] W2 → BlockIs W2 (ownB B q1 c1 q2 c2) D := fun W2 hl => by
  have a1 : Acc ⟨some ⟨q1, 0, none⟩, B.fLinks.n, c1⟩ [⟨q1, flatB D.ls, 25, c1 * 32⟩] (flatB D.ls) 25 B.fLinks.n 32 := Acc.some h1 (by rw [flatB_length h.ls.row, h.ls.len])
  have a2 : Acc ⟨some ⟨q2, 0, none⟩, B.fData.n, c2⟩ [⟨q2, bytesV D.ds, 5, c2 * 1⟩] (bytesV D.ds) 5 B.fData.n 1 := Acc.some h2 (by rw [bytesV, List.length_map, h.ds.len, Nat.mul_one])
  exact ⟨ownB_ok h.ok _ _ _ _, h.w, h.seq, h.prev, acc_rows a1 (hl.sub (by intro b hb; rw [List.mem_singleton.1 hb]; exact List.mem_cons_of_mem _ List.mem_cons_self)) h.ls.row h.ls.len n1, acc_bytes a2 (hl.sub (by intro b hb; rw [List.mem_singleton.1 hb]; exact List.mem_cons_self)) h.ds.len n2, h.sg⟩

end Go.Proofs.Ytlgbmfokgnoocaa
end

section
namespace Go.Proofs.Ytlgbmfokgnoocaa
open Go Hw
set_option linter.unusedVariables false
set_option linter.unusedSimpArgs false

theorem rows_none {W : World} {m : Nat} : RowsAt W Sl.nil m [] := ⟨rfl, fun l h => (by cases h), Nat.le_refl _, SeesP.nil, by decide, fun _ => rfl⟩

end Go.Proofs.Ytlgbmfokgnoocaa
end

section
namespace Hw
open Go Go.RowKit
set_option linter.unusedSimpArgs false
set_option linter.unusedVariables false

/-- a contract of a deferred call -/
def MeetsD (P : Program) (f : FuncId) (args : List Value) (lent : List Nat) (Pre : World → Prop) (R : Value → List Blk → Prop) : Prop :=
  ∀ W, Pre W → ∀ u, CallsD P f args.toArray u W fun e u' W' => u' = u ∧ ∃ v out, e = .returned v ∧ R v out ∧ Ret lent out W W'

theorem callsD_of {P : Program} {f : FuncId} {fn : Func} {code : Code} {args : List Value} {W : World} {u : FrameMode} {lent : List Nat} {hp0 : List Blk} {R : Value → List Blk → Prop}
    (hf : P.funcs[f]? = some fn) (hb : fn.body = some code) (N : Nat) (hN : fn.ntmps = N) (hlen : Nat.ble args.length N = true)
    (hh : HRep ⟨P, W, N, lent, [], []⟩ hp0 W)
    (h : Sat ⟨P, W, N, lent, [], []⟩ code ⟨argSlots 0 args, hp0⟩ (endQ ⟨P, W, N, lent, [], []⟩ fn R)) :
    CallsD P f args.toArray u W fun e u' W' => u' = u ∧ ∃ v out, e = .returned v ∧ R v out ∧ Ret lent out W W' := by
  have hlen := Nat.le_of_ble_eq_true hlen
  subst hN
  refine callsD_of_wp hf hb (wp_mono (h _ _ ⟨⟨?_, rfl, fun t v ht => ?_⟩, hh⟩) fun e a' w' ⟨s', r', q⟩ => ?_)
  · simp; omega
  · have := argSlots_look args 0 t v ht
    rw [Array.getElem?_append]
    have hlt : t < args.length := by
      rcases Nat.lt_or_ge t args.length with h1 | h1
      · exact h1
      · rw [List.getElem?_eq_none oM] at this; cases this.2
    simp only [List.size_toArray]
    rw [if_pos hlt]
    simpa using this.2
  · have fin : (∃ v out, Res ⟨P, W, fn.ntmps, lent, [], []⟩ fn s' v ∧ (∀ b ∈ out, b ∈ s'.hp) ∧ ((s'.hp.map (·.n)).Nodup → (out.map (·.n)).Nodup) ∧ R v out) →
        a'.defers = [] ∧ ∃ v, (results fn a'.tmps).run P w' = .ok v w' ∧ ∃ v' out, Ending.returned v = .returned v' ∧ R v' out ∧ Ret lent out W w' := by
      rintro ⟨v, out, hr, hsub, hnd, hR⟩
      exact ⟨r'.rs.defers, v, hr a' w' r', v, out, rfl, hR, r'.rh.keeps, fun b hb => r'.rh.cells b (hsub b hb), hnd r'.rh.nodup, fun b hb => r'.rh.own b (hsub b hb)⟩
    cases e with
    | normal => exact fin q
    | ret => exact fin q
    | _ => exact q.elim

theorem res_cell_cell {C : Cx} {fn : Func} {s : St} {t t2 : Tmp} {T T2 : TypeId} {td td2 : TypeDesc} {n b b2 : Nat} {cs cs2 : List Value} {BT BT2 : TypeId} {m m2 : Nat} {v2 : Value} (hr : fn.results = #[.cell t T, .cell t2 T2]) (hv : look s.sl t = some (ptr b 0)) (hv2 : look s.sl t2 = some (ptr b2 0)) (hu : C.P.underlying T = some td) (hp' : plainDesc td = false) (hs : Sz C.P T n) (hb : (⟨b, cs, BT, m⟩ : Blk) ∈ s.hp) (hn : cs.length = n)
    (hu2 : C.P.underlying T2 = some td2) (hp2 : plainDesc td2 = true) (hb2 : (⟨b2, v2 :: cs2, BT2, m2⟩ : Blk) ∈ s.hp) : Res C fn s (.tuple #[agg cs, v2]) := by
  intro a w r
  have h1 := r.rs.slots t _ hv
  have h2 := r.rs.slots t2 _ hv2
  have h3 : w.cell? ⟨b2, 0, none⟩ = some v2 := (r.rh.cells _ hb2).cell (o := 0) rfl
  have k1 := run_cellAll r.rh hu hp' hs hb hn
  have k2 : (loadVar T2 ⟨b2, 0, none⟩).run C.P w = .ok v2 w := by simp [loadVar, run_isAgg_plain hu2 hp2, load, Sem.run, h3]
  simp [results, hr, h1, h2, asAddr, k1, k2]

abbrev dfr (g : Nat) (cap : Array Value) : Deferred := { target := .fn (.func g) cap, args := #[] }

/-- the end of a function that has deferred a call -/
def endAtD (C : Cx) (g : Nat) (cap : Array Value) (fn : Func) (R : Value → List Blk → Prop) (s : St) : Prop :=
  ∃ (lent : List Nat) (L keep : List Blk) (Pre : World → Prop) (R' : Value → List Blk → Prop), s.hp.Perm (L ++ keep) ∧ (∀ n ∈ lent, ∃ b ∈ L, b.n = n) ∧ MeetsD C.P g cap.toList lent Pre R' ∧ (∀ w, HRep C s.hp w → Pre w) ∧ ∀ v' out', R' v' out' → endAt C fn R ⟨s.sl, out' ++ keep⟩
def endQD (C : Cx) (g : Nat) (cap : Array Value) (fn : Func) (R : Value → List Blk → Prop) : Exit → St → Prop
  | .normal, s | .ret, s => endAtD C g cap fn R s
  | _, _ => False
theorem enD_r {C : Cx} {g : Nat} {cap : Array Value} {fn : Func} {R : Value → List Blk → Prop} {s : St} (h : endAtD C g cap fn R s) : endQD C g cap fn R .ret s := h

theorem run_defer {P : Program} {ρ : Operand → Value} {w : World} {x : Operand} {g : Nat} {cap : Array Value} {ty : TypeId} {pos : String} {af : Array Edge} (hx : ρ x = .func (.func g) #[] cap) :
    (execOp ρ ⟨none, .defer ⟨.value x, #[], #[]⟩, ty, pos, af, none⟩).run P w = .ok (.defer (dfr g cap)) w := by
  simp [execOp, resolve, hx, Deferred.ofValue]

theorem calls_defer {P : Program} {f : FuncId} {fn : Func} {r0 rest : Code} {id : Nat} {o0 : Oper} {x : Operand} {ty : TypeId} {pos : String} {af : Array Edge} {args : List Value} {W : World} {R : Value → List Blk → Prop}
    (hf : P.funcs[f]? = some fn) (hb : fn.body = some (.seq r0 (.seq (.region id [o0, ⟨none, .defer ⟨.value x, #[], #[]⟩, ty, pos, af, none⟩].toArray false) rest))) (N : Nat) (hN : fn.ntmps = N) (hlen : Nat.ble args.length N = true)
    (h : Sat ⟨P, W, N, [], [], []⟩ r0 ⟨argSlots 0 args, []⟩ (thenQ (fun s => Tr ⟨P, W, N, [], [], []⟩ [o0, ⟨none, .defer ⟨.value x, #[], #[]⟩, ty, pos, af, none⟩].toArray [(4, o0)] s (fun s' => ∃ g cap, evIn s'.sl x = some (.func (.func g) #[] cap) ∧ Body P g ∧
      Sat ⟨P, W, N, [], [], [dfr g cap]⟩ rest s' (endQD ⟨P, W, N, [], [], [dfr g cap]⟩ g cap fn R))) (fun _ _ => False))) :
    Calls P f args.toArray W fun e W' => ∃ v out, e = .returned v ∧ R v out ∧ Ret [] out W W' := by
  have hlen := Nat.le_of_ble_eq_true hlen
  subst hN
  refine calls_of_wp_defers hf hb ?_
  have rep0 : Rep ⟨P, W, fn.ntmps, [], [], []⟩ ⟨argSlots 0 args, []⟩ { tmps := args.toArray ++ Array.replicate (fn.ntmps - args.toArray.size) undef, defers := [] } W := by
    refine ⟨⟨?_, rfl, fun t v ht => ?_⟩, HRep.nil _⟩
    · simp; omega
    · have := argSlots_look args 0 t v ht
      rw [Array.getElem?_append]
      have hlt : t < args.length := by
        rcases Nat.lt_or_ge t args.length with h1 | h1
        · exact h1
        · rw [List.getElem?_eq_none oM] at this; cases this.2
      simp only [List.size_toArray]
      rw [if_pos hlt]
      simpa using this.2
  refine wp_seq (wp_mono (h _ _ rep0) fun e a w ⟨s, r, q⟩ => ?_)
  cases e with
  | normal =>
    refine wp_seq (wp_region ?_)
    simp only [List.toArray, Array.size]
    show wpOps P _ _ [0, 1] a w
    rw [wpOps_cons]
    refine Tr.step (C := ⟨P, W, fn.ntmps, [], [], []⟩) (c := 4) (o := o0) (by rfl) q a w r _ (fun s1 a1 w1 r1 k1 => ?_) _
    rw [wpOps_cons]
    cases k1 with
    | dup h => exact absurd r1.rh.nodup h
    | nil h =>
      obtain ⟨g, cap, hx, hbody, hrest⟩ := h
      have hex := run_defer (P := P) (ρ := a1.eval) (w := w1) (ty := ty) (pos := pos) (af := af) (r1.rs.eval hx)
      have hw : wantS [o0, ⟨none, .defer ⟨.value x, #[], #[]⟩, ty, pos, af, none⟩].toArray s1.sl ⟨none, .defer ⟨.value x, #[], #[]⟩, ty, pos, af, none⟩ = some true := rfl
      unfold wpOp
      have hi : [o0, (⟨none, .defer ⟨.value x, #[], #[]⟩, ty, pos, af, none⟩ : Oper)].toArray[1]? = some ⟨none, .defer ⟨.value x, #[], #[]⟩, ty, pos, af, none⟩ := rfl
      simp only [hi, wantS_ok r1.rs hw, if_true]
      refine .inl ?_
      unfold Oper.wp
      rw [hex, Oper.upon_defer]
      have r2 : Rep ⟨P, W, fn.ntmps, [], [], [dfr g cap]⟩ s1 ({ a1 with defers := dfr g cap :: a1.defers }.put none undef) w1 := by
        refine ⟨⟨r1.rs.size, ?_, r1.rs.slots⟩, r1.rh.cells, r1.rh.nodup, r1.rh.own, r1.rh.keeps, r1.rh.kok, r1.rh.kd⟩
        show dfr g cap :: a1.defers = _
        rw [r1.rs.defers]
      show wpOps P _ _ [] _ _
      refine wp_mono (hrest _ _ r2) fun e a3 w3 ⟨s3, r3, q3⟩ => ?_
      have fin : endAtD ⟨P, W, fn.ntmps, [], [], [dfr g cap]⟩ g cap fn R s3 → Leaves P fn a3.tmps (fun e W' => ∃ v out, e = .returned v ∧ R v out ∧ Ret [] out W W') a3.defers .returning w3 := by
        rintro ⟨lent, L, keep, Pre, R', hsp, hl, hc, hpre, hk⟩
        rw [show a3.defers = [dfr g cap] from r3.rs.defers]
        refine leaves_cons (f := g) (args := cap.toList.toArray) (fun h => by cases h) ?_ ?_
        · have := hbody (#[] ++ cap) w3
          simpa [invoke] using this
        · refine (hc w3 (hpre w3 r3.rh) .returning).mono fun e u' w4 ⟨hu, v', out', he, hR', hret⟩ => ?_
          subst hu; subst he
          have r4 : Rep ⟨P, W, fn.ntmps, [], [], [dfr g cap]⟩ ⟨s3.sl, out' ++ keep⟩ a3 w4 := ⟨r3.rs, r3.rh.lentRet hsp hl hret⟩
          obtain ⟨v, out, hr, hsub, hnd, hR⟩ := hk v' out' hR'
          exact ⟨v, hr a3 w4 r4, v, out, rfl, hR, r4.rh.keeps, fun b hb => r4.rh.cells b (hsub b hb), hnd r4.rh.nodup, fun b hb => r4.rh.own b (hsub b hb)⟩
      cases e with
      | normal => exact fin q3
      | ret => exact fin q3
      | _ => exact q3.elim
  | _ => exact q.elim
end Hw
end

section
namespace Go.Proofs.Ytlgbmfokgnoocaa
open Go Hw
set_option linter.unusedVariables false
set_option linter.unusedSimpArgs false

def DCut.zero : DCut := ⟨0, List.replicate 32 0, []⟩
/-- what is read: the data of a cut -/
def cutP (xs : List UInt8) : DCut × Nat × Int :=
  let r1 := numR xs 0 0
  let r2 := digR xs r1.2.1 r1.2.2
  let r3 := numR xs r2.2.1 r2.2.2
  let r4 := digsR xs (min r3.1.toNat 33) r3.2.1 r3.2.2
  (⟨r1.1, r2.1, r4.1⟩, r4.2)
def cutRd (xs : List UInt8) : DCut × Int :=
  if endR xs.length (cutP xs).2.1 (cutP xs).2.2 = 0 ∧ (cutP xs).1.check = 0 then ((cutP xs).1, 0) else (DCut.zero, 4)
theorem cutz_is (W : World) : CutIs W Cut.zero DCut.zero := ⟨Cut.zero_ok, rfl, rfl, rows_none⟩
/-- what reading a cut gives -/
def CutRead (xs : List UInt8) (v : Value) (out : List Blk) : Prop := ∃ C : Cut, C.ok ∧ v = .tuple #[agg C.cells, i64 (cutRd xs).2] ∧ ∀ W2, Lies out W2 → CutIs W2 C (cutRd xs).1
theorem cut_bad {xs : List UInt8} {out : List Blk} (h : ¬ (endR xs.length (cutP xs).2.1 (cutP xs).2.2 = 0 ∧ (cutP xs).1.check = 0)) : CutRead xs (.tuple #[agg Cut.zero.cells, i64 4]) out := by
  refine ⟨Cut.zero, Cut.zero_ok, ?_, fun W2 _ => ?_⟩ <;> rw [show cutRd xs = (DCut.zero, 4) from if_neg h]
  exact cutz_is W2
theorem cut_ok {xs : List UInt8} {out : List Blk} {C : Cut} (h : endR xs.length (cutP xs).2.1 (cutP xs).2.2 = 0 ∧ (cutP xs).1.check = 0) (hok : C.ok) (hC : ∀ W2, Lies out W2 → CutIs W2 C (cutP xs).1) : CutRead xs (.tuple #[agg C.cells, i64 0]) out := by
  refine ⟨C, hok, ?_, fun W2 h2 => ?_⟩ <;> rw [show cutRd xs = ((cutP xs).1, 0) from if_pos h]
  exact hC W2 h2

set_option maxRecDepth 100000 in
set_option maxHeartbeats 1000000 in
theorem cut_r1_ok (b c : Nat) (X : Cut) (hX : X.ok) (hbc : b ≠ c) : MeetsD Try.prog 63 [ptr b 0, ptr c 0] [b, c] (fun W => BlkOk W ⟨b, [i64 0], 48, 1⟩ ∧ BlkOk W ⟨c, (X).cells, 33, 34⟩) (fun v out => v = .tuple #[] ∧ out = [⟨b, [i64 0], 48, 1⟩, ⟨c, (X).cells, 33, 34⟩]) := by
  intro W hW
  intro u
  refine callsD_of (hp0 := [⟨b, [i64 0], 48, 1⟩, ⟨c, (X).cells, 33, 34⟩]) Try.func63 rfl 5 Try.ntmps63 rfl (HRep.two hW.1 hW.2 hbc) ?_
  refine Sat.seq ?_
  refine Sat.region ?_
  refine Tr.load1 rfl rfl rfl Try.underlying48 rfl mM (by first | rfl | exact get_words (by first | omega | (simp [hX.l_fPrev]; done) | (simp [hX.l_fPrev]; omega)) | exact get_bytes (by first | omega | (simp [hX.l_fPrev]; done) | (simp [hX.l_fPrev]; omega)) | exact get_ints (by first | omega | (simp [hX.l_fPrev]; done) | (simp [hX.l_fPrev]; omega))) ?_
  refine Tr.nei rfl rfl rfl rfl (show (!decide _) = false from congrArg not (decide_eq_true dE)) ?_
  refine Tr.nil ?_
  refine at_n ?_
  refine Sat.cond_f rfl (rfl) ?_
  refine Sat.skip ?_
  refine en_n ?_
  refine end_perm (out := (⟨b, [i64 0], 48, 1⟩ :: (⟨c, (X).cells, 33, 34⟩ :: []))) (res_none rfl) (pm_cons rM (pm_cons rM pm_nil)) ?_
  exact ⟨rfl, rfl⟩

set_option maxRecDepth 100000 in
set_option maxHeartbeats 1000000 in
theorem cut_r1_bad (b c : Nat) (X : Cut) (hX : X.ok) (hbc : b ≠ c) : MeetsD Try.prog 63 [ptr b 0, ptr c 0] [b, c] (fun W => BlkOk W ⟨b, [i64 4], 48, 1⟩ ∧ BlkOk W ⟨c, (X).cells, 33, 34⟩) (fun v out => v = .tuple #[] ∧ out = [⟨b, [i64 4], 48, 1⟩, ⟨c, (Cut.zero).cells, 33, 34⟩]) := by
  intro W hW
  intro u
  refine callsD_of (hp0 := [⟨b, [i64 4], 48, 1⟩, ⟨c, (X).cells, 33, 34⟩]) Try.func63 rfl 5 Try.ntmps63 rfl (HRep.two hW.1 hW.2 hbc) ?_
  refine Sat.seq ?_
  refine Sat.region ?_
  refine Tr.load1 rfl rfl rfl Try.underlying48 rfl mM (by first | rfl | exact get_words (by first | omega | (simp [hX.l_fPrev]; done) | (simp [hX.l_fPrev]; omega)) | exact get_bytes (by first | omega | (simp [hX.l_fPrev]; done) | (simp [hX.l_fPrev]; omega)) | exact get_ints (by first | omega | (simp [hX.l_fPrev]; done) | (simp [hX.l_fPrev]; omega))) ?_
  refine Tr.nei rfl rfl rfl rfl (show (!decide _) = true from congrArg not (decide_eq_false dE)) ?_
  refine Tr.nil ?_
  refine at_n ?_
  refine Sat.cond_t rfl (rfl) ?_
  refine Sat.region ?_
  refine Tr.build (cs := Cut.zero.cells) rfl rfl rfl (fun w => by kernel_rfl) ?_
  refine Tr.storeAll rfl rfl rfl rfl (Cut.isCell (by first | (simp [hX.l_fPrev]; done) | exact oK  | exact hX)) Sz33 (Cut.length (by first | (simp [hX.l_fPrev]; done) | exact oK  | exact hX)) mM (Cut.length (by first | (simp [hX.l_fPrev]; done) | exact oK  | exact hX)) uU ?_
  refine Tr.nil ?_
  refine en_n ?_
  refine end_perm (out := (⟨b, [i64 4], 48, 1⟩ :: (⟨c, (Cut.zero).cells, 33, 34⟩ :: []))) (res_none rfl) (pm_cons rM (pm_cons rM pm_nil)) ?_
  exact ⟨rfl, rfl⟩

set_option maxRecDepth 100000 in
set_option maxHeartbeats 4000000 in
theorem cut_read (a : Option Addr) (n c : Nat) (xs : List UInt8) (hl : xs.length = n) (hp : a = none → n = 0) (hn : n ≤ 90000) : Meets Try.prog 33 [.slice a n c] [] (fun W => SeesP W a (bytesV xs)) (CutRead xs) := by
  intro W hW
  obtain ⟨x1, r1, h1⟩ : ∃ l r, numR xs 0 0 = (l, r) := ⟨_, _, rfl⟩
  obtain ⟨a1, e1⟩ := r1
  obtain ⟨l2, r2, h2⟩ : ∃ l r, digR xs a1 e1 = (l, r) := ⟨_, _, rfl⟩
  obtain ⟨a2, e2⟩ := r2
  obtain ⟨x3, r3, h3⟩ : ∃ l r, numR xs a2 e2 = (l, r) := ⟨_, _, rfl⟩
  obtain ⟨a3, e3⟩ := r3
  obtain ⟨ls, r4, h4⟩ : ∃ l r, digsR xs (min x3.toNat 33) a3 e3 = (l, r) := ⟨_, _, rfl⟩
  obtain ⟨a4, e4⟩ := r4
  have hcp : cutP xs = (⟨x1, l2, ls⟩, a4, e4) := by simp only [cutP, h1, h2, h3, h4]
  have hd1 := numE_le h1 hl (Nat.zero_le _)
  have hd2 := digE_le h2 hl hd1
  have hd3 := numE_le h3 hl hd2.1
  have hd4 := digsR_at (e := e3) hl hd3 (min x3.toNat 33)
  rw [h4] at hd4
  have ok1 : ({ Cut.zero with fHeight := x1 } : Cut).ok := ⟨rfl⟩
  have ok2 : ({ Cut.zero with fHeight := x1, fPrev := l2 } : Cut).ok := ⟨hd2.2⟩
  have okX : ∀ s, ({ Cut.zero with fHeight := x1, fPrev := l2, fHeads := s } : Cut).ok := fun s => ⟨hd2.2⟩
  refine calls_defer Try.func33 rfl 37 Try.ntmps33 rfl ?_
  refine Sat.region ?_
  refine Tr.alloc (cs := Cut.zero.cells) rfl Cut.zr rfl ?_
  intro n2 hn2 hf2
  refine Tr.alloc (cs := [i64 0]) rfl Zr48 rfl ?_
  intro n3 hn3 hf3
  refine Tr.nil ?_
  refine at_n ?_
  refine Tr.makeFunc rfl rfl rfl rfl ?_
  refine Tr.nil ?_
  refine ⟨_, _, rfl, Body63, ?_⟩
  refine Sat.seq ?_
  refine Sat.region ?_
  refine Tr.move rfl rfl rfl ?_
  refine Tr.call4 rfl rfl rfl rfl rfl Body51 (oct_Read a n c xs hl hp hn) (fun w h => seesP_ext h rfl hW) ?_
  rintro v7 out7 ⟨n7, q7, cp7, rfl, hcp7, rfl⟩
  refine Tr.nd (fun hnd => ?_)
  have hne : q7 ≠ n7 := by intro e; simp [RB, e] at hnd
  have hn32 : n3 ≠ n2 := by intro e; simp [RB, e] at hnd
  clear hnd
  refine Tr.assign rfl rfl rfl ?_
  refine Tr.nil ?_
  refine at_n ?_
  refine Sat.seq ?_
  refine Sat.region ?_
  refine Tr.move rfl rfl rfl ?_
  refine Tr.callL (L := [RB n7 q7 n cp7 0 0]) rfl rfl rfl rfl rfl Body60 (rd_NumberE n7 q7 n cp7 0 0 xs hl (Nat.zero_le _) hcp7 oM x1 a1 e1 h1) (pm_cons rM pm_nil) (lent_ok rfl) (fun w h => ⟨own_blk h mM, sees_own h mM, hne⟩) ?_
  rintro v9 out9 ⟨rfl, rfl⟩
  refine Tr.move rfl rfl rfl ?_
  refine Tr.callL (L := [RB n7 q7 n cp7 a1 e1]) rfl rfl rfl rfl rfl Body61 (rd_DigestE n7 q7 n cp7 a1 e1 xs hl hd1 hcp7 oM l2 a2 e2 h2) (pm_cons rM pm_nil) (lent_ok rfl) (fun w h => ⟨own_blk h mM, sees_own h mM, hne⟩) ?_
  rintro v9 out9 ⟨rfl, rfl⟩
  refine Tr.fld rfl rfl rfl Try.underlying33 rfl Sz24 dE _ rfl ?_
  refine Tr.store1 rfl rfl rfl rfl rfl Sz24 mM (by rw [Cut.length (by first | (simp [hd2.2]; done) | exact oK  | exact okX _ | exact ok1 | exact ok2)]; decide) (Cut.set_fHeight (by first | (simp [hd2.2]; done) | exact oK  | exact okX _ | exact ok1 | exact ok2) _) uU ?_
  refine Tr.fld rfl rfl rfl Try.underlying33 rfl Sz25 dE _ rfl ?_
  refine Tr.storeN (bytesV _) rfl rfl rfl rfl rfl cB Sz25 (by simp [hd2.2]) mM (by rw [Cut.length (by first | (simp [hd2.2]; done) | exact oK  | exact okX _ | exact ok1 | exact ok2)]; simp [hd2.2]) (Cut.upd_fPrev (by first | (simp [hd2.2]; done) | exact oK  | exact okX _ | exact ok1 | exact ok2) _ (by simp [hd2.2])) uU ?_
  refine Tr.nil ?_
  refine at_n ?_
  refine Sat.seq ?_
  refine Sat.seq ?_
  refine Sat.region ?_
  refine Tr.move rfl rfl rfl ?_
  refine Tr.callL (L := [RB n7 q7 n cp7 a2 e2]) rfl rfl rfl rfl rfl Body60 (rd_NumberE n7 q7 n cp7 a2 e2 xs hl hd2.1 hcp7 oM x3 a3 e3 h3) (pm_cons rM pm_nil) (lent_ok rfl) (fun w h => ⟨own_blk h mM, sees_own h mM, hne⟩) ?_
  rintro v9 out9 ⟨rfl, rfl⟩
  refine Tr.min2 rfl rfl rfl rfl (show Value.int .u64 (if (33 : Int) < (x3.toNat : Int) then 33 else (x3.toNat : Int)) = .int .u64 ((min x3.toNat 33 : Nat) : Int) from by congr 1; split <;> omega) ?_
  refine Tr.move rfl rfl rfl ?_
  refine Tr.nil ?_
  refine at_n ?_
  refine Sat.block ?_
  refine Sat.loop (ι := Nat × Sl × List Blk) (fun p => ⟨[(2, ptr n2 0), (3, ptr n3 0), (4, ptr n7 0), (16, .int .u64 ((min x3.toNat 33 : Nat) : Int)), (17, u64 (UInt64.ofNat p.1))], (RB n7 q7 n cp7 (digsR xs p.1 a3 e3).2.1 (digsR xs p.1 a3 e3).2.2 :: (⟨q7, bytesV xs, 5, cp7 * 1⟩ :: (⟨n3, [i64 0], 48, 1⟩ :: (⟨n2, (({ Cut.zero with fHeight := x1, fPrev := l2, fHeads := p.2.1 } : Cut)).cells, 33, 34⟩ :: (p.2.2 ++ [])))))⟩) (fun p => p.1 ≤ min x3.toNat 33 ∧ Acc p.2.1 p.2.2 (flatB (digsR xs p.1 a3 e3).1) 25 p.1 32) (fun p => min x3.toNat 33 - p.1) ((0, Sl.nil, [])) ?_ ?_ ?_
  · exact ⟨Nat.zero_le _, Acc.none⟩
  · exact weak_perm (wk1 rfl (wk1 rfl (wk1 rfl (wk1 rfl (wk1 rfl wk0))))) (pm_cons rM (pm_cons rM (pm_cons rM (pm_cons rM (pm_none pm_nil)))))
  ·
    rintro p ⟨hp1, hac⟩
    have hD := digsR_at (e := e3) hl hd3 p.1
    obtain ⟨l5, r5, hd5⟩ : ∃ l r, digR xs (digsR xs p.1 a3 e3).2.1 (digsR xs p.1 a3 e3).2.2 = (l, r) := ⟨_, _, rfl⟩
    obtain ⟨a5, e5⟩ := r5
    have hdl := digE_le hd5 hl hD.1
    have hs := digsR_succ hd5
    have hj64 : (UInt64.ofNat p.1).toNat = p.1 := ofNat_nat oM
    refine Sat.seq ?_
    refine Sat.region ?_
    refine Tr.lss rfl rfl rfl rfl rfl ?_
    refine Tr.nil ?_
    refine at_n ?_
    refine Sat.seq ?_
    first
      | refine Sat.condP rfl (fun hc0 => ?_) (fun hc0 => ?_)
      | refine Sat.condNP rfl (fun hc0 => ?_) (fun hc0 => ?_)
      | refine Sat.cond rfl (fun hc0 => ?_) (fun hc0 => ?_)
    ·
      have hp3 : p.1 < min x3.toNat 33 := by omega
      refine Sat.skip ?_
      refine at_n ?_
      refine Sat.seq ?_
      refine Sat.block ?_
      refine Sat.drawK (sp_v (sp_v (sp_v (sp_k (sp_x sp_n))))) rfl [(0, 0), (0, 1), (0, 2), (4, 3), (2, 4), (4, 5), (0, 6)] [(4, 7)] Mixed (by kernel_rfl) (by kernel_rfl) ?_
      refine Tr.fld rfl rfl rfl Try.underlying33 rfl Sz26 dE _ rfl ?_
      refine Tr.kload1 rfl rfl rfl Try.underlying26 rfl mM (by first | exact Cut.get_fHeads (by first | (simp [hd2.2]; done) | exact oK  | exact okX _ | exact ok1 | exact ok2) | exact (by first | rfl | exact get_words (by first | omega | (simp [hd2.2]; done) | (simp [hd2.2]; omega)) | exact get_bytes (by first | omega | (simp [hd2.2]; done) | (simp [hd2.2]; omega)) | exact get_ints (by first | omega | (simp [hd2.2]; done) | (simp [hd2.2]; omega)))) ?_
      refine Tr.move rfl rfl rfl ?_
      refine Tr.callL (L := [RB n7 q7 n cp7 (digsR xs p.1 a3 e3).2.1 (digsR xs p.1 a3 e3).2.2]) rfl rfl rfl rfl rfl Body61 (rd_DigestE n7 q7 n cp7 (digsR xs p.1 a3 e3).2.1 (digsR xs p.1 a3 e3).2.2 xs hl hD.1 hcp7 oM l5 a5 e5 hd5) (pm_cons rM pm_nil) (lent_ok rfl) (fun w h => ⟨own_blk h mM, sees_own h mM, hne⟩) ?_
      rintro v9 out9 ⟨rfl, rfl⟩
      refine Tr.mkRow2 (z := agg (bytesV (List.replicate 32 0))) [agg (bytesV l5)] (bytesV l5) rfl rfl Try.underlying26 Sz25 Zr25 rfl rfl (by intro v hv; rw [List.mem_singleton.1 hv]; simp [Value.cells, hdl.2]) dE (by simp [Value.cells]) ?_
      intro q23
      refine Tr.appendAcc (z := agg (bytesV (List.replicate 32 0))) (by' := 32) (bytesV l5) rfl rfl rfl rfl rfl Try.underlying26 Try.underlying26 Sz25 Zr25 (by unfold By; kernel_rfl) rfl hac sG (fun w h => SeesP.of (sees_own h mM)) (fun e => by cases e) (bytesV_cell _) oM oM (by simp [bytesV, hdl.2]) ?_
      intro s24 bl24 hac24
      refine Tr.fld rfl rfl rfl Try.underlying33 rfl Sz26 dE _ rfl ?_
      refine Tr.nil ?_
      refine Tr.store1 rfl rfl rfl rfl rfl Sz26 mM (by rw [Cut.length (by first | (simp [hd2.2]; done) | exact oK  | exact okX _ | exact ok1 | exact ok2)]; decide) (by first | exact Cut.set_fHeads (by first | (simp [hd2.2]; done) | exact oK  | exact okX _ | exact ok1 | exact ok2) _ | exact Cut.setS_fHeads (by first | (simp [hd2.2]; done) | exact oK  | exact okX _ | exact ok1 | exact ok2) _ _ _) uU ?_
      refine Tr.nil ?_
      refine bl_n ?_
      refine at_n ?_
      refine Sat.region ?_
      refine Tr.add_u64 rfl rfl rfl (show evIn _ _ = some (u64 1) from rfl) ?_
      refine Tr.move rfl rfl rfl ?_
      refine Tr.nil ?_
      refine at_n ?_
      refine ⟨(p.1 + 1, s24, bl24), ⟨by simp only []; omega, ?_⟩, by simp only []; omega, weak_perm (wk1 rfl (wk1 rfl (wk1 rfl (wk1 rfl (wk1 (congrArg (fun z => some (u64 z)) (ofNat_step _)) wk0))))) (pm_consE rM (by simp only [hs]) rfl (pm_cons rM (pm_cons rM (pm_cons rM (pm_seg sG pm_nil)))))⟩
      simp only [hs]
      rw [flatB_append]
      simpa [flatB] using hac24
    ·
      have hp3 : p.1 = min x3.toNat 33 := by omega
      rw [hp3, h4] at hac
      rw [hp3, h4]
      refine Sat.exit ?_
      refine at_x ?_
      refine at_x ?_
      refine bl_h ?_
      refine at_n ?_
      refine Sat.seq ?_
      refine Sat.seq ?_
      refine Sat.region ?_
      refine Tr.move rfl rfl rfl ?_
      refine Tr.callV rfl rfl rfl rfl Body56 (rd_End n7 q7 n cp7 a4 e4 hd4.1 oM) (fun w h => own_blk h mM) ?_
      refine two (fun r hr k => Tr.nei rfl rfl rfl rfl hr k) (fun hs8_20 => ?_) (fun hs8_20 => ?_)
      ·
        first | have hs8_2 := of_decide_eq_true hs8_20 | have hs8_2 := of_decide_eq_false hs8_20 | have hs8_2 := nd_t hs8_20 | have hs8_2 := nd_f hs8_20 | have hs8_2 := hs8_20
        refine Tr.move rfl rfl rfl ?_
        refine Tr.skp rfl rfl ?_
        refine Tr.skp rfl rfl ?_
        refine Tr.skp rfl rfl ?_
        refine Tr.pick rfl rfl rfl rfl rfl rfl ?_
        refine Tr.nil ?_
        refine at_n ?_
        refine Sat.cond_t rfl rfl ?_
        refine Sat.seq ?_
        refine Sat.region ?_
        refine Tr.loadAll rfl rfl rfl Try.underlying33 rfl Sz33 mM (Cut.length (by first | (simp [hd2.2]; done) | exact oK  | exact okX _ | exact ok1 | exact ok2)) ?_
        refine Tr.storeAll rfl rfl rfl rfl (Cut.isCell (by first | (simp [hd2.2]; done) | exact oK  | exact okX _ | exact ok1 | exact ok2)) Sz33 (Cut.length (by first | (simp [hd2.2]; done) | exact oK  | exact okX _ | exact ok1 | exact ok2)) mM (Cut.length (by first | (simp [hd2.2]; done) | exact oK  | exact okX _ | exact ok1 | exact ok2)) uU ?_
        refine Tr.store1 rfl rfl rfl rfl rfl Sz48 mM (by first | (simp [hd2.2]; done) | (simp [hd2.2]; omega)) sT uU ?_
        refine Tr.nil ?_
        refine at_n ?_
        refine Sat.ret ?_
        refine at_r ?_
        refine enD_r ?_
        refine ⟨[n3, n2], [⟨n3, [i64 4], 48, 1⟩, ⟨n2, (({ Cut.zero with fHeight := x1, fPrev := l2, fHeads := p.2.1 } : Cut)).cells, 33, 34⟩], _, _, _, (pm_cons rM (pm_cons rM pm_nil)), lent_ok rfl, cut_r1_bad n3 n2 (({ Cut.zero with fHeight := x1, fPrev := l2, fHeads := p.2.1 } : Cut)) (okX _) hn32, (fun w h => ⟨own_blk h mM, own_blk h mM⟩), fun v2 out2 h => ?_⟩
        obtain ⟨rfl, rfl⟩ := h
        refine end_perm (out := []) (res_cell_cell rfl rfl rfl Try.underlying33 rfl Sz33 mM (Cut.length (by first | exact okX _ | exact Cut.zero_ok)) Try.underlying48 rfl mM) pm_nil ?_
        exact cut_bad (by rw [hcp, hl]; exact fun h => hs8_2 h.1)
      ·
        first | have hs8_2 := of_decide_eq_true hs8_20 | have hs8_2 := of_decide_eq_false hs8_20 | have hs8_2 := nd_t hs8_20 | have hs8_2 := nd_f hs8_20 | have hs8_2 := hs8_20
        refine Tr.move rfl rfl rfl ?_
        refine Tr.loadAll rfl rfl rfl Try.underlying33 rfl Sz33 mM (Cut.length (by first | (simp [hd2.2]; done) | exact oK  | exact okX _ | exact ok1 | exact ok2)) ?_
        refine Tr.callV rfl rfl rfl rfl Body49 (cut_check ({ Cut.zero with fHeight := x1, fPrev := l2, fHeads := p.2.1 } : Cut) ⟨x1, l2, ls⟩) (fun w h => ⟨okX _, rfl, rfl, acc_rows hac (Lies.of h iN) hd4.2.1 (by rw [hd4.2.2]) oM⟩) ?_
        refine Tr.nei rfl rfl rfl rfl rfl ?_
        refine Tr.pick rfl rfl rfl rfl rfl rfl ?_
        refine Tr.nil ?_
        refine at_n ?_
        first
          | refine Sat.condP rfl (fun hc1 => ?_) (fun hc1 => ?_)
          | refine Sat.condNP rfl (fun hc1 => ?_) (fun hc1 => ?_)
          | refine Sat.cond rfl (fun hc1 => ?_) (fun hc1 => ?_)
        ·
          refine Sat.seq ?_
          refine Sat.region ?_
          refine Tr.loadAll rfl rfl rfl Try.underlying33 rfl Sz33 mM (Cut.length (by first | (simp [hd2.2]; done) | exact oK  | exact okX _ | exact ok1 | exact ok2)) ?_
          refine Tr.storeAll rfl rfl rfl rfl (Cut.isCell (by first | (simp [hd2.2]; done) | exact oK  | exact okX _ | exact ok1 | exact ok2)) Sz33 (Cut.length (by first | (simp [hd2.2]; done) | exact oK  | exact okX _ | exact ok1 | exact ok2)) mM (Cut.length (by first | (simp [hd2.2]; done) | exact oK  | exact okX _ | exact ok1 | exact ok2)) uU ?_
          refine Tr.store1 rfl rfl rfl rfl rfl Sz48 mM (by first | (simp [hd2.2]; done) | (simp [hd2.2]; omega)) sT uU ?_
          refine Tr.nil ?_
          refine at_n ?_
          refine Sat.ret ?_
          refine at_r ?_
          refine enD_r ?_
          refine ⟨[n3, n2], [⟨n3, [i64 4], 48, 1⟩, ⟨n2, (({ Cut.zero with fHeight := x1, fPrev := l2, fHeads := p.2.1 } : Cut)).cells, 33, 34⟩], _, _, _, (pm_cons rM (pm_cons rM pm_nil)), lent_ok rfl, cut_r1_bad n3 n2 (({ Cut.zero with fHeight := x1, fPrev := l2, fHeads := p.2.1 } : Cut)) (okX _) hn32, (fun w h => ⟨own_blk h mM, own_blk h mM⟩), fun v2 out2 h => ?_⟩
          obtain ⟨rfl, rfl⟩ := h
          refine end_perm (out := []) (res_cell_cell rfl rfl rfl Try.underlying33 rfl Sz33 mM (Cut.length (by first | exact okX _ | exact Cut.zero_ok)) Try.underlying48 rfl mM) pm_nil ?_
          exact cut_bad (by rw [hcp, hl]; exact fun h => hc1 h.2)
        ·
          refine Sat.skip ?_
          refine at_n ?_
          refine Sat.seq ?_
          refine Sat.region ?_
          refine Tr.loadAll rfl rfl rfl Try.underlying33 rfl Sz33 mM (Cut.length (by first | (simp [hd2.2]; done) | exact oK  | exact okX _ | exact ok1 | exact ok2)) ?_
          refine Tr.storeAll rfl rfl rfl rfl (Cut.isCell (by first | (simp [hd2.2]; done) | exact oK  | exact okX _ | exact ok1 | exact ok2)) Sz33 (Cut.length (by first | (simp [hd2.2]; done) | exact oK  | exact okX _ | exact ok1 | exact ok2)) mM (Cut.length (by first | (simp [hd2.2]; done) | exact oK  | exact okX _ | exact ok1 | exact ok2)) uU ?_
          refine Tr.store1 rfl rfl rfl rfl rfl Sz48 mM (by first | (simp [hd2.2]; done) | (simp [hd2.2]; omega)) sT uU ?_
          refine Tr.nil ?_
          refine at_n ?_
          refine Sat.ret ?_
          refine enD_r ?_
          refine ⟨[n3, n2], [⟨n3, [i64 0], 48, 1⟩, ⟨n2, (({ Cut.zero with fHeight := x1, fPrev := l2, fHeads := p.2.1 } : Cut)).cells, 33, 34⟩], _, _, _, (pm_cons rM (pm_cons rM pm_nil)), lent_ok rfl, cut_r1_ok n3 n2 (({ Cut.zero with fHeight := x1, fPrev := l2, fHeads := p.2.1 } : Cut)) (okX _) hn32, (fun w h => ⟨own_blk h mM, own_blk h mM⟩), fun v2 out2 h => ?_⟩
          obtain ⟨rfl, rfl⟩ := h
          refine end_perm (out := (p.2.2 ++ [])) (res_cell_cell rfl rfl rfl Try.underlying33 rfl Sz33 mM (Cut.length (by first | exact okX _ | exact Cut.zero_ok)) Try.underlying48 rfl mM) (pm_seg sG pm_nil) ?_
          exact cut_ok (by rw [hcp, hl]; exact ⟨hs8_2, hc1⟩) (okX _) (fun W2 h2 => by
            rw [hcp]
            exact ⟨okX _, rfl, rfl, acc_rows hac (h2.sub in_here) hd4.2.1 (by rw [hd4.2.2]) oM⟩)

end Go.Proofs.Ytlgbmfokgnoocaa
end

section
namespace Go.Proofs.Ytlgbmfokgnoocaa
open Go Hw
set_option linter.unusedVariables false
set_option linter.unusedSimpArgs false

theorem Acc.hrep {P : Program} {W : World} {N : Nat} {s : Sl} {bl : List Blk} {cells : List Value} {E : TypeId} {n size : Nat} (h : Hw.Acc s bl cells E n size) (hl : Lies bl W) : HRep ⟨P, W, N, bl.map (·.n), [], []⟩ bl W :=
  ⟨hl, by rcases h with ⟨_, rfl, _⟩ | ⟨q, c, _, _, _, rfl⟩ <;> simp, fun b hb => .inr (List.mem_map.2 ⟨b, hb, rfl⟩), Keeps.refl _ _, fun _ h => (by cases h), fun _ _ _ h => (by cases h)⟩
theorem sees_kok {w : World} {b o : Nat} {cs l : List Value} {T : TypeId} {m : Nat} (hb : BlkOk w ⟨b, cs, T, m⟩) (hs : ∀ (j : Nat) (v : Value), l[j]? = some v → cs[o + j]? = some v) : Sees w b o l := fun j v hj => hb.cell (o := o + j) (hs j v hj)
theorem sp_e {X A K : List Blk} (h : ([] : List Blk).Perm (A ++ K)) : X.Perm ((X ++ A) ++ K) := by rw [List.append_assoc]; exact (List.Perm.append_left X h).symm.symm.trans (.refl _) |> fun k => (by rw [List.append_nil] at k; exact k)
theorem seesP_na {C : Cx} {hp : List Blk} {w : World} {p : Option Addr} {cs : List Value} (h : HRep C hp w) (hs : SeesP C.W0 p cs) (hna : ∀ a, p = some a → a.block ∉ C.lent) : SeesP w p cs := fun j v hj => by
  obtain ⟨b, o, e, hc⟩ := hs j v hj
  exact ⟨b, o, e, h.keeps.cell (show b ∉ C.lent from hna ⟨b, o, none⟩ e) hc⟩
theorem na_kb {C : Cx} {hp bl : List Blk} {w : World} {k : Blk} {o : Nat} (h : HRep C hp w) (hk : k ∈ C.kb) (hb : ∀ b ∈ bl, b ∈ hp) : ∀ a, (some ⟨k.n, o, none⟩ : Option Addr) = some a → a.block ∉ bl.map (·.n) := fun a e hm => by
  cases e
  obtain ⟨b, hb2, e2⟩ := List.mem_map.1 hm
  exact h.kd b (hb b hb2) k hk e2
def voteT (V : Vote) : List UInt8 := numB V.fHeight ++ numB V.fRound ++ numB (Hw.byteOf V.fPhase).toUInt64 ++ V.fValue ++ numB V.fProof ++ V.fVoter
def voteBy (V : Vote) : List UInt8 := if vcheck V = 0 then voteT V ++ V.fSig else []
def voteN (V : Vote) : Nat := szN V.fHeight.toNat + szN V.fRound.toNat + szN (Hw.byteOf V.fPhase).toUInt64.toNat + 32 + szN V.fProof.toNat + 32
theorem voteT_length {V : Vote} (h : V.ok) : (voteT V).length = voteN V := by simp only [voteT, voteN, List.length_append, numB_length, h.l_fValue, h.l_fVoter]
theorem voteN_le (V : Vote) : voteN V ≤ 100 := by
  have h1 := szN_pos V.fHeight.toNat
  have h2 := szN_pos V.fRound.toNat
  have h3 := szN_pos (Hw.byteOf V.fPhase).toUInt64.toNat
  have h4 := szN_pos V.fProof.toNat
  unfold voteN
  omega

set_option maxRecDepth 100000 in
set_option maxHeartbeats 1000000 in
theorem text_number (s : Sl) (bl : List Blk) (l : List UInt8) (n : Nat) (hac : Hw.Acc s bl (bytesV l) 5 n 1) (hn : n ≤ 1000) (x : UInt64) : Meets Try.prog 75 [s.v, u64 x] (bl.map (·.n)) (fun W => Lies bl W ∧ True) (fun v out => ∃ s', v = s'.v ∧ Hw.Acc s' out (bytesV (l ++ numB x)) 5 (n + szN x.toNat) 1) := by
  intro W hW
  have hz := szN_pos x.toNat
  refine calls_of (hp0 := bl) Try.func75 rfl 9 Try.ntmps75 rfl (Acc.hrep hac hW.1) ?_
  refine Sat.seq ?_
  refine Sat.region ?_
  refine Tr.assign rfl rfl rfl ?_
  refine Tr.nil ?_
  refine at_n ?_
  refine Sat.seq ?_
  refine Sat.region ?_
  refine Tr.move rfl rfl rfl ?_
  refine Tr.move rfl rfl rfl ?_
  refine Tr.call4 rfl rfl rfl rfl rfl Body50 (oct_Number none 0 0 [] x rfl (fun _ => rfl) oM) (fun _ _ => SeesP.nil) ?_
  rintro v7 out7 ⟨q7, c7, rfl, hc7, rfl⟩
  simp only [Nat.zero_add, List.nil_append, List.cons_append]
  refine Tr.appendAcc (z := u8 0) (by' := 1) (bytesV (numB x)) rfl rfl rfl rfl rfl Try.underlying100 Try.underlying27 Sz5 Zr5 (by unfold By; kernel_rfl) rfl hac sG (fun w h => SeesP.of (sees_own h mM)) (fun e => by cases e) (bytesV_cell _) oM oM (by simp [numB_length]) ?_
  intro s8 bl8 hac8
  refine Tr.assign rfl rfl rfl ?_
  refine Tr.nil ?_
  refine at_n ?_
  refine Sat.ret ?_
  refine en_r ?_
  refine end_perm (out := (bl8 ++ [])) (res_tmp rfl rfl) (pm_seg sG pm_nil) ?_
  exact ⟨s8, rfl, by rw [bytesV_app, List.append_nil]; exact hac8⟩

set_option maxRecDepth 100000 in
set_option maxHeartbeats 1000000 in
theorem text_raw (s : Sl) (bl : List Blk) (l : List UInt8) (n : Nat) (hac : Hw.Acc s bl (bytesV l) 5 n 1) (hn : n ≤ 1000) (p : Option Addr) (m c : Nat) (ys : List UInt8) (hy : ys.length = m) (hm : m ≤ 1000) (hpn : p = none → m = 0) : Meets Try.prog 48 [s.v, .slice p m c] (bl.map (·.n)) (fun W => Lies bl W ∧ SeesP W p (bytesV ys) ∧ ∀ a, p = some a → a.block ∉ bl.map (·.n)) (fun v out => ∃ s', v = s'.v ∧ Hw.Acc s' out (bytesV (l ++ ys)) 5 (n + m) 1) := by
  intro W hW
  refine calls_of (hp0 := bl) Try.func48 rfl 8 Try.ntmps48 rfl (Acc.hrep hac hW.1) ?_
  refine Sat.seq ?_
  refine Sat.region ?_
  refine Tr.assign rfl rfl rfl ?_
  refine Tr.nil ?_
  refine at_n ?_
  refine Sat.seq ?_
  refine Sat.region ?_
  refine Tr.move rfl rfl rfl ?_
  refine Tr.move rfl rfl rfl ?_
  refine Tr.appendAcc (z := u8 0) (by' := 1) (bytesV ys) rfl rfl rfl rfl rfl Try.underlying100 Try.underlying27 Sz5 Zr5 (by unfold By; kernel_rfl) rfl hac sG (fun w h => seesP_na h hW.2.1 hW.2.2) hpn (bytesV_cell _) oM oM (by rw [bytesV, List.length_map, hy, Nat.mul_one]) ?_
  intro s7 bl7 hac7
  refine Tr.assign rfl rfl rfl ?_
  refine Tr.nil ?_
  refine at_n ?_
  refine Sat.ret ?_
  refine en_r ?_
  refine end_perm (out := (bl7 ++ [])) (res_tmp rfl rfl) (pm_seg sG pm_nil) ?_
  exact ⟨s7, rfl, by rw [bytesV_app, List.append_nil]; exact hac7⟩

set_option maxRecDepth 100000 in
set_option maxHeartbeats 4000000 in
theorem text_vote (s : Sl) (bl : List Blk) (l : List UInt8) (n : Nat) (hac : Hw.Acc s bl (bytesV l) 5 n 1) (hn : n ≤ 100) (V : Vote) (hV : V.ok) : Meets Try.prog 47 [s.v, agg V.cells] (bl.map (·.n)) (fun W => Lies bl W) (fun v out => ∃ s', v = s'.v ∧ Hw.Acc s' out (bytesV (l ++ voteT V)) 5 (n + voteN V) 1) := by
  intro W hW
  have z1 := szN_pos V.fHeight.toNat
  have z2 := szN_pos V.fRound.toNat
  have z3 := szN_pos (Hw.byteOf V.fPhase).toUInt64.toNat
  have z4 := szN_pos V.fProof.toNat
  refine calls_of (hp0 := bl) Try.func47 rfl 27 Try.ntmps47 rfl (Acc.hrep hac hW) ?_
  refine Sat.seq ?_
  refine Sat.region ?_
  refine Tr.boxA rfl rfl ?_
  intro n3 hn3 hf3
  refine Tr.assign rfl rfl rfl ?_
  refine Tr.nil ?_
  refine at_n ?_
  refine Sat.join (ι := Sl × List Blk) (fun p => ⟨[(0, p.1.v), (3, ptr n3 0)], (p.2 ++ (⟨n3, V.cells, 38, V.cells.length⟩ :: []))⟩) (fun p => Hw.Acc p.1 p.2 (bytesV (l ++ numB V.fHeight ++ numB V.fRound ++ numB (Hw.byteOf V.fPhase).toUInt64)) 5 (n + szN V.fHeight.toNat + szN V.fRound.toNat + szN (Hw.byteOf V.fPhase).toUInt64.toNat) 1) ?_ ?_
  ·
    refine Sat.withK (sp_k (sp_e sp_n)) rfl ?_
    refine Sat.draw [(0, 0), (0, 1), (0, 2), (0, 4), (0, 5), (0, 7), (0, 8), (0, 9), (0, 10), (4, 3), (4, 6), (4, 11), (0, 12)] Mixed (by kernel_rfl) ?_
    refine Tr.move rfl rfl rfl ?_
    refine Tr.fld rfl rfl rfl Try.underlying38 rfl Sz24 dE _ rfl ?_
    refine Tr.kload1 rfl rfl rfl Try.underlying24 rfl mM (by first | exact Vote.get_fHeight (by first | exact oK  | exact hV) | exact vL) ?_
    refine Tr.fld rfl rfl rfl Try.underlying38 rfl Sz24 dE _ rfl ?_
    refine Tr.kload1 rfl rfl rfl Try.underlying24 rfl mM (by first | exact Vote.get_fRound (by first | exact oK  | exact hV) | exact vL) ?_
    refine Tr.fld rfl rfl rfl Try.underlying38 rfl Sz3 dE _ rfl ?_
    refine Tr.kload1 rfl rfl rfl Try.underlying3 rfl mM (by first | exact Vote.get_fPhase (by first | exact oK  | exact hV) | exact vL) ?_
    refine Tr.conv rfl rfl rfl Try.underlying3 Try.underlying5 (cv_i64_u8 _) ?_
    refine Tr.conv rfl rfl rfl Try.underlying5 Try.underlying24 (cv_u8_u64 _) ?_
    refine Tr.callL (L := bl) rfl rfl rfl rfl rfl Body75 (text_number s bl (l) (n) hac oM (V.fHeight)) sG (lent_ok rfl) (fun w h => ⟨Lies.of h iN, trivial⟩) ?_
    rintro v8 out8 ⟨s8, rfl, hac8⟩
    refine Tr.callL (L := out8) rfl rfl rfl rfl rfl Body75 (text_number s8 out8 (l ++ numB V.fHeight) (n + szN V.fHeight.toNat) hac8 oM (V.fRound)) sG (lent_ok rfl) (fun w h => ⟨Lies.of h iN, trivial⟩) ?_
    rintro v11 out11 ⟨s11, rfl, hac11⟩
    refine Tr.callL (L := out11) rfl rfl rfl rfl rfl Body75 (text_number s11 out11 (l ++ numB V.fHeight ++ numB V.fRound) (n + szN V.fHeight.toNat + szN V.fRound.toNat) hac11 oM ((Hw.byteOf V.fPhase).toUInt64)) sG (lent_ok rfl) (fun w h => ⟨Lies.of h iN, trivial⟩) ?_
    rintro v16 out16 ⟨s16, rfl, hac16⟩
    refine Tr.assign rfl rfl rfl ?_
    refine Tr.nil ?_
    refine at_n ?_
    simp only [List.cons_append, List.nil_append, List.append_nil]
    exact ⟨(s16, out16), hac16, weak_perm (wk1 rfl (wk1 rfl wk0)) (pm_seg sG (pm_cons rM pm_nil))⟩
  ·
    intro p hj
    have hap := hj
    refine Sat.seq ?_
    refine Sat.withK (sp_x (sp_k sp_n)) rfl ?_
    refine Sat.draw [(0, 0), (0, 1), (0, 2), (0, 4), (0, 5), (0, 7), (0, 8), (4, 3), (4, 6), (4, 9), (0, 10)] Mixed (by kernel_rfl) ?_
    refine Tr.move rfl rfl rfl ?_
    refine Tr.fld rfl rfl rfl Try.underlying38 rfl Sz25 dE _ rfl ?_
    refine Tr.sliceArr rfl rfl rfl Try.underlying25 Sz5 ?_
    refine Tr.fld rfl rfl rfl Try.underlying38 rfl Sz24 dE _ rfl ?_
    refine Tr.kload1 rfl rfl rfl Try.underlying24 rfl mM (by first | exact Vote.get_fProof (by first | exact oK  | exact hV) | exact vL) ?_
    refine Tr.fld rfl rfl rfl Try.underlying38 rfl Sz23 dE _ rfl ?_
    refine Tr.sliceArr rfl rfl rfl Try.underlying23 Sz5 ?_
    refine Tr.callL (L := p.2) rfl rfl rfl rfl rfl Body48 (text_raw p.1 p.2 (l ++ numB V.fHeight ++ numB V.fRound ++ numB (Hw.byteOf V.fPhase).toUInt64) (n + szN V.fHeight.toNat + szN V.fRound.toNat + szN (Hw.byteOf V.fPhase).toUInt64.toNat) hap oM (some ⟨n3, 0 + 3, none⟩) 32 32 V.fValue hV.l_fValue dE (fun e => by cases e)) sG (lent_ok rfl) (fun w h => ⟨Lies.of h iN, SeesP.of (sees_kok (h.kok _ List.mem_cons_self) (Vote.see_fValue hV)), na_kb h List.mem_cons_self iN⟩) ?_
    rintro v20 out20 ⟨s20, rfl, hac20⟩
    refine Tr.callL (L := out20) rfl rfl rfl rfl rfl Body75 (text_number s20 out20 (l ++ numB V.fHeight ++ numB V.fRound ++ numB (Hw.byteOf V.fPhase).toUInt64 ++ V.fValue) (n + szN V.fHeight.toNat + szN V.fRound.toNat + szN (Hw.byteOf V.fPhase).toUInt64.toNat + 32) hac20 oM (V.fProof)) sG (lent_ok rfl) (fun w h => ⟨Lies.of h iN, trivial⟩) ?_
    rintro v23 out23 ⟨s23, rfl, hac23⟩
    refine Tr.callL (L := out23) rfl rfl rfl rfl rfl Body48 (text_raw s23 out23 (l ++ numB V.fHeight ++ numB V.fRound ++ numB (Hw.byteOf V.fPhase).toUInt64 ++ V.fValue ++ numB V.fProof) (n + szN V.fHeight.toNat + szN V.fRound.toNat + szN (Hw.byteOf V.fPhase).toUInt64.toNat + 32 + szN V.fProof.toNat) hac23 oM (some ⟨n3, 0 + 36, none⟩) 32 32 V.fVoter hV.l_fVoter dE (fun e => by cases e)) sG (lent_ok rfl) (fun w h => ⟨Lies.of h iN, SeesP.of (sees_kok (h.kok _ List.mem_cons_self) (Vote.see_fVoter hV)), na_kb h List.mem_cons_self iN⟩) ?_
    rintro v26 out26 ⟨s26, rfl, hac26⟩
    refine Tr.assign rfl rfl rfl ?_
    refine Tr.nil ?_
    refine at_n ?_
    refine Sat.ret ?_
    refine en_r ?_
    simp only [List.cons_append, List.nil_append, List.append_nil]
    refine end_perm (out := (out26 ++ [])) (res_tmp rfl rfl) (pm_seg sG pm_nil) ?_
    refine ⟨s26, rfl, ?_⟩
    rw [List.append_nil, show l ++ voteT V = l ++ numB V.fHeight ++ numB V.fRound ++ numB (Hw.byteOf V.fPhase).toUInt64 ++ V.fValue ++ numB V.fProof ++ V.fVoter by simp only [voteT, List.append_assoc], show n + voteN V = n + szN V.fHeight.toNat + szN V.fRound.toNat + szN (Hw.byteOf V.fPhase).toUInt64.toNat + 32 + szN V.fProof.toNat + 32 by unfold voteN; omega]
    exact hac26

set_option maxRecDepth 100000 in
set_option maxHeartbeats 4000000 in
theorem vote_bytes (V : Vote) (hV : V.ok) : Meets Try.prog 23 [agg V.cells] [] (fun _ => True) (fun v out => ∃ s, v = .tuple #[s.v, i64 (vcheck V)] ∧ Hw.Acc s out (bytesV (voteBy V)) 5 (voteBy V).length 1) := by
  intro W hW
  have hvl := voteT_length hV
  have hvn := voteN_le V
  have hsl := hV.l_fSig
  refine calls_of (hp0 := []) Try.func23 rfl 15 Try.ntmps23 rfl (HRep.nil _) ?_
  refine Sat.seq ?_
  refine Sat.region ?_
  refine Tr.boxA rfl rfl ?_
  intro n1 hn1 hf1
  refine Tr.assign rfl rfl rfl ?_
  refine Tr.assign rfl rfl rfl ?_
  refine Tr.nil ?_
  refine at_n ?_
  refine Sat.seq ?_
  refine Sat.seq ?_
  refine Sat.region ?_
  refine Tr.loadAll rfl rfl rfl Try.underlying38 rfl Sz38 mM (Vote.length (by first | exact oK  | exact hV)) ?_
  refine Tr.callV rfl rfl rfl rfl Body46 (vote_check V hV) (fun _ _ => trivial) ?_
  refine Tr.assign rfl rfl rfl ?_
  refine Tr.nil ?_
  refine at_n ?_
  refine Sat.seq ?_
  refine Sat.region ?_
  refine Tr.move rfl rfl rfl ?_
  refine Tr.nei rfl rfl rfl rfl rfl ?_
  refine Tr.nil ?_
  refine at_n ?_
  first
    | refine Sat.condP rfl (fun hc0 => ?_) (fun hc0 => ?_)
    | refine Sat.condNP rfl (fun hc0 => ?_) (fun hc0 => ?_)
    | refine Sat.cond rfl (fun hc0 => ?_) (fun hc0 => ?_)
  ·
    refine Sat.seq ?_
    refine Sat.region ?_
    refine Tr.move rfl rfl rfl ?_
    refine Tr.assign rfl rfl rfl ?_
    refine Tr.assign rfl rfl rfl ?_
    refine Tr.nil ?_
    refine at_n ?_
    refine Sat.ret ?_
    refine at_r ?_
    refine en_r ?_
    refine end_perm (out := []) (res_tmp2 rfl rfl rfl) pm_nil ?_
    exact ⟨Sl.nil, rfl, by rw [show voteBy V = [] from if_neg hc0]; exact Acc.none⟩
  ·
    refine Sat.skip ?_
    refine at_n ?_
    refine Sat.seq ?_
    refine Sat.withK (sp_k sp_n) rfl ?_
    refine Sat.draw [(0, 0), (0, 2), (0, 3), (4, 1), (4, 4), (0, 5), (0, 6)] Mixed (by kernel_rfl) ?_
    refine Tr.kloadAll rfl rfl rfl Try.underlying38 rfl Sz38 mM (Vote.length (by first | exact oK  | exact hV)) ?_
    refine Tr.fld rfl rfl rfl Try.underlying38 rfl Sz29 dE _ rfl ?_
    refine Tr.sliceArr rfl rfl rfl Try.underlying29 Sz5 ?_
    refine Tr.callL (L := []) rfl rfl rfl rfl rfl Body47 (text_vote Sl.nil [] [] 0 Acc.none dE V hV) (.refl _) (lent_ok rfl) (fun w h => fun b hb => (by cases hb)) ?_
    rintro v11 out11 ⟨s11, rfl, hac11⟩
    simp only [List.nil_append, Nat.zero_add] at hac11
    refine Tr.callL (L := out11) rfl rfl rfl rfl rfl Body48 (text_raw s11 out11 (voteT V) (voteN V) hac11 oM (some ⟨n1, 0 + 68, none⟩) 64 64 V.fSig hV.l_fSig dE (fun e => by cases e)) sG (lent_ok rfl) (fun w h => ⟨Lies.of h iN, SeesP.of (sees_kok (h.kok _ List.mem_cons_self) (Vote.see_fSig hV)), na_kb h List.mem_cons_self iN⟩) ?_
    rintro v14 out14 ⟨s14, rfl, hac14⟩
    refine Tr.assign rfl rfl rfl ?_
    refine Tr.assign rfl rfl rfl ?_
    refine Tr.nil ?_
    refine at_n ?_
    refine Sat.ret ?_
    refine en_r ?_
    simp only [List.cons_append, List.nil_append, List.append_nil]
    refine end_perm (out := (out14 ++ [])) (res_tmp2 rfl rfl rfl) (pm_seg sG pm_nil) ?_
    refine ⟨s14, by rw [show vcheck V = 0 by omega], ?_⟩
    rw [show voteBy V = voteT V ++ V.fSig from if_pos oM, List.append_nil, show (voteT V ++ V.fSig).length = voteN V + 64 by rw [List.length_append, hvl, hsl]]
    exact hac14

theorem upd_vsig {X : Vote} (h : X.ok) {l : List UInt8} (hl : l = [] ∨ l.length = 64) : upd X.cells 68 (bytesV l) = ({ X with fSig := l ++ X.fSig.drop l.length } : Vote).cells := by
  rcases hl with rfl | hl
  · exact upd_nil _ _
  · rw [Vote.upd_fSig h l hl, hl, List.drop_of_length_le (by rw [h.l_fSig]; exact Nat.le_refl _), List.append_nil]
/-- what is read: the data of a vote -/
def voteP (xs : List UInt8) : Vote × Nat × Int :=
  let r1 := numR xs 0 0
  let r2 := numR xs r1.2.1 r1.2.2
  let r3 := numR xs r2.2.1 r2.2.2
  let r4 := digR xs r3.2.1 r3.2.2
  let r5 := numR xs r4.2.1 r4.2.2
  let r6 := digR xs r5.2.1 r5.2.2
  let r7 := takR xs 64 r6.2.1 r6.2.2
  (⟨r1.1, r2.1, ((min r3.1.toNat 4 : Nat) : Int), r4.1, r5.1, r6.1, r7.1 ++ (List.replicate 64 0).drop r7.1.length⟩, r7.2)
def voteRd (xs : List UInt8) : Vote × Int :=
  if endR xs.length (voteP xs).2.1 (voteP xs).2.2 = 0 ∧ vcheck (voteP xs).1 = 0 then ((voteP xs).1, 0) else (Vote.zero, 4)
theorem voteRd_bad {xs : List UInt8} (h : ¬ (endR xs.length (voteP xs).2.1 (voteP xs).2.2 = 0 ∧ vcheck (voteP xs).1 = 0)) : voteRd xs = (Vote.zero, 4) := if_neg h
theorem voteRd_ok {xs : List UInt8} (h : endR xs.length (voteP xs).2.1 (voteP xs).2.2 = 0 ∧ vcheck (voteP xs).1 = 0) : voteRd xs = ((voteP xs).1, 0) := if_pos h

set_option maxRecDepth 100000 in
set_option maxHeartbeats 4000000 in
theorem vote_read (a : Option Addr) (n c : Nat) (xs : List UInt8) (hl : xs.length = n) (hp : a = none → n = 0) (hn : n ≤ 90000) : Meets Try.prog 31 [.slice a n c] [] (fun W => SeesP W a (bytesV xs)) (fun v out => v = .tuple #[agg (voteRd xs).1.cells, i64 (voteRd xs).2] ∧ out = []) := by
  intro W hW
  obtain ⟨x1, r1, h1⟩ : ∃ l r, numR xs 0 0 = (l, r) := ⟨_, _, rfl⟩
  obtain ⟨a1, e1⟩ := r1
  obtain ⟨x2, r2, h2⟩ : ∃ l r, numR xs a1 e1 = (l, r) := ⟨_, _, rfl⟩
  obtain ⟨a2, e2⟩ := r2
  obtain ⟨x3, r3, h3⟩ : ∃ l r, numR xs a2 e2 = (l, r) := ⟨_, _, rfl⟩
  obtain ⟨a3, e3⟩ := r3
  obtain ⟨l4, r4, h4⟩ : ∃ l r, digR xs a3 e3 = (l, r) := ⟨_, _, rfl⟩
  obtain ⟨a4, e4⟩ := r4
  obtain ⟨x5, r5, h5⟩ : ∃ l r, numR xs a4 e4 = (l, r) := ⟨_, _, rfl⟩
  obtain ⟨a5, e5⟩ := r5
  obtain ⟨l6, r6, h6⟩ : ∃ l r, digR xs a5 e5 = (l, r) := ⟨_, _, rfl⟩
  obtain ⟨a6, e6⟩ := r6
  obtain ⟨l7, r7, h7⟩ : ∃ l r, takR xs 64 a6 e6 = (l, r) := ⟨_, _, rfl⟩
  obtain ⟨a7, e7⟩ := r7
  have hvp : voteP xs = (({ Vote.zero with fHeight := x1, fRound := x2, fPhase := ((min x3.toNat 4 : Nat) : Int), fValue := l4, fProof := x5, fVoter := l6, fSig := l7 ++ Vote.zero.fSig.drop l7.length } : Vote), a7, e7) := by simp only [voteP, h1, h2, h3, h4, h5, h6, h7]; rfl
  have hd1 := numE_le h1 hl (Nat.zero_le _)
  have hd2 := numE_le h2 hl hd1
  have hd3 := numE_le h3 hl hd2
  have hd4 := digE_le h4 hl hd3
  have hd5 := numE_le h5 hl hd4.1
  have hd6 := digE_le h6 hl hd5
  have hd7 := takE_le h7 hl hd6.1
  have hlen7 : l7.length ≤ 64 := by rcases hd7.2 with h | h <;> simp [h]
  have hs64 : (l7 ++ Vote.zero.fSig.drop l7.length).length = 64 := by rcases hd7.2 with h | h <;> simp [h, Vote.zero]
  have ok2 : ({ Vote.zero with fHeight := x1, fRound := x2 } : Vote).ok := ⟨rfl, rfl, rfl⟩
  have ok3 : ({ Vote.zero with fHeight := x1, fRound := x2, fPhase := ((min x3.toNat 4 : Nat) : Int) } : Vote).ok := ⟨rfl, rfl, rfl⟩
  have ok4 : ({ Vote.zero with fHeight := x1, fRound := x2, fPhase := ((min x3.toNat 4 : Nat) : Int), fValue := l4 } : Vote).ok := ⟨hd4.2, rfl, rfl⟩
  have ok5 : ({ Vote.zero with fHeight := x1, fRound := x2, fPhase := ((min x3.toNat 4 : Nat) : Int), fValue := l4, fProof := x5 } : Vote).ok := ⟨hd4.2, rfl, rfl⟩
  have ok6 : ({ Vote.zero with fHeight := x1, fRound := x2, fPhase := ((min x3.toNat 4 : Nat) : Int), fValue := l4, fProof := x5, fVoter := l6 } : Vote).ok := ⟨hd4.2, hd6.2, rfl⟩
  have okX : ({ Vote.zero with fHeight := x1, fRound := x2, fPhase := ((min x3.toNat 4 : Nat) : Int), fValue := l4, fProof := x5, fVoter := l6, fSig := l7 ++ Vote.zero.fSig.drop l7.length } : Vote).ok := ⟨hd4.2, hd6.2, hs64⟩
  refine calls_of (hp0 := []) Try.func31 rfl 42 Try.ntmps31 rfl (HRep.nil _) ?_
  refine Sat.seq ?_
  refine Sat.region ?_
  refine Tr.alloc (cs := Vote.zero.cells) rfl Vote.zr rfl ?_
  intro n2 hn2 hf2
  refine Tr.assign rfl rfl rfl ?_
  refine Tr.nil ?_
  refine at_n ?_
  refine Sat.seq ?_
  refine Sat.region ?_
  refine Tr.move rfl rfl rfl ?_
  refine Tr.call4 rfl rfl rfl rfl rfl Body51 (oct_Read a n c xs hl hp hn) (fun w h => seesP_ext h rfl hW) ?_
  rintro v7 out7 ⟨n7, q7, cp7, rfl, hcp7, rfl⟩
  refine Tr.nd (fun hnd => ?_)
  have hne : q7 ≠ n7 := by intro e; simp [RB, e] at hnd
  clear hnd
  refine Tr.assign rfl rfl rfl ?_
  refine Tr.nil ?_
  refine at_n ?_
  refine Sat.seq ?_
  refine Sat.region ?_
  refine Tr.move rfl rfl rfl ?_
  refine Tr.callL (L := [RB n7 q7 n cp7 0 0]) rfl rfl rfl rfl rfl Body60 (rd_NumberE n7 q7 n cp7 0 0 xs hl (Nat.zero_le _) hcp7 oM x1 a1 e1 h1) (pm_cons rM pm_nil) (lent_ok rfl) (fun w h => ⟨own_blk h mM, sees_own h mM, hne⟩) ?_
  rintro v9 out9 ⟨rfl, rfl⟩
  refine Tr.move rfl rfl rfl ?_
  refine Tr.callL (L := [RB n7 q7 n cp7 a1 e1]) rfl rfl rfl rfl rfl Body60 (rd_NumberE n7 q7 n cp7 a1 e1 xs hl hd1 hcp7 oM x2 a2 e2 h2) (pm_cons rM pm_nil) (lent_ok rfl) (fun w h => ⟨own_blk h mM, sees_own h mM, hne⟩) ?_
  rintro v9 out9 ⟨rfl, rfl⟩
  refine Tr.build (cs := ({ Vote.zero with fHeight := x1, fRound := x2 } : Vote).cells) rfl rfl rfl (fun w => by kernel_rfl) ?_
  refine Tr.alloc (cs := Vote.zero.cells) rfl Vote.zr rfl ?_
  intro n5 hn5 hf5
  refine Tr.storeAll rfl rfl rfl rfl (Vote.isCell (by first | (simp [hd4.2, hd6.2]; done) | exact oK  | exact okX | exact ok6 | exact ok5 | exact ok3 | exact ok2 | exact Vote.zero_ok)) Sz38 (Vote.length (by first | (simp [hd4.2, hd6.2]; done) | exact oK  | exact okX | exact ok6 | exact ok5 | exact ok3 | exact ok2 | exact Vote.zero_ok)) mM (Vote.length (by first | (simp [hd4.2, hd6.2]; done) | exact oK  | exact okX | exact ok6 | exact ok5 | exact ok3 | exact ok2 | exact Vote.zero_ok)) uU ?_
  refine Tr.nil ?_
  refine at_n ?_
  refine Sat.seq ?_
  refine Sat.region ?_
  refine Tr.move rfl rfl rfl ?_
  refine Tr.callL (L := [RB n7 q7 n cp7 a2 e2]) rfl rfl rfl rfl rfl Body60 (rd_NumberE n7 q7 n cp7 a2 e2 xs hl hd2 hcp7 oM x3 a3 e3 h3) (pm_cons rM pm_nil) (lent_ok rfl) (fun w h => ⟨own_blk h mM, sees_own h mM, hne⟩) ?_
  rintro v9 out9 ⟨rfl, rfl⟩
  refine Tr.min2 rfl rfl rfl rfl (show Value.int .u64 (if (4 : Int) < (x3.toNat : Int) then 4 else (x3.toNat : Int)) = .int .u64 ((min x3.toNat 4 : Nat) : Int) from by congr 1; split <;> omega) ?_
  refine Tr.conv rfl rfl rfl Try.underlying24 Try.underlying3 (show Value.int .i64 (IntKind.i64.wrap ((min x3.toNat 4 : Nat) : Int)) = i64 ((min x3.toNat 4 : Nat) : Int) by rw [i64_wrap oM]) ?_
  refine Tr.fld rfl rfl rfl Try.underlying38 rfl Sz3 dE _ rfl ?_
  refine Tr.store1 rfl rfl rfl rfl rfl Sz3 mM (by rw [Vote.length (by first | (simp [hd4.2, hd6.2]; done) | exact oK  | exact okX | exact ok6 | exact ok5 | exact ok3 | exact ok2 | exact Vote.zero_ok)]; decide) (Vote.set_fPhase (by first | (simp [hd4.2, hd6.2]; done) | exact oK  | exact okX | exact ok6 | exact ok5 | exact ok3 | exact ok2 | exact Vote.zero_ok) _) uU ?_
  refine Tr.nil ?_
  refine at_n ?_
  refine Sat.seq ?_
  refine Sat.region ?_
  refine Tr.move rfl rfl rfl ?_
  refine Tr.callL (L := [RB n7 q7 n cp7 a3 e3]) rfl rfl rfl rfl rfl Body61 (rd_DigestE n7 q7 n cp7 a3 e3 xs hl hd3 hcp7 oM l4 a4 e4 h4) (pm_cons rM pm_nil) (lent_ok rfl) (fun w h => ⟨own_blk h mM, sees_own h mM, hne⟩) ?_
  rintro v9 out9 ⟨rfl, rfl⟩
  refine Tr.fld rfl rfl rfl Try.underlying38 rfl Sz25 dE _ rfl ?_
  refine Tr.storeN (bytesV _) rfl rfl rfl rfl rfl cB Sz25 (by simp [hd4.2, hd6.2]) mM (by rw [Vote.length (by first | (simp [hd4.2, hd6.2]; done) | exact oK  | exact okX | exact ok6 | exact ok5 | exact ok3 | exact ok2 | exact Vote.zero_ok)]; simp [hd4.2, hd6.2]) (Vote.upd_fValue (by first | (simp [hd4.2, hd6.2]; done) | exact oK  | exact okX | exact ok6 | exact ok5 | exact ok3 | exact ok2 | exact Vote.zero_ok) _ (by simp [hd4.2, hd6.2])) uU ?_
  refine Tr.nil ?_
  refine at_n ?_
  refine Sat.seq ?_
  refine Sat.region ?_
  refine Tr.move rfl rfl rfl ?_
  refine Tr.callL (L := [RB n7 q7 n cp7 a4 e4]) rfl rfl rfl rfl rfl Body60 (rd_NumberE n7 q7 n cp7 a4 e4 xs hl hd4.1 hcp7 oM x5 a5 e5 h5) (pm_cons rM pm_nil) (lent_ok rfl) (fun w h => ⟨own_blk h mM, sees_own h mM, hne⟩) ?_
  rintro v9 out9 ⟨rfl, rfl⟩
  refine Tr.fld rfl rfl rfl Try.underlying38 rfl Sz24 dE _ rfl ?_
  refine Tr.store1 rfl rfl rfl rfl rfl Sz24 mM (by rw [Vote.length (by first | (simp [hd4.2, hd6.2]; done) | exact oK  | exact okX | exact ok6 | exact ok5 | exact ok3 | exact ok2 | exact Vote.zero_ok)]; decide) (Vote.set_fProof (by first | (simp [hd4.2, hd6.2]; done) | exact oK  | exact okX | exact ok6 | exact ok5 | exact ok3 | exact ok2 | exact Vote.zero_ok) _) uU ?_
  refine Tr.nil ?_
  refine at_n ?_
  refine Sat.seq ?_
  refine Sat.region ?_
  refine Tr.move rfl rfl rfl ?_
  refine Tr.callL (L := [RB n7 q7 n cp7 a5 e5]) rfl rfl rfl rfl rfl Body61 (rd_DigestE n7 q7 n cp7 a5 e5 xs hl hd5 hcp7 oM l6 a6 e6 h6) (pm_cons rM pm_nil) (lent_ok rfl) (fun w h => ⟨own_blk h mM, sees_own h mM, hne⟩) ?_
  rintro v9 out9 ⟨rfl, rfl⟩
  refine Tr.fld rfl rfl rfl Try.underlying38 rfl Sz23 dE _ rfl ?_
  refine Tr.storeN (bytesV _) rfl rfl rfl rfl rfl cB Sz23 (by simp [hd4.2, hd6.2]) mM (by rw [Vote.length (by first | (simp [hd4.2, hd6.2]; done) | exact oK  | exact okX | exact ok6 | exact ok5 | exact ok3 | exact ok2 | exact Vote.zero_ok)]; simp [hd4.2, hd6.2]) (Vote.upd_fVoter (by first | (simp [hd4.2, hd6.2]; done) | exact oK  | exact okX | exact ok6 | exact ok5 | exact ok3 | exact ok2 | exact Vote.zero_ok) _ (by simp [hd4.2, hd6.2])) uU ?_
  refine Tr.nil ?_
  refine at_n ?_
  refine Sat.seq ?_
  refine Sat.draw [(0, 0), (0, 1), (0, 2), (4, 3), (4, 4)] Mixed (by kernel_rfl) ?_
  refine Tr.fld rfl rfl rfl Try.underlying38 rfl Sz29 dE _ rfl ?_
  refine Tr.sliceArr rfl rfl rfl Try.underlying29 Sz5 ?_
  refine Tr.move rfl rfl rfl ?_
  refine Tr.callL (L := [RB n7 q7 n cp7 a6 e6]) rfl rfl rfl rfl rfl Body62 (rd_TakeE n7 q7 n cp7 a6 e6 64 dE dE xs hl hd6.1 hcp7 oM l7 a7 e7 h7) (pm_cons rM pm_nil) (lent_ok rfl) (fun w h => ⟨own_blk h mM, sees_own h mM, hne⟩) ?_
  rintro v30 out30 ⟨s30, bl30, rfl, hac30, rfl⟩
  simp only [List.append_assoc, List.cons_append, List.nil_append]
  refine Tr.copyP (bytesV l7) l7.length rfl rfl rfl rfl rfl Try.underlying27 Sz5 (fun w h => hac30.see (Lies.of h iN)) (fun e => hac30.nil e) (by simp [bytesV, hac30.num]) (by rw [hac30.num]; omega) (List.take_of_length_le (by simp [bytesV])) (bytesV_cell _) mM (by rw [Vote.length ok6]; show 68 + l7.length ≤ 132; omega) (upd_vsig ok6 hd7.2) uU ?_
  refine Tr.nil ?_
  refine at_n ?_
  refine Sat.seq ?_
  refine Sat.seq ?_
  refine Sat.region ?_
  refine Tr.move rfl rfl rfl ?_
  refine Tr.callV rfl rfl rfl rfl Body56 (rd_End n7 q7 n cp7 a7 e7 hd7.1 oM) (fun w h => own_blk h mM) ?_
  refine two (fun r hr k => Tr.nei rfl rfl rfl rfl hr k) (fun hs8_20 => ?_) (fun hs8_20 => ?_)
  ·
    first | have hs8_2 := of_decide_eq_true hs8_20 | have hs8_2 := of_decide_eq_false hs8_20 | have hs8_2 := nd_t hs8_20 | have hs8_2 := nd_f hs8_20 | have hs8_2 := hs8_20
    refine Tr.move rfl rfl rfl ?_
    refine Tr.skp rfl rfl ?_
    refine Tr.skp rfl rfl ?_
    refine Tr.skp rfl rfl ?_
    refine Tr.pick rfl rfl rfl rfl rfl rfl ?_
    refine Tr.nil ?_
    refine at_n ?_
    refine Sat.cond_t rfl rfl ?_
    refine Sat.seq ?_
    refine Sat.region ?_
    refine Tr.build (cs := Vote.zero.cells) rfl rfl rfl (fun w => by kernel_rfl) ?_
    refine Tr.storeAll rfl rfl rfl rfl (Vote.isCell (by first | (simp [hd4.2, hd6.2]; done) | exact oK  | exact okX | exact ok6 | exact ok5 | exact ok3 | exact ok2 | exact Vote.zero_ok)) Sz38 (Vote.length (by first | (simp [hd4.2, hd6.2]; done) | exact oK  | exact okX | exact ok6 | exact ok5 | exact ok3 | exact ok2 | exact Vote.zero_ok)) mM (Vote.length (by first | (simp [hd4.2, hd6.2]; done) | exact oK  | exact okX | exact ok6 | exact ok5 | exact ok3 | exact ok2 | exact Vote.zero_ok)) uU ?_
    refine Tr.assign rfl rfl rfl ?_
    refine Tr.nil ?_
    refine at_n ?_
    refine Sat.ret ?_
    refine at_r ?_
    refine en_r ?_
    refine end_perm (out := []) (res_cell_tmp rfl rfl rfl Try.underlying38 rfl Sz38 mM (by first | (simp [hd4.2, hd6.2]; done) | exact Vote.length (by first | (simp [hd4.2, hd6.2]; done) | exact oK  | exact okX | exact ok6 | exact ok5 | exact ok3 | exact ok2 | exact Vote.zero_ok))) pm_nil ?_
    first
      | exact ⟨by rw [voteRd_bad (by rw [hvp, hl]; exact fun h => hs8_2 h.1)], rfl⟩
      | exact ⟨by rw [voteRd_bad (by rw [hvp, hl]; exact fun h => hc0 h.2)], rfl⟩
      | exact ⟨by rw [voteRd_ok (by rw [hvp, hl]; exact ⟨hs8_2, hc0⟩), hvp], rfl⟩
  ·
    first | have hs8_2 := of_decide_eq_true hs8_20 | have hs8_2 := of_decide_eq_false hs8_20 | have hs8_2 := nd_t hs8_20 | have hs8_2 := nd_f hs8_20 | have hs8_2 := hs8_20
    refine Tr.move rfl rfl rfl ?_
    refine Tr.loadAll rfl rfl rfl Try.underlying38 rfl Sz38 mM (Vote.length (by first | (simp [hd4.2, hd6.2]; done) | exact oK  | exact okX | exact ok6 | exact ok5 | exact ok3 | exact ok2 | exact Vote.zero_ok)) ?_
    refine Tr.callV rfl rfl rfl rfl Body46 (vote_check ({ Vote.zero with fHeight := x1, fRound := x2, fPhase := ((min x3.toNat 4 : Nat) : Int), fValue := l4, fProof := x5, fVoter := l6, fSig := l7 ++ Vote.zero.fSig.drop l7.length } : Vote) okX) (fun _ _ => trivial) ?_
    refine Tr.nei rfl rfl rfl rfl rfl ?_
    refine Tr.pick rfl rfl rfl rfl rfl rfl ?_
    refine Tr.nil ?_
    refine at_n ?_
    first
      | refine Sat.condP rfl (fun hc0 => ?_) (fun hc0 => ?_)
      | refine Sat.condNP rfl (fun hc0 => ?_) (fun hc0 => ?_)
      | refine Sat.cond rfl (fun hc0 => ?_) (fun hc0 => ?_)
    ·
      refine Sat.seq ?_
      refine Sat.region ?_
      refine Tr.build (cs := Vote.zero.cells) rfl rfl rfl (fun w => by kernel_rfl) ?_
      refine Tr.storeAll rfl rfl rfl rfl (Vote.isCell (by first | (simp [hd4.2, hd6.2]; done) | exact oK  | exact okX | exact ok6 | exact ok5 | exact ok3 | exact ok2 | exact Vote.zero_ok)) Sz38 (Vote.length (by first | (simp [hd4.2, hd6.2]; done) | exact oK  | exact okX | exact ok6 | exact ok5 | exact ok3 | exact ok2 | exact Vote.zero_ok)) mM (Vote.length (by first | (simp [hd4.2, hd6.2]; done) | exact oK  | exact okX | exact ok6 | exact ok5 | exact ok3 | exact ok2 | exact Vote.zero_ok)) uU ?_
      refine Tr.assign rfl rfl rfl ?_
      refine Tr.nil ?_
      refine at_n ?_
      refine Sat.ret ?_
      refine at_r ?_
      refine en_r ?_
      refine end_perm (out := []) (res_cell_tmp rfl rfl rfl Try.underlying38 rfl Sz38 mM (by first | (simp [hd4.2, hd6.2]; done) | exact Vote.length (by first | (simp [hd4.2, hd6.2]; done) | exact oK  | exact okX | exact ok6 | exact ok5 | exact ok3 | exact ok2 | exact Vote.zero_ok))) pm_nil ?_
      first
        | exact ⟨by rw [voteRd_bad (by rw [hvp, hl]; exact fun h => hs8_2 h.1)], rfl⟩
        | exact ⟨by rw [voteRd_bad (by rw [hvp, hl]; exact fun h => hc0 h.2)], rfl⟩
        | exact ⟨by rw [voteRd_ok (by rw [hvp, hl]; exact ⟨hs8_2, hc0⟩), hvp], rfl⟩
    ·
      refine Sat.skip ?_
      refine at_n ?_
      refine Sat.seq ?_
      refine Sat.region ?_
      refine Tr.loadAll rfl rfl rfl Try.underlying38 rfl Sz38 mM (Vote.length (by first | (simp [hd4.2, hd6.2]; done) | exact oK  | exact okX | exact ok6 | exact ok5 | exact ok3 | exact ok2 | exact Vote.zero_ok)) ?_
      refine Tr.storeAll rfl rfl rfl rfl (Vote.isCell (by first | (simp [hd4.2, hd6.2]; done) | exact oK  | exact okX | exact ok6 | exact ok5 | exact ok3 | exact ok2 | exact Vote.zero_ok)) Sz38 (Vote.length (by first | (simp [hd4.2, hd6.2]; done) | exact oK  | exact okX | exact ok6 | exact ok5 | exact ok3 | exact ok2 | exact Vote.zero_ok)) mM (Vote.length (by first | (simp [hd4.2, hd6.2]; done) | exact oK  | exact okX | exact ok6 | exact ok5 | exact ok3 | exact ok2 | exact Vote.zero_ok)) uU ?_
      refine Tr.assign rfl rfl rfl ?_
      refine Tr.nil ?_
      refine at_n ?_
      refine Sat.ret ?_
      refine en_r ?_
      refine end_perm (out := []) (res_cell_tmp rfl rfl rfl Try.underlying38 rfl Sz38 mM (by first | (simp [hd4.2, hd6.2]; done) | exact Vote.length (by first | (simp [hd4.2, hd6.2]; done) | exact oK  | exact okX | exact ok6 | exact ok5 | exact ok3 | exact ok2 | exact Vote.zero_ok))) pm_nil ?_
      first
        | exact ⟨by rw [voteRd_bad (by rw [hvp, hl]; exact fun h => hs8_2 h.1)], rfl⟩
        | exact ⟨by rw [voteRd_bad (by rw [hvp, hl]; exact fun h => hc0 h.2)], rfl⟩
        | exact ⟨by rw [voteRd_ok (by rw [hvp, hl]; exact ⟨hs8_2, hc0⟩), hvp], rfl⟩

end Go.Proofs.Ytlgbmfokgnoocaa
end

section
namespace Go.Proofs.Ytlgbmfokgnoocaa
open Go Hw
set_option linter.unusedVariables false
set_option linter.unusedSimpArgs false

def blkB (ys : List UInt8) : List UInt8 := numB (UInt64.ofNat ys.length) ++ ys
def listB {D : Type} (f : D → List UInt8) (ds : List D) : List UInt8 := (ds.map fun d => blkB (f d)).flatten
theorem blkB_length {ys : List UInt8} (h : ys.length ≤ 1000000) : (blkB ys).length = szN ys.length + ys.length := by rw [blkB, List.length_append, numB_length, ofNat_nat h]
theorem listB_step {D : Type} (f : D → List UInt8) {ds : List D} {k : Nat} {d : D} (h : ds[k]? = some d) : listB f (ds.take (k + 1)) = listB f (ds.take k) ++ blkB (f d) := by
  rw [take_snoc h, listB, List.map_append, List.flatten_append]; simp [listB]
theorem listB_le {D : Type} (f : D → List UInt8) (M : Nat) (hM : M ≤ 100000) : ∀ ds : List D, (∀ d ∈ ds, (f d).length ≤ M) → (listB f ds).length ≤ ds.length * (M + 9)
  | [], _ => by simp [listB]
  | d :: ds, h => by
    have ih := listB_le f M hM ds (fun x hx => h x (List.mem_cons_of_mem _ hx))
    have h1 := h d List.mem_cons_self
    have h2 := szN_pos (f d).length
    have e : listB f (d :: ds) = blkB (f d) ++ listB f ds := rfl
    rw [e, List.length_append, blkB_length oM, List.length_cons, Nat.add_mul]
    omega
theorem listB_take_le {D : Type} (f : D → List UInt8) (M : Nat) (hM : M ≤ 100000) (ds : List D) (h : ∀ d ∈ ds, (f d).length ≤ M) (k : Nat) : (listB f (ds.take k)).length ≤ ds.length * (M + 9) := by
  have h1 := listB_le f M hM (ds.take k) (fun d hd => h d (List.mem_of_mem_take hd))
  have h2 : (ds.take k).length ≤ ds.length := by rw [List.length_take]; omega
  exact Nat.le_trans h1 (Nat.mul_le_mul_right _ h2)

set_option maxRecDepth 100000 in
set_option maxHeartbeats 4000000 in
theorem blk_vote_1 (a : Option Addr) (n c : Nat) (l : List UInt8) (hl : l.length = n) (hp : a = none → n = 0) (hn : n ≤ 40000) (X : Vote) (D : Vote) (q : Nat) (hsz : (voteBy D).length ≤ 40000) : Meets Try.prog 74 [.slice a n c, agg X.cells, ptr q 0] [] (fun W => SeesP W a (bytesV l) ∧ VoteIs W X D ∧ W.cell? ⟨q, 0, none⟩ = some (.func (.func 23) #[] #[])) (fun v out => FreshRow v out (bytesV (l ++ blkB (voteBy D))) 5 (l ++ blkB (voteBy D)).length 1) := by
  intro W hW
  obtain rfl : D = X := hW.2.1.eq.symm
  refine calls_of (hp0 := []) Try.func74 rfl 17 Try.ntmps74 rfl (HRep.nil _) ?_
  refine Sat.seq ?_
  refine Sat.region ?_
  refine Tr.boxA rfl rfl ?_
  intro n4 hn4 hf4
  refine Tr.assign rfl rfl rfl ?_
  refine Tr.nil ?_
  refine at_n ?_
  refine Sat.seq ?_
  refine Sat.region ?_
  refine Tr.loadE rfl rfl rfl Try.underlying70 rfl (by first | (simp; done) | (simp; exact hW.2.2) | (simp [Cx.with]; done) | (simp [Cx.with]; omega)) (hW.2.2) ?_
  refine Tr.loadAll rfl rfl rfl Try.underlying38 rfl Sz38 mM (Vote.length (by first | exact oK  | exact hW.2.1.ok)) ?_
  refine Tr.call4 rfl rfl rfl rfl rfl Body23 (vote_bytes D hW.2.1.ok) (fun w h => trivial) ?_
  rintro v11 out11 ⟨s11, rfl, hac11⟩
  have hnm := hac11.num
  refine Tr.move rfl rfl rfl ?_
  refine Tr.extract rfl rfl rfl rfl ?_
  refine Tr.extract rfl rfl rfl rfl ?_
  refine Tr.assign rfl rfl rfl ?_
  refine Tr.assign rfl rfl rfl ?_
  refine Tr.nil ?_
  refine at_n ?_
  refine Sat.seq ?_
  refine Sat.region ?_
  refine Tr.move rfl rfl rfl ?_
  refine Tr.move rfl rfl rfl ?_
  refine Tr.call4 rfl rfl rfl rfl rfl Body44 (oct_Block a s11.p n c s11.n s11.c l (voteBy D) hl hnm.symm hp (fun e => hac11.nil e) hn oM) (fun w h => ⟨seesP_ext h rfl hW.1, hac11.see (Lies.of h iN)⟩) ?_
  rintro v16 out16 ⟨q16, c16, rfl, hc16, rfl⟩
  have hq16 : n + szN s11.n + s11.n = (l ++ blkB (voteBy D)).length := by rw [List.length_append, blkB_length oM, hl, hnm]; omega
  refine Tr.assign rfl rfl rfl ?_
  refine Tr.nil ?_
  refine at_n ?_
  refine Sat.ret ?_
  refine en_r ?_
  refine end_perm (out := (⟨q16, bytesV (l ++ blkB (voteBy D)), 5, c16 * 1⟩ :: [])) (res_tmp rfl rfl) (pm_consE rM (by rw [blkB, hnm, List.append_assoc]) rfl pm_nil) ?_
  exact ⟨q16, c16, by rw [hq16], by rw [← hq16]; exact hc16, rfl⟩

set_option maxRecDepth 100000 in
set_option maxHeartbeats 1000000 in
theorem mk_blk_vote  : Meets Try.prog 45 [.func (.func 23) #[] #[]] [] (fun _ => True) (fun v out => ∃ c, v = .func (.func 74) #[] #[ptr c 0] ∧ out = [⟨c, [.func (.func 23) #[] #[]], 70, 1⟩]) := by
  intro W hW
  refine calls_of (hp0 := []) Try.func45 rfl 4 Try.ntmps45 rfl (HRep.nil _) ?_
  refine Sat.seq ?_
  refine Sat.region ?_
  refine Tr.box1 rfl rfl rfl ?_
  intro n1 hn1 hf1
  refine Tr.assign rfl rfl rfl ?_
  refine Tr.nil ?_
  refine at_n ?_
  refine Sat.seq ?_
  refine Sat.region ?_
  refine Tr.makeFunc rfl rfl rfl rfl ?_
  refine Tr.assign rfl rfl rfl ?_
  refine Tr.nil ?_
  refine at_n ?_
  refine Sat.ret ?_
  refine en_r ?_
  refine end_perm (out := (⟨n1, [.func (.func 23) #[] #[]], 70, 1⟩ :: [])) (res_tmp rfl rfl) (pm_cons rM pm_nil) ?_
  exact ⟨n1, rfl, by simp⟩

set_option maxRecDepth 100000 in
set_option maxHeartbeats 4000000 in
theorem put_votes (a : Option Addr) (n c : Nat) (l : List UInt8) (s : Sl) (ds : List Vote) (q M : Nat) (hl : l.length = n) (hp : a = none → n = 0) (hM : M ≤ 40000) (hsz : ∀ d ∈ ds, (voteBy d).length ≤ M) (hs : s.n ≤ 1000) (hN : n + 9 + s.n * (M + 9) ≤ 40000) : Meets Try.prog 43 [.slice a n c, s.v, .func (.func 74) #[] #[ptr q 0]] [] (fun W => SeesP W a (bytesV l) ∧ VotesAt W s ds ∧ W.cell? ⟨q, 0, none⟩ = some (.func (.func 23) #[] #[])) (fun v out => FreshRow v out (bytesV (l ++ numB (UInt64.ofNat s.n) ++ listB voteBy ds)) 5 (l ++ numB (UInt64.ofNat s.n) ++ listB voteBy ds).length 1) := by
  intro W hW
  obtain ⟨rs, hs1⟩ := hW.2.1
  have hnd := hs1.nd
  have hz := szN_pos s.n
  have hon := ofNat_nat (n := s.n) oM
  have hmul : ds.length * (M + 9) = s.n * (M + 9) := by rw [hnd]
  have hle : ∀ k, (l ++ numB (UInt64.ofNat s.n) ++ listB voteBy (ds.take k)).length ≤ 40000 := fun k => by
    have := listB_take_le voteBy M oM ds hsz k
    simp only [List.length_append, numB_length, hon, hl]
    omega
  refine calls_of (hp0 := []) Try.func43 rfl 26 Try.ntmps43 rfl (HRep.nil _) ?_
  refine Sat.seq ?_
  refine Sat.region ?_
  refine Tr.assign rfl rfl rfl ?_
  refine Tr.nil ?_
  refine at_n ?_
  refine Sat.seq ?_
  refine Sat.region ?_
  refine Tr.move rfl rfl rfl ?_
  refine Tr.move rfl rfl rfl ?_
  refine Tr.lenSl rfl rfl rfl Try.underlying34 ?_
  refine Tr.conv rfl rfl rfl Try.underlying3 Try.underlying24 (cv_i64_u64 _) ?_
  rw [word_nat (n := s.n) oM]
  refine Tr.call4 rfl rfl rfl rfl rfl Body50 (oct_Number a n c l (UInt64.ofNat s.n) hl hp oM) (fun w h => seesP_ext h rfl hW.1) ?_
  rintro v13 out13 ⟨q1, c1, rfl, hc1, rfl⟩
  have e13 : n + szN (UInt64.ofNat s.n).toNat = (l ++ numB (UInt64.ofNat s.n) ++ listB voteBy (ds.take 0)).length := by simp [listB, numB_length, hl]
  rw [e13] at hc1 ⊢
  refine Tr.assign rfl rfl rfl ?_
  refine Tr.nil ?_
  refine at_n ?_
  refine Sat.seq ?_
  refine Sat.seq ?_
  refine Sat.region ?_
  refine Tr.move rfl rfl rfl ?_
  refine Tr.lenSl rfl rfl rfl Try.underlying34 ?_
  refine Tr.move rfl rfl rfl ?_
  refine Tr.nil ?_
  refine at_n ?_
  refine Sat.block ?_
  refine Sat.loop (ι := Nat × Nat × Nat) (fun p => ⟨[(0, .slice (some ⟨p.2.1, 0, none⟩) (l ++ numB (UInt64.ofNat s.n) ++ listB voteBy (ds.take p.1)).length p.2.2), (2, .func (.func 74) #[] #[ptr q 0]), (14, s.v), (15, i64 (s.n : Int)), (16, i64 (p.1 : Int))], [⟨p.2.1, bytesV (l ++ numB (UInt64.ofNat s.n) ++ listB voteBy (ds.take p.1)), 5, p.2.2 * 1⟩]⟩) (fun p => p.1 ≤ s.n ∧ (l ++ numB (UInt64.ofNat s.n) ++ listB voteBy (ds.take p.1)).length ≤ p.2.2) (fun p => s.n - p.1) ((0, q1, c1)) ?_ ?_ ?_
  · exact ⟨Nat.zero_le _, hc1⟩
  · exact weak_of (wk1 rfl (wk1 rfl (wk1 rfl (wk1 rfl (wk1 rfl wk0))))) (wh1 (by simp only [List.take_zero, listB, List.map_nil, List.flatten_nil, List.append_nil]; exact mem0) wh0) nD
  ·
    rintro p ⟨hp1, hp2⟩
    refine Sat.seq ?_
    refine Sat.region ?_
    refine Tr.lss rfl rfl rfl rfl rfl ?_
    refine Tr.nil ?_
    refine at_n ?_
    refine Sat.seq ?_
    first
      | refine Sat.condP rfl (fun hc0 => ?_) (fun hc0 => ?_)
      | refine Sat.condNP rfl (fun hc0 => ?_) (fun hc0 => ?_)
      | refine Sat.cond rfl (fun hc0 => ?_) (fun hc0 => ?_)
    ·
      have hk2 : p.1 < s.n := by omega
      obtain ⟨b, o, r, d, hsp, hr, hd, his, hlen, hsee⟩ := hs1.at dE hk2
      refine Sat.skip ?_
      refine at_n ?_
      refine Sat.seq ?_
      refine Sat.block ?_
      refine Sat.seq ?_
      refine Sat.region ?_
      refine Tr.idxSlP 132 rfl rfl rfl hsp rfl Try.underlying34 Sz38 p.1 rfl oM ?_
      refine Tr.loadEN r.cells rfl rfl rfl Try.underlying38 rfl Sz38 sP hlen hsee ?_
      refine Tr.alloc (cs := Vote.zero.cells) rfl Vote.zr rfl ?_
      intro n8 hn8 hf8
      refine Tr.storeAll rfl rfl rfl rfl (Vote.isCell (by first | exact oK  | exact his.ok)) Sz38 (Vote.length (by first | exact oK  | exact his.ok)) mM (Vote.length (by first | exact oK  | exact his.ok)) uU ?_
      refine Tr.nil ?_
      refine at_n ?_
      refine Sat.region ?_
      refine Tr.move rfl rfl rfl ?_
      refine Tr.move rfl rfl rfl ?_
      refine Tr.loadAll rfl rfl rfl Try.underlying38 rfl Sz38 mM (Vote.length (by first | exact oK  | exact his.ok)) ?_
      refine Tr.call4C rfl rfl rfl rfl rfl rfl Body74 (blk_vote_1 (some ⟨p.2.1, 0, none⟩) (l ++ numB (UInt64.ofNat s.n) ++ listB voteBy (ds.take p.1)).length p.2.2 (l ++ numB (UInt64.ofNat s.n) ++ listB voteBy (ds.take p.1)) rfl (fun e => by cases e) (hle _) r d q (Nat.le_trans (hsz d (List.mem_of_getElem? hd)) hM)) (fun w h => ⟨SeesP.of (sees_own h mM), his.ext h rfl, h.keeps.cell sP hW.2.2⟩) ?_
      rintro v23 out23 ⟨q2, c2, rfl, hq2, rfl⟩
      rw [show l ++ numB (UInt64.ofNat s.n) ++ listB voteBy (ds.take p.1) ++ blkB (voteBy d) = l ++ numB (UInt64.ofNat s.n) ++ listB voteBy (ds.take (p.1 + 1)) by rw [listB_step voteBy hd, ← List.append_assoc]] at hq2 ⊢
      refine Tr.assign rfl rfl rfl ?_
      refine Tr.nil ?_
      refine bl_n ?_
      refine at_n ?_
      refine Sat.region ?_
      refine Tr.add_i64 rfl rfl rfl rfl oM ?_
      refine Tr.move rfl rfl rfl ?_
      refine Tr.nil ?_
      refine at_n ?_
      exact ⟨(p.1 + 1, q2, c2), ⟨by simp only []; omega, hq2⟩, by simp only []; omega, weak_of (wk1 rfl (wk1 rfl (wk1 rfl (wk1 rfl (wk1 rfl wk0))))) (wh1 mM wh0) nD⟩
    ·
      have hpe : p.1 = s.n := by omega
      have hds : ds = ds.take p.1 := by rw [List.take_of_length_le oM]
      refine Sat.exit ?_
      refine at_x ?_
      refine at_x ?_
      refine bl_h ?_
      refine at_n ?_
      refine Sat.seq ?_
      refine Sat.region ?_
      refine Tr.move rfl rfl rfl ?_
      refine Tr.assign rfl rfl rfl ?_
      refine Tr.nil ?_
      refine at_n ?_
      refine Sat.ret ?_
      refine en_r ?_
      refine ⟨_, [⟨p.2.1, bytesV (l ++ numB (UInt64.ofNat s.n) ++ listB voteBy ds), 5, p.2.2 * 1⟩], res_tmp rfl rfl, (by intro b hb; rw [List.mem_singleton.1 hb, hds]; simp only [List.take_take, Nat.min_self]; exact mem0), nodup1, ⟨p.2.1, p.2.2, by rw [← hds], by rw [← hds] at hp2; exact hp2, rfl⟩⟩

end Go.Proofs.Ytlgbmfokgnoocaa
end

section
namespace Go.Proofs.Ytlgbmfokgnoocaa
open Go Hw
set_option linter.unusedVariables false
set_option linter.unusedSimpArgs false

def DCert.bytes (D : DCert) : List UInt8 := blkB (cutR D.dCut) ++ numB (UInt64.ofNat D.dVotes.length) ++ listB voteBy D.dVotes
noncomputable def certBy (D : DCert) : List UInt8 := if D.check = 0 then D.bytes else []
theorem seqv_ok {W : World} {s : Sl} {rs ds : List Vote} (h : SeqIs Vote.cells 132 VoteIs W s rs ds) : ∀ d ∈ ds, d.ok := by
  intro d hd
  obtain ⟨j, hj, rfl⟩ := List.getElem_of_mem hd
  have hj2 : j < rs.length := by rw [h.nr, ← h.nd]; exact hj
  have := h.is j _ _ (List.getElem?_eq_getElem hj2) (List.getElem?_eq_getElem hj)
  rw [← this.eq]; exact this.ok
theorem voteBy_le {V : Vote} (h : V.ok) : (voteBy V).length ≤ 164 := by
  unfold voteBy
  split
  · have := voteN_le V
    rw [List.length_append, voteT_length h, h.l_fSig]; omega
  · simp
theorem DCert.facts {D : DCert} (h : D.check = 0) : D.dCut.check = 0 ∧ 1 ≤ D.dVotes.length ∧ D.dVotes.length ≤ 16 := by
  have h1 : ¬ D.head = true := fun e => by rw [cert_bad1 e] at h; cases h
  simp only [DCert.head, Bool.or_eq_true, Bool.not_eq_true', decide_eq_true_eq, decide_eq_false_iff_not] at h1
  omega
theorem cutR_le {C : Cut} {D : DCut} {W : World} (h : CutIs W C D) : (cutR D).length ≤ 2000 := by
  unfold cutR
  split
  · rename_i h1
    exact D.bytes_small h1 (h.fPrev ▸ h.ok.l_fPrev) h.fHeads.row
  · simp

set_option maxRecDepth 100000 in
set_option maxHeartbeats 4000000 in
theorem cert_bytes (C : Cert) (D : DCert) : Meets Try.prog 21 [agg C.cells] [] (fun W => CertIs W C D) (fun v out => ∃ s, v = .tuple #[s.v, i64 D.check] ∧ Hw.Acc s out (bytesV (certBy D)) 5 (certBy D).length 1) := by
  intro W hW
  obtain ⟨rs, hvs⟩ := hW.fVotes
  have hcl := cutR_le hW.fCut
  have hvok := seqv_ok hvs
  have hvn := hvs.nd
  have hz := szN_pos (cutR D.dCut).length
  refine calls_of (hp0 := []) Try.func21 rfl 24 Try.ntmps21 rfl (HRep.nil _) ?_
  refine Sat.seq ?_
  refine Sat.region ?_
  refine Tr.boxA rfl rfl ?_
  intro n1 hn1 hf1
  refine Tr.assign rfl rfl rfl ?_
  refine Tr.assign rfl rfl rfl ?_
  refine Tr.nil ?_
  refine at_n ?_
  refine Sat.seq ?_
  refine Sat.seq ?_
  refine Sat.region ?_
  refine Tr.loadAll rfl rfl rfl Try.underlying36 rfl Sz36 mM (Cert.length (by first | exact oK  | exact hW.ok | exact hW.ok.o_fCut)) ?_
  refine Tr.callV rfl rfl rfl rfl Body42 (cert_check C D) (fun w h => hW.ext h rfl) ?_
  refine Tr.assign rfl rfl rfl ?_
  refine Tr.nil ?_
  refine at_n ?_
  refine Sat.seq ?_
  refine Sat.region ?_
  refine Tr.move rfl rfl rfl ?_
  refine Tr.nei rfl rfl rfl rfl rfl ?_
  refine Tr.nil ?_
  refine at_n ?_
  first
    | refine Sat.condP rfl (fun hc0 => ?_) (fun hc0 => ?_)
    | refine Sat.condNP rfl (fun hc0 => ?_) (fun hc0 => ?_)
    | refine Sat.cond rfl (fun hc0 => ?_) (fun hc0 => ?_)
  ·
    refine Sat.seq ?_
    refine Sat.region ?_
    refine Tr.move rfl rfl rfl ?_
    refine Tr.assign rfl rfl rfl ?_
    refine Tr.assign rfl rfl rfl ?_
    refine Tr.nil ?_
    refine at_n ?_
    refine Sat.ret ?_
    refine at_r ?_
    refine en_r ?_
    refine end_perm (out := []) (res_tmp2 rfl rfl rfl) pm_nil ?_
    exact ⟨Sl.nil, rfl, by rw [show certBy D = [] from if_neg hc0]; exact Acc.none⟩
  ·
    have hck : D.check = 0 := by omega
    obtain ⟨hk1, hk2, hk3⟩ := DCert.facts hck
    refine Sat.skip ?_
    refine at_n ?_
    refine Sat.seq ?_
    refine Sat.region ?_
    refine Tr.fld rfl rfl rfl Try.underlying36 rfl Sz33 dE _ rfl ?_
    refine Tr.loadN (Cut.cells _) rfl rfl rfl Try.underlying33 rfl Sz33 mM (Cert.row_fCut (by first | exact oK  | exact hW.ok | exact hW.ok.o_fCut)) (Cert.rl_fCut (by first | exact oK  | exact hW.ok | exact hW.ok.o_fCut)) ?_
    refine Tr.call4 rfl rfl rfl rfl rfl Body25 (cut_bytes C.fCut D.dCut) (fun w h => hW.fCut.ext h rfl) ?_
    rintro v15 out15 ⟨s15, rfl, hac15⟩
    have hn15 := hac15.num
    refine Tr.move rfl rfl rfl ?_
    refine Tr.extract rfl rfl rfl rfl ?_
    refine Tr.extract rfl rfl rfl rfl ?_
    refine Tr.assign rfl rfl rfl ?_
    refine Tr.assign rfl rfl rfl ?_
    refine Tr.nil ?_
    refine at_n ?_
    refine Sat.seq ?_
    refine Sat.withK (sp_x (sp_k sp_n)) rfl ?_
    refine Sat.draw [(0, 0), (0, 2), (0, 3), (4, 1), (4, 4), (4, 5), (0, 6), (0, 7)] Mixed (by kernel_rfl) ?_
    refine Tr.move rfl rfl rfl ?_
    refine Tr.fld rfl rfl rfl Try.underlying36 rfl Sz34 dE _ rfl ?_
    refine Tr.kload1 rfl rfl rfl Try.underlying34 rfl mM (by first | exact Cert.get_fVotes (by first | exact oK  | exact hW.ok | exact hW.ok.o_fCut) | exact vL) ?_
    refine Tr.call4 rfl rfl rfl rfl rfl Body44 (oct_Block none s15.p 0 0 s15.n s15.c [] (cutR D.dCut) rfl hn15.symm (fun _ => rfl) (fun e => hac15.nil e) dE oM) (fun w h => ⟨SeesP.nil, hac15.see (Lies.of h iN)⟩) ?_
    rintro v19 out19 ⟨q19, c19, rfl, hc19, rfl⟩
    have hb19 : [] ++ numB (UInt64.ofNat s15.n) ++ cutR D.dCut = blkB (cutR D.dCut) := by rw [blkB, hn15]; rfl
    rw [hb19]
    refine Tr.call4 rfl rfl rfl rfl rfl Body45 (mk_blk_vote) (fun _ _ => trivial) ?_
    rintro v22 out22 ⟨c22, rfl, rfl⟩
    refine Tr.call4 rfl rfl rfl rfl rfl Body43 (put_votes (some ⟨q19, 0, none⟩) (0 + szN s15.n + s15.n) c19 (blkB (cutR D.dCut)) C.fVotes D.dVotes c22 164 (by rw [blkB_length oM, hn15]; omega) (fun e => by cases e) dE (fun d hd => voteBy_le (hvok d hd)) oM (by rw [hn15]; have : C.fVotes.n * (164 + 9) ≤ 16 * 173 := Nat.mul_le_mul oM (Nat.le_refl _); omega)) (fun w h => ⟨SeesP.of (sees_own (cs := bytesV (blkB (cutR D.dCut))) h mM), Votes_ext h rfl ⟨rs, hvs⟩, (own_blk (B := ⟨c22, _, _, _⟩) h mM).cell (o := 0) rfl⟩) ?_
    rintro v23 out23 ⟨q23, c23, rfl, hc23, rfl⟩
    refine Tr.assign rfl rfl rfl ?_
    refine Tr.assign rfl rfl rfl ?_
    refine Tr.nil ?_
    refine at_n ?_
    refine Sat.ret ?_
    refine en_r ?_
    simp only [List.cons_append, List.nil_append, List.append_nil]
    refine end_perm (out := (⟨q23, bytesV (blkB (cutR D.dCut) ++ numB (UInt64.ofNat C.fVotes.n) ++ listB voteBy D.dVotes), 5, c23 * 1⟩ :: [])) (res_tmp2 rfl rfl rfl) (pm_cons rM pm_nil) ?_
    refine ⟨⟨some ⟨q23, 0, none⟩, (blkB (cutR D.dCut) ++ numB (UInt64.ofNat C.fVotes.n) ++ listB voteBy D.dVotes).length, c23⟩, (by rw [hck]; try rfl), ?_⟩
    rw [show certBy D = D.bytes from if_pos hck, DCert.bytes, hvn]
    exact Acc.some hc23 (by rw [bytesV, List.length_map, Nat.mul_one])

end Go.Proofs.Ytlgbmfokgnoocaa
end

section
namespace Hw
open Go Go.RowKit
set_option linter.unusedSimpArgs false
set_option linter.unusedVariables false
section
variable {C : Cx} {fn : Func} {s : St}
end

/-- a row of one's own, from some place of its block on -/
def AccO (s : Sl) (bl : List Blk) (cells : List Value) (E : TypeId) (n : Nat) : Prop :=
  (s = Sl.nil ∧ bl = [] ∧ cells = [] ∧ n = 0) ∨ ∃ q o c m pre post, s = ⟨some ⟨q, o, none⟩, n, c⟩ ∧ n ≤ c ∧ cells.length = n ∧ pre.length = o ∧ (post = [] ∨ n = c) ∧ o + c ≤ m ∧ bl = [⟨q, pre ++ cells ++ post, E, m⟩]
section
variable {s : Sl} {bl : List Blk} {cells : List Value} {E : TypeId} {n : Nat}
theorem AccO.none : AccO Sl.nil [] [] E 0 := .inl ⟨rfl, rfl, rfl, rfl⟩
theorem AccO.num (h : AccO s bl cells E n) : s.n = n := by rcases h with ⟨rfl, _, _, rfl⟩ | ⟨q, o, c, m, pre, post, rfl, _⟩ <;> rfl
theorem AccO.len (h : AccO s bl cells E n) : cells.length = n := by rcases h with ⟨_, _, rfl, rfl⟩ | ⟨q, o, c, m, pre, post, _, _, h, _⟩; rfl; exact h
theorem AccO.cap (h : AccO s bl cells E n) : s.n ≤ s.c := by rcases h with ⟨rfl, _⟩ | ⟨q, o, c, m, pre, post, rfl, h, _⟩; exact Nat.le_refl _; exact h
theorem AccO.nilc (h : AccO s bl cells E n) (hp : s.p = .none) : s.c = 0 := by rcases h with ⟨rfl, _⟩ | ⟨q, o, c, m, pre, post, rfl, _⟩; rfl; cases hp
theorem AccO.see (h : AccO s bl cells E n) {w : World} (hw : Lies bl w) : SeesP w s.p cells := by
  rcases h with ⟨_, _, rfl, _⟩ | ⟨q, o, c, m, pre, post, rfl, _, h3, h4, _, _, rfl⟩
  · exact SeesP.nil
  · refine SeesP.of fun j v hj => ?_
    refine (hw _ (List.mem_singleton.2 rfl)).cell (o := o + j) (v := v) ?_
    show (pre ++ cells ++ post)[o + j]? = some v
    have hlt := (List.getElem?_eq_some_iff.1 hj).1
    rw [List.append_assoc, List.getElem?_append_right oM, h4, Nat.add_sub_cancel_left, List.getElem?_append_left hlt]
    exact hj
theorem AccO.pos (h : AccO s bl cells E n) (hn : 0 < n) : ∃ q o c m pre post, s = ⟨some ⟨q, o, .none⟩, n, c⟩ ∧ n ≤ c ∧ cells.length = n ∧ pre.length = o ∧ (post = [] ∨ n = c) ∧ o + c ≤ m ∧ bl = [⟨q, pre ++ cells ++ post, E, m⟩] := by
  rcases h with ⟨_, _, _, rfl⟩ | h
  · exact absurd hn dE
  · exact h
/-- without the first -/
theorem AccO.cut {q o c m : Nat} {pre post : List Value} {x : Value} {l : List Value} (hc : n + 1 ≤ c) (hl : l.length = n) (hp : pre.length = o) (hpo : post = [] ∨ n + 1 = c) (hm : o + c ≤ m) : AccO ⟨some ⟨q, if c = 1 then o else o + 1 * 1, .none⟩, n + 1 - 1, c - 1⟩ [⟨q, pre ++ (x :: l) ++ post, E, m⟩] l E n := by
  by_cases e : c = 1
  · obtain rfl : n = 0 := by omega
    obtain rfl : l = [] := List.eq_nil_of_length_eq_zero hl
    subst e
    rw [if_pos rfl]
    exact .inr ⟨q, o, 0, m, pre, x :: post, rfl, Nat.le_refl _, rfl, hp, .inr rfl, by omega, by simp⟩
  · rw [if_neg e]
    exact .inr ⟨q, o + 1, c - 1, m, pre ++ [x], post, by simp, by omega, hl, by simp [hp], hpo.imp_right (fun h => by omega), by omega, by simp⟩
theorem Acc.off {c : Nat} (h : Acc s bl cells E n 1) : AccO s bl cells E n := by
  rcases h with ⟨rfl, rfl, rfl, rfl⟩ | ⟨q, c, rfl, h1, h2, rfl⟩
  · exact .inl ⟨rfl, rfl, rfl, rfl⟩
  · exact .inr ⟨q, 0, c, c * 1, [], [], rfl, h1, by omega, rfl, .inl rfl, by omega, by simp⟩
end
section
variable {C : Cx} {ops : Array Oper} {rest : List (Nat × Oper)} {sl : List (Nat × Value)} {hp hp' : List Blk} {Q : St → Prop} {c d : Nat} {ty : TypeId} {pos : String} {af : Array Edge} {g : Option (Nat × Bool)}
/-- a new row of length 0, with room for elements of any size -/
theorem Tr.mkRoomN {T E : TypeId} {x y : Operand} {kx ky : IntKind} {z : Value} {by' size : Nat} {mi : Int} (m : Nat) (hg : guardOk ops sl g = true) (hk : okG c d C.N = true) (hx : evIn sl x = some (.int kx 0)) (hy : evIn sl y = some (.int ky mi)) (hmi : mi = m)
    (hu : C.P.underlying T = some (.slice E)) (hs : Sz C.P E size) (hz : Zr C.P E z) (hb : By C.P E by') (hn : m ≤ 1000000) (hfit : m * by' ≤ 140737488355328)
    (k : ∀ q, Tr C ops rest ⟨(d, .slice (some ⟨q, 0, none⟩) 0 m) :: sl, ⟨q, [], E, m * size⟩ :: hp⟩ Q) : Tr C ops ((c, ⟨some d, .makeSlice T x y, ty, pos, af, g⟩) :: rest) ⟨sl, hp⟩ Q := by
  subst hmi
  simp only [okG, Bool.and_eq_true, Bool.or_eq_true] at hk
  refine Tr.grow (ρ := Nat) (fun _ => True) (fun q => .slice (some ⟨q, 0, none⟩) 0 m) (fun q => [⟨q, [], E, m * size⟩]) (hk.1.imp nbeq' nbeq') (wantS_of_guardOk hg) (dst_some (nblt hk.2)) ⟨known2 hx hy, fun l hl => ?_, fun a w hf hh => ?_⟩ (fun q _ => k q)
  · obtain ⟨q, _, hq⟩ := fresh_is 0 l
    refine ⟨q, trivial, ?_⟩
    simp only [List.singleton_append, List.map_cons, List.nodup_cons]
    exact ⟨fun h => by obtain ⟨b, hb, e⟩ := List.mem_map.1 h; exact hq b hb e, hl⟩
  · have h1 := hf x (by simp [Op.operands]); rw [hx] at h1
    have h2 := hf y (by simp [Op.operands]); rw [hy] at h2
    simp only [Option.some.injEq] at h1 h2
    have rs := run_sz hs
    unfold Sz at hs; unfold Zr at hz; unfold By at hb
    cases hi : C.P.info? E with
    | none => rw [hi] at hs; simp at hs
    | some i =>
      rw [hi] at hs hz hb
      simp only [Option.map_some, Option.some.injEq, Option.bind_some] at hs hz hb
      have wn : IntKind.i64.wrap (m : Int) = m := i64_wrap oM
      have w0 : IntKind.i64.wrap 0 = 0 := by decide
      have hm2 : ((by' : Int) * m) = ((m * by' : Nat) : Int) := by rw [Int.mul_comm]; simp
      have n1 : ¬ ((m : Int) < 0) := by omega
      have n2 : ¬ (281474976710656 < (i.bytes : Int) * m) := by rw [hb, hm2]; omega
      have n5 : ¬ (140737488355328 < m * i.bytes) := by rw [hb]; omega
      have hrun : ∃ arr : Array Value, arr.size = m * size ∧ (execOp a.eval ⟨some d, .makeSlice T x y, ty, pos, af, g⟩).run C.P w = .ok (.value (.slice (some ⟨w.heap.size, 0, none⟩) 0 m)) { w with heap := w.heap.push (.cells arr E) } := by
        by_cases h0 : m * size = 0
        · refine ⟨(Array.range (m * size)).map fun x => (#[] : Array Value)[x % 0]!, by simp, ?_⟩
          simp [execOp, Instr.makeSlice, run_underlying hu, asInt, asIntOf, typeInfo, hi, rs, zeroValue, hz, ← h1, ← h2, wn, w0, n1, n2, n5, h0, newRow, newObj, askRoom, roomBytes]
          simp [Sem.run]
        · refine ⟨(Array.range (m * size)).map fun x => z.cells[x % z.cells.size]!, by simp, ?_⟩
          simp [execOp, Instr.makeSlice, run_underlying hu, asInt, asIntOf, typeInfo, hi, rs, zeroValue, hz, ← h1, ← h2, wn, w0, n1, n2, n5, h0, newRow, newObj, askRoom, roomBytes]
          simp [Sem.run]
      obtain ⟨arr, ha, hrun⟩ := hrun
      unfold Oper.wp
      rw [hrun]
      refine ⟨w.heap.size, trivial, rfl, ⟨⟨rfl, rfl, rfl, by simp, fun k hk _ => ?_⟩, fun b hb => ?_, by simp, fun b hb => ?_⟩⟩
      · simp only [Array.getElem?_push]
        rw [if_neg oM]
      · obtain rfl := List.mem_singleton.1 hb
        exact ⟨arr, (0, 0), by simp, ha, by simp, free0⟩
      · obtain rfl := List.mem_singleton.1 hb
        exact .inl (Nat.le_refl _)
/-- a truth value that is taken out of a tuple: both ways -/
theorem Tr.extractB {x : Operand} {vs : Array Value} {i : Nat} {b : Bool} (hg : guardOk ops sl g = true) (hk : okD c d C.N = true) (hx : evIn sl x = some (.tuple vs)) (hv : vs[i]? = some (.bool b))
    (kt : b = true → Tr C ops rest ⟨(d, .bool true) :: sl, hp⟩ Q) (kf : b = false → Tr C ops rest ⟨(d, .bool false) :: sl, hp⟩ Q) : Tr C ops ((c, ⟨some d, .extract x i, ty, pos, af, g⟩) :: rest) ⟨sl, hp⟩ Q := by
  cases b
  · exact .extract hg hk hx hv (kf rfl)
  · exact .extract hg hk hx hv (kt rfl)
end
end Hw
end

section
namespace Go.Proofs.Ytlgbmfokgnoocaa
open Go Hw
set_option linter.unusedVariables false
set_option linter.unusedSimpArgs false

/-- what reading a block from a reader gives leaves names free -/
theorem rdblk_loose (n q N cp a1 : Nat) (e1 : Int) (ys : List UInt8) : LooseL [n] (fun v out => ∃ s bl, v = Sl.v s ∧ Hw.Acc s bl (bytesV ys) 5 ys.length 1 ∧ out = bl ++ [RB n q N cp a1 e1]) := fun l h1 h2 => by
  obtain ⟨n0, _, hn0⟩ := fresh_is (n + 1) l
  refine ⟨_, _, ⟨⟨some ⟨n0, 0, none⟩, ys.length, ys.length⟩, [⟨n0, bytesV ys, 5, ys.length * 1⟩], rfl, Acc.some (Nat.le_refl _) (by simp [bytesV]), rfl⟩, ?_⟩
  simp only [List.cons_append, List.nil_append, List.map_cons, List.nodup_cons, List.mem_cons, RB]
  refine ⟨?_, ?_, h1⟩
  · rintro (h | h)
    · omega
    · obtain ⟨b, hb, e⟩ := List.mem_map.1 h
      exact hn0 b hb e
  · intro h
    obtain ⟨b, hb, e⟩ := List.mem_map.1 h
    exact h2 b hb (by rw [e]; exact List.mem_cons_self)

set_option maxRecDepth 100000 in
set_option maxHeartbeats 4000000 in
theorem item_vote (n q N cp at' : Nat) (e : Int) (c : Nat) (xs : List UInt8) (hx : xs.length = N) (hat : at' ≤ N) (hN : N ≤ cp) (hbig : N ≤ 90000) (hcn : c ≠ n) (o : Option (List UInt8)) (a1 : Nat) (e1 : Int) (h1 : blkR xs at' e = (o, a1, e1)) (hvk : (voteRd (o.getD [])).1.ok) : Meets Try.prog 84 [ptr n 0, ptr c 0] [n] (fun W => BlkOk W (RB n q N cp at' e) ∧ Sees W q 0 (bytesV xs) ∧ q ≠ n ∧ W.cell? ⟨c, 0, none⟩ = some (.func (.func 31) #[] #[])) (fun v out => v = .tuple #[agg (voteRd (o.getD [])).1.cells, .bool (decide ((voteRd (o.getD [])).2 = 0))] ∧ out = [RB n q N cp a1 e1]) := by
  intro W hW
  have hb1 := blkE_le h1 hx hat
  refine calls_of (hp0 := [RB n q N cp at' e]) Try.func84 rfl 17 Try.ntmps84 rfl (HRep.one hW.1) ?_
  refine Sat.seq ?_
  refine Sat.region ?_
  refine Tr.alloc (cs := Vote.zero.cells) rfl Vote.zr rfl ?_
  intro n3 hn3 hf3
  refine Tr.assign rfl rfl rfl ?_
  refine Tr.nil ?_
  refine at_n ?_
  refine Sat.seq ?_
  refine Sat.withK (sp_v (sp_v sp_n)) rfl ?_
  refine Sat.draw [(0, 0), (0, 1), (5, 2), (3, 3), (0, 4), (0, 5), (0, 6), (2, 7), (4, 8), (0, 9)] Mixed (by kernel_rfl) ?_
  refine Tr.kloadE rfl rfl rfl Try.underlying81 rfl (by first | (simp; done) | (simp; exact hW.2.2) | (simp [Cx.with]; done) | (simp [Cx.with]; omega)) (hW.2.2.2) ?_
  refine Tr.move rfl rfl rfl ?_
  refine Tr.callL5 (L := [RB n q N cp at' e]) rfl rfl rfl rfl rfl Body57 (rd_BlockE n q N cp at' e xs hx hat hN hbig o a1 e1 h1) (rdblk_loose n q N cp a1 e1 (o.getD [])) (pm_cons rM pm_nil) (lent_ok rfl) (fun w h => ⟨own_blk h mM, sees_ext h (by simp [Cx.with]; exact hW.2.2.1) hW.2.1, hW.2.2.1⟩) ?_
  rintro v10 out10 ⟨s10, bl10, rfl, hac10, rfl⟩
  simp only [List.append_assoc, List.cons_append, List.nil_append]
  refine Tr.callV rfl rfl rfl rfl Body31 (vote_read s10.p s10.n s10.c (o.getD []) hac10.num.symm (fun e => hac10.nil e) (by rw [hac10.num]; omega)) (fun w h => hac10.see (Lies.of h iN)) ?_
  refine Tr.move rfl rfl rfl ?_
  refine Tr.extract rfl rfl rfl rfl ?_
  refine Tr.extract rfl rfl rfl rfl ?_
  refine Tr.alloc (cs := Vote.zero.cells) rfl Vote.zr rfl ?_
  intro n5 hn5 hf5
  refine Tr.storeAll rfl rfl rfl rfl (Vote.isCell (by first | exact oK  | exact hvk)) Sz38 (Vote.length (by first | exact oK  | exact hvk)) mM (Vote.length (by first | exact oK  | exact hvk)) uU ?_
  refine Tr.assign rfl rfl rfl ?_
  refine Tr.nil ?_
  refine at_n ?_
  refine Sat.seq ?_
  refine Sat.region ?_
  simp only [List.cons_append, List.nil_append, List.append_nil, List.append_assoc]
  refine Tr.loadAll rfl rfl rfl Try.underlying38 rfl Sz38 mM (Vote.length (by first | exact oK  | exact hvk)) ?_
  refine Tr.move rfl rfl rfl ?_
  refine Tr.eqi rfl rfl rfl rfl rfl ?_
  refine Tr.storeAll rfl rfl rfl rfl (Vote.isCell (by first | exact oK  | exact hvk)) Sz38 (Vote.length (by first | exact oK  | exact hvk)) mM (Vote.length (by first | exact oK  | exact hvk)) uU ?_
  refine Tr.assign rfl rfl rfl ?_
  refine Tr.nil ?_
  refine at_n ?_
  refine Sat.ret ?_
  refine en_r ?_
  refine end_perm (out := (RB n q N cp a1 e1 :: [])) (res_cell_tmp rfl rfl rfl Try.underlying38 rfl Sz38 mM (by first | (simp; done) | exact Vote.length (by first | exact oK  | exact hvk))) (pm_cons rM pm_nil) ?_
  exact ⟨rfl, rfl⟩

theorem pm_one {hp l R : List Blk} {x : Blk} (h : hp.Perm ((x :: l) ++ R)) : hp.Perm (([x] ++ l) ++ R) := h
/-- so many votes, each in a block -/
def votesR (xs : List UInt8) : Nat → Nat → Int → Option (List Vote × Nat × Int)
  | 0, a, e => some ([], a, e)
  | k + 1, a, e => (votesR xs k a e).bind fun r => if (voteRd ((blkR xs r.2.1 r.2.2).1.getD [])).2 = 0 ∧ (blkR xs r.2.1 r.2.2).2.2 = 0 then some (r.1 ++ [(voteRd ((blkR xs r.2.1 r.2.2).1.getD [])).1], (blkR xs r.2.1 r.2.2).2) else none
def readVL (xs : List UInt8) (M a : Nat) (e : Int) : Option (List Vote × Nat × Int) :=
  if (numR xs a e).2.2 = 0 ∧ (numR xs a e).1.toNat ≤ M then votesR xs (numR xs a e).1.toNat (numR xs a e).2.1 (numR xs a e).2.2 else none
theorem votesR_step {xs : List UInt8} {k a : Nat} {e : Int} {vs : List Vote} {a2 a3 : Nat} {e2 e3 : Int} {o : Option (List UInt8)} (h : votesR xs k a e = some (vs, a2, e2)) (hb : blkR xs a2 e2 = (o, a3, e3)) (h1 : (voteRd (o.getD [])).2 = 0) (h2 : e3 = 0) : votesR xs (k + 1) a e = some (vs ++ [(voteRd (o.getD [])).1], a3, e3) := by
  rw [votesR, h, Option.bind_some]
  simp only [hb]
  rw [if_pos ⟨h1, h2⟩]
theorem votesR_stop {xs : List UInt8} {k a : Nat} {e : Int} {vs : List Vote} {a2 a3 : Nat} {e2 e3 : Int} {o : Option (List UInt8)} (h : votesR xs k a e = some (vs, a2, e2)) (hb : blkR xs a2 e2 = (o, a3, e3)) (h1 : ¬ ((voteRd (o.getD [])).2 = 0 ∧ e3 = 0)) : ∀ m, k < m → votesR xs m a e = none
  | 0, hm => absurd hm oM
  | m + 1, hm => by
    rcases Nat.lt_succ_iff_lt_or_eq.1 hm with h3 | rfl
    · rw [votesR, votesR_stop h hb h1 m h3]; rfl
    · rw [votesR, h, Option.bind_some]
      simp only [hb]
      rw [if_neg h1]
theorem voteRd_vok (xs : List UInt8) : (voteRd xs).1.ok := by
  unfold voteRd
  split
  · obtain ⟨x1, r1, h1⟩ : ∃ l r, numR xs 0 0 = (l, r) := ⟨_, _, rfl⟩
    obtain ⟨a1, e1⟩ := r1
    obtain ⟨x2, r2, h2⟩ : ∃ l r, numR xs a1 e1 = (l, r) := ⟨_, _, rfl⟩
    obtain ⟨a2, e2⟩ := r2
    obtain ⟨x3, r3, h3⟩ : ∃ l r, numR xs a2 e2 = (l, r) := ⟨_, _, rfl⟩
    obtain ⟨a3, e3⟩ := r3
    obtain ⟨l4, r4, h4⟩ : ∃ l r, digR xs a3 e3 = (l, r) := ⟨_, _, rfl⟩
    obtain ⟨a4, e4⟩ := r4
    obtain ⟨x5, r5, h5⟩ : ∃ l r, numR xs a4 e4 = (l, r) := ⟨_, _, rfl⟩
    obtain ⟨a5, e5⟩ := r5
    obtain ⟨l6, r6, h6⟩ : ∃ l r, digR xs a5 e5 = (l, r) := ⟨_, _, rfl⟩
    obtain ⟨a6, e6⟩ := r6
    obtain ⟨l7, r7, h7⟩ : ∃ l r, takR xs 64 a6 e6 = (l, r) := ⟨_, _, rfl⟩
    obtain ⟨a7, e7⟩ := r7
    have hd1 := numE_le h1 rfl (Nat.zero_le _)
    have hd2 := numE_le h2 rfl hd1
    have hd3 := numE_le h3 rfl hd2
    have hd4 := digE_le h4 rfl hd3
    have hd5 := numE_le h5 rfl hd4.1
    have hd6 := digE_le h6 rfl hd5
    have hd7 := takE_le h7 rfl hd6.1
    have hvp : (voteP xs).1 = (⟨x1, x2, ((min x3.toNat 4 : Nat) : Int), l4, x5, l6, l7 ++ (List.replicate 64 0).drop l7.length⟩ : Vote) := by simp only [voteP, h1, h2, h3, h4, h5, h6, h7]
    show (voteP xs).1.ok
    rw [hvp]
    exact ⟨hd4.2, hd6.2, by rcases hd7.2 with h | h <;> simp [h]⟩
  · exact Vote.zero_ok
theorem wf_small {x : Int} (h0 : 0 ≤ x) (h4 : x ≤ 4) : (Lit.int .i64 x).wf = true := by
  have e1 : IntKind.i64.min = -9223372036854775808 := rfl
  have e2 : IntKind.i64.max = 9223372036854775807 := rfl
  simp [Lit.wf]
  omega
structure Vgood (V : Vote) : Prop where
  ok : V.ok
  wf : (Lit.int .i64 V.fPhase).wf = true
theorem voteRd_good (xs : List UInt8) : Vgood (voteRd xs).1 := ⟨voteRd_vok xs, by
  unfold voteRd
  split
  · refine wf_small ?_ ?_ <;> simp only [voteP] <;> omega
  · exact wf_small dE dE⟩
def VotesRead (xs : List UInt8) (M a : Nat) (e : Int) (n q N cp : Nat) (v : Value) (out : List Blk) : Prop :=
  ∃ s bl a1 e1, a1 ≤ N ∧ out = bl ++ [RB n q N cp a1 e1] ∧ v = .tuple #[Sl.v s, .bool (readVL xs M a e).isSome] ∧ (∀ vs a2 e2, readVL xs M a e = some (vs, a2, e2) → a1 = a2 ∧ e1 = e2 ∧ vs.length ≤ M ∧ (∀ V ∈ vs, Vgood V) ∧ Hw.Acc s bl (vs.map Vote.cells).flatten 38 vs.length 132)
theorem votes_none {xs : List UInt8} {M a : Nat} {e : Int} {n q N cp a1 : Nat} {e1 : Int} (h : readVL xs M a e = none) (ha : a1 ≤ N) : VotesRead xs M a e n q N cp (.tuple #[.slice none 0 0, .bool false]) (RB n q N cp a1 e1 :: []) :=
  ⟨Sl.nil, [], a1, e1, ha, rfl, by rw [h]; rfl, fun vs a2 e2 h2 => by rw [h] at h2; cases h2⟩
structure VSt where
  k : Nat
  s : Sl
  bl : List Blk
  vs : List Vote
  a : Nat
  e : Int

set_option maxRecDepth 100000 in
set_option maxHeartbeats 4000000 in
theorem read_votes (n q N cp at' : Nat) (e : Int) (c M : Nat) (xs : List UInt8) (hx : xs.length = N) (hat : at' ≤ N) (hN : N ≤ cp) (hbig : N ≤ 90000) (hcn : c ≠ n) (hM : M ≤ 1000) : Meets Try.prog 58 [ptr n 0, i64 (M : Int), .func (.func 84) #[] #[ptr c 0]] [n] (fun W => BlkOk W (RB n q N cp at' e) ∧ Sees W q 0 (bytesV xs) ∧ q ≠ n ∧ W.cell? ⟨c, 0, none⟩ = some (.func (.func 31) #[] #[])) (VotesRead xs M at' e n q N cp) := by
  intro W hW
  obtain ⟨x1, r1, h1⟩ : ∃ l r, numR xs at' e = (l, r) := ⟨_, _, rfl⟩
  obtain ⟨a1, e1⟩ := r1
  have hd1 := numE_le h1 hx hat
  have hMw : (UInt64.ofNat M).toNat = M := ofNat_nat oM
  have hrv : readVL xs M at' e = if e1 = 0 ∧ x1.toNat ≤ M then votesR xs x1.toNat a1 e1 else none := by simp only [readVL, h1]
  refine calls_of (hp0 := [RB n q N cp at' e]) Try.func58 rfl 47 Try.ntmps58 rfl (HRep.one hW.1) ?_
  refine Sat.seq ?_
  refine Sat.region ?_
  refine Tr.assign rfl rfl rfl ?_
  refine Tr.assign rfl rfl rfl ?_
  refine Tr.nil ?_
  refine at_n ?_
  refine Sat.seq ?_
  refine Sat.region ?_
  refine Tr.move rfl rfl rfl ?_
  refine Tr.callL (L := [RB n q N cp at' e]) rfl rfl rfl rfl rfl Body60 (rd_NumberE n q N cp at' e xs hx hat hN oM x1 a1 e1 h1) (pm_cons rM pm_nil) (lent_ok rfl) (fun w h => ⟨own_blk h mM, sees_ext h (by simp; exact hW.2.2.1) hW.2.1, hW.2.2.1⟩) ?_
  rintro v13 out13 ⟨rfl, rfl⟩
  refine Tr.assign rfl rfl rfl ?_
  refine Tr.nil ?_
  refine at_n ?_
  refine Sat.seq ?_
  refine Sat.seq ?_
  refine Sat.region ?_
  refine Tr.move rfl rfl rfl ?_
  refine Tr.callV rfl rfl rfl rfl Body79 (rd_Err n q N cp a1 e1) (fun w h => own_blk h mM) ?_
  refine two (fun r hr k => Tr.nei rfl rfl rfl rfl hr k) (fun hs2_20 => ?_) (fun hs2_20 => ?_)
  ·
    first | have hs2_2 := of_decide_eq_true hs2_20 | have hs2_2 := of_decide_eq_false hs2_20 | have hs2_2 := nd_t hs2_20 | have hs2_2 := nd_f hs2_20 | have hs2_2 := hs2_20
    refine Tr.move rfl rfl rfl ?_
    refine Tr.skp rfl rfl ?_
    refine Tr.skp rfl rfl ?_
    refine Tr.skp rfl rfl ?_
    refine Tr.skp rfl rfl ?_
    refine Tr.pick rfl rfl rfl rfl rfl rfl ?_
    refine Tr.nil ?_
    refine at_n ?_
    refine Sat.cond_t rfl rfl ?_
    refine Sat.seq ?_
    refine Sat.region ?_
    refine Tr.assign rfl rfl rfl ?_
    refine Tr.assign rfl rfl rfl ?_
    refine Tr.nil ?_
    refine at_n ?_
    refine Sat.ret ?_
    refine at_r ?_
    refine en_r ?_
    refine end_perm (out := (RB n q N cp a1 e1 :: [])) (res_tmp2 rfl rfl rfl) (pm_cons rM pm_nil) ?_
    exact votes_none (by rw [hrv]; exact if_neg (fun h => by omega)) oM
  ·
    first | have hs2_2 := of_decide_eq_true hs2_20 | have hs2_2 := of_decide_eq_false hs2_20 | have hs2_2 := nd_t hs2_20 | have hs2_2 := nd_f hs2_20 | have hs2_2 := hs2_20
    refine Tr.move rfl rfl rfl ?_
    refine Tr.move rfl rfl rfl ?_
    refine Tr.move rfl rfl rfl ?_
    refine Tr.conv rfl rfl rfl Try.underlying3 Try.underlying24 (cv_i64_u64 _) ?_
    rw [word_nat (n := M) oM]
    refine Tr.gtr rfl rfl rfl rfl rfl ?_
    refine Tr.pick rfl rfl rfl rfl rfl rfl ?_
    refine Tr.nil ?_
    refine at_n ?_
    first
      | refine Sat.condP rfl (fun hc0 => ?_) (fun hc0 => ?_)
      | refine Sat.condNP rfl (fun hc0 => ?_) (fun hc0 => ?_)
      | refine Sat.cond rfl (fun hc0 => ?_) (fun hc0 => ?_)
    ·
      have hno : ¬ (e1 = 0 ∧ x1.toNat ≤ M) := by omega
      refine Sat.seq ?_
      refine Sat.region ?_
      refine Tr.assign rfl rfl rfl ?_
      refine Tr.assign rfl rfl rfl ?_
      refine Tr.nil ?_
      refine at_n ?_
      refine Sat.ret ?_
      refine at_r ?_
      refine en_r ?_
      refine end_perm (out := (RB n q N cp a1 e1 :: [])) (res_tmp2 rfl rfl rfl) (pm_cons rM pm_nil) ?_
      exact votes_none (by rw [hrv]; exact if_neg (fun h => by omega)) oM
    ·
      have hyes : e1 = 0 ∧ x1.toNat ≤ M := by omega
      have hx64 : x1 = UInt64.ofNat x1.toNat := by simp
      refine Sat.skip ?_
      refine at_n ?_
      refine Sat.seq ?_
      refine Sat.region ?_
      refine Tr.move rfl rfl rfl ?_
      refine Tr.mkRoomN (z := agg Vote.zero.cells) (by' := 160) x1.toNat rfl rfl rfl rfl rfl Try.underlying34 Sz38 Vote.zr (by unfold By; kernel_rfl) oM oM ?_
      intro q9
      refine Tr.assign rfl rfl rfl ?_
      refine Tr.nil ?_
      refine at_n ?_
      refine Sat.seq ?_
      refine Sat.seq ?_
      refine Sat.region ?_
      refine Tr.move rfl rfl rfl ?_
      refine Tr.move rfl rfl rfl ?_
      refine Tr.nil ?_
      refine at_n ?_
      refine Sat.block ?_
      refine Sat.loop (ι := VSt) (fun p => ⟨[(0, ptr n 0), (2, .func (.func 84) #[] #[ptr c 0]), (9, p.s.v), (25, u64 x1), (26, u64 (UInt64.ofNat p.k))], (RB n q N cp p.a p.e :: (p.bl ++ []))⟩) (fun p => p.k ≤ x1.toNat ∧ votesR xs p.k a1 e1 = some (p.vs, p.a, p.e) ∧ p.a ≤ N ∧ Hw.Acc p.s p.bl (p.vs.map Vote.cells).flatten 38 p.k 132 ∧ p.vs.length = p.k ∧ ∀ V ∈ p.vs, Vgood V) (fun p => x1.toNat - p.k) (⟨0, ⟨some ⟨q9, 0, none⟩, 0, x1.toNat⟩, [⟨q9, [], 38, x1.toNat * 132⟩], [], a1, e1⟩) ?_ ?_ ?_
      · exact ⟨Nat.zero_le _, rfl, hd1, Acc.some (Nat.zero_le _) sP, rfl, fun V h => (by cases h)⟩
      · exact weak_perm (wk1 rfl (wk1 rfl (wk1 rfl (wk1 rfl (wk1 rfl wk0))))) (pm_cons rM (pm_one (pm_cons rM pm_nil)))
      ·
        rintro p hp
        obtain ⟨k, s, bl, vs, a2, e2⟩ := p
        obtain ⟨hk, hvr, ha2, hac, hvl, hvo⟩ := hp
        dsimp only at hk hvr ha2 hac hvl hvo ⊢
        obtain ⟨o, r3, hb3⟩ : ∃ l r, blkR xs a2 e2 = (l, r) := ⟨_, _, rfl⟩
        obtain ⟨a3, e3⟩ := r3
        have hd3 := blkE_le hb3 hx ha2
        refine Sat.seq ?_
        refine Sat.region ?_
        refine Tr.lss rfl rfl rfl rfl rfl ?_
        refine Tr.nil ?_
        refine at_n ?_
        refine Sat.seq ?_
        first
          | refine Sat.condP rfl (fun hc1 => ?_) (fun hc1 => ?_)
          | refine Sat.condNP rfl (fun hc1 => ?_) (fun hc1 => ?_)
          | refine Sat.cond rfl (fun hc1 => ?_) (fun hc1 => ?_)
        ·
          have hk64 : (UInt64.ofNat k).toNat = k := ofNat_nat oM
          have hk2 : k < x1.toNat := by omega
          refine Sat.skip ?_
          refine at_n ?_
          refine Sat.seq ?_
          refine Sat.block ?_
          refine Sat.seq ?_
          refine Sat.region ?_
          refine Tr.move rfl rfl rfl ?_
          refine Tr.move rfl rfl rfl ?_
          refine Tr.callCL (L := [RB n q N cp a2 e2]) rfl rfl rfl rfl rfl rfl Body84 (item_vote n q N cp a2 e2 c xs hx ha2 hN hbig hcn o a3 e3 hb3 (voteRd_vok _)) (pm_cons rM pm_nil) (lent_ok rfl) (fun w h => ⟨own_blk h mM, sees_ext h (by simp; exact hW.2.2.1) hW.2.1, hW.2.2.1, h.keeps.cell (by simp; exact hcn) hW.2.2.2⟩) ?_
          rintro v31 out31 ⟨rfl, rfl⟩
          refine Tr.move rfl rfl rfl ?_
          refine Tr.extract rfl rfl rfl rfl ?_
          refine Tr.extractB rfl rfl rfl rfl (fun hs7_50 => ?_) (fun hs7_50 => ?_)
          ·
            first | have hs7_5 := of_decide_eq_true hs7_50 | have hs7_5 := of_decide_eq_false hs7_50 | have hs7_5 := nd_t hs7_50 | have hs7_5 := nd_f hs7_50 | have hs7_5 := hs7_50
            refine Tr.alloc (cs := Vote.zero.cells) rfl Vote.zr rfl ?_
            intro n10 hn10 hf10
            refine Tr.storeAll rfl rfl rfl rfl (Vote.isCell (by first | exact oK  | exact voteRd_vok _)) Sz38 (Vote.length (by first | exact oK  | exact voteRd_vok _)) mM (Vote.length (by first | exact oK  | exact voteRd_vok _)) uU ?_
            refine Tr.assign rfl rfl rfl ?_
            refine Tr.nil ?_
            refine at_n ?_
            refine Sat.seq ?_
            refine Sat.seq ?_
            refine Sat.region ?_
            refine Tr.move rfl rfl rfl ?_
            refine Tr.not rfl rfl rfl ?_
            refine Tr.move rfl rfl rfl ?_
            refine Tr.move rfl rfl rfl ?_
            refine Tr.callV rfl rfl rfl rfl Body79 (rd_Err n q N cp a3 e3) (fun w h => own_blk h mM) ?_
            refine Tr.nei rfl rfl rfl rfl rfl ?_
            refine Tr.pick rfl rfl rfl rfl rfl rfl ?_
            refine Tr.nil ?_
            refine at_n ?_
            first
              | refine Sat.condP rfl (fun hc2 => ?_) (fun hc2 => ?_)
              | refine Sat.condNP rfl (fun hc2 => ?_) (fun hc2 => ?_)
              | refine Sat.cond rfl (fun hc2 => ?_) (fun hc2 => ?_)
            ·
              refine Sat.seq ?_
              refine Sat.region ?_
              refine Tr.assign rfl rfl rfl ?_
              refine Tr.assign rfl rfl rfl ?_
              refine Tr.nil ?_
              refine at_n ?_
              refine Sat.ret ?_
              refine at_r ?_
              refine bl_r ?_
              refine at_r ?_
              refine at_r ?_
              refine bl_r ?_
              refine at_r ?_
              refine en_r ?_
              refine end_perm (out := (RB n q N cp a3 e3 :: [])) (res_tmp2 rfl rfl rfl) (pm_cons rM pm_nil) ?_
              exact votes_none (by rw [hrv, if_pos hyes]; exact votesR_stop hvr hb3 oM _ hk2) hd3.1
            ·
              refine Sat.skip ?_
              refine at_n ?_
              refine Sat.region ?_
              refine Tr.move rfl rfl rfl ?_
              refine Tr.loadAll rfl rfl rfl Try.underlying38 rfl Sz38 mM (Vote.length (by first | exact oK  | exact voteRd_vok _)) ?_
              refine Tr.mkRow (z := agg Vote.zero.cells) [agg (voteRd (o.getD [])).1.cells] (voteRd (o.getD [])).1.cells rfl rfl rfl Try.underlying34 Sz38 Vote.zr rfl rfl (by intro v hv; rw [List.mem_singleton.1 hv]; exact Vote.length (voteRd_vok _)) dE (by simp [Value.cells]) ?_
              intro q43
              refine Tr.appendAcc (z := agg Vote.zero.cells) (by' := 160) ((voteRd (o.getD [])).1.cells) rfl rfl rfl rfl rfl Try.underlying34 Try.underlying34 Sz38 Zr38 (by unfold By; kernel_rfl) rfl hac sG (fun w h => SeesP.of (sees_own h mM)) (fun e => by cases e) (Vote.isCell (voteRd_vok _)) oM oM (by rw [Vote.length (voteRd_vok _)]) ?_
              intro s44 bl44 hac44
              refine Tr.assign rfl rfl rfl ?_
              refine Tr.nil ?_
              refine bl_n ?_
              refine at_n ?_
              refine Sat.region ?_
              refine Tr.add_u64 rfl rfl rfl (show evIn _ _ = some (u64 1) from rfl) ?_
              refine Tr.move rfl rfl rfl ?_
              refine Tr.nil ?_
              refine at_n ?_
              refine ⟨⟨k + 1, s44, bl44, vs ++ [(voteRd (o.getD [])).1], a3, e3⟩, ⟨by simp only []; omega, votesR_step hvr hb3 hs7_5 oM, hd3.1, by simpa using hac44, by simp [hvl], fun V hV => ?_⟩, by simp only []; omega, weak_perm (wk1 rfl (wk1 rfl (wk1 rfl (wk1 rfl (wk1 (congrArg (fun z => some (u64 z)) (ofNat_step _)) wk0))))) (pm_cons rM (pm_seg sG pm_nil))⟩
              rcases List.mem_append.1 hV with h | h
              · exact hvo V h
              · rw [List.mem_singleton.1 h]; exact voteRd_good _
          ·
            first | have hs7_5 := of_decide_eq_true hs7_50 | have hs7_5 := of_decide_eq_false hs7_50 | have hs7_5 := nd_t hs7_50 | have hs7_5 := nd_f hs7_50 | have hs7_5 := hs7_50
            refine Tr.alloc (cs := Vote.zero.cells) rfl Vote.zr rfl ?_
            intro n10 hn10 hf10
            refine Tr.storeAll rfl rfl rfl rfl (Vote.isCell (by first | exact oK  | exact voteRd_vok _)) Sz38 (Vote.length (by first | exact oK  | exact voteRd_vok _)) mM (Vote.length (by first | exact oK  | exact voteRd_vok _)) uU ?_
            refine Tr.assign rfl rfl rfl ?_
            refine Tr.nil ?_
            refine at_n ?_
            refine Sat.seq ?_
            refine Sat.seq ?_
            refine Sat.region ?_
            refine Tr.move rfl rfl rfl ?_
            refine Tr.not rfl rfl rfl ?_
            refine Tr.move rfl rfl rfl ?_
            refine Tr.skp rfl rfl ?_
            refine Tr.skp rfl rfl ?_
            refine Tr.skp rfl rfl ?_
            refine Tr.pick rfl rfl rfl rfl rfl rfl ?_
            refine Tr.nil ?_
            refine at_n ?_
            refine Sat.cond_t rfl rfl ?_
            refine Sat.seq ?_
            refine Sat.region ?_
            refine Tr.assign rfl rfl rfl ?_
            refine Tr.assign rfl rfl rfl ?_
            refine Tr.nil ?_
            refine at_n ?_
            refine Sat.ret ?_
            refine at_r ?_
            refine bl_r ?_
            refine at_r ?_
            refine at_r ?_
            refine bl_r ?_
            refine at_r ?_
            refine en_r ?_
            refine end_perm (out := (RB n q N cp a3 e3 :: [])) (res_tmp2 rfl rfl rfl) (pm_cons rM pm_nil) ?_
            exact votes_none (by rw [hrv, if_pos hyes]; exact votesR_stop hvr hb3 oM _ hk2) hd3.1
        ·
          have hk64 : (UInt64.ofNat k).toNat = k := ofNat_nat oM
          have hke : k = x1.toNat := by omega
          refine Sat.exit ?_
          refine at_x ?_
          refine at_x ?_
          refine bl_h ?_
          refine at_n ?_
          refine Sat.seq ?_
          refine Sat.region ?_
          refine Tr.move rfl rfl rfl ?_
          refine Tr.assign rfl rfl rfl ?_
          refine Tr.assign rfl rfl rfl ?_
          refine Tr.nil ?_
          refine at_n ?_
          refine Sat.ret ?_
          refine en_r ?_
          refine end_perm (out := (bl ++ (RB n q N cp a2 e2 :: []))) (res_tmp2 rfl rfl rfl) (pm_seg sG (pm_cons rM pm_nil)) ?_
          have hfin : readVL xs M at' e = some (vs, a2, e2) := by rw [hrv, if_pos hyes, ← hke]; exact hvr
          exact ⟨s, bl, a2, e2, ha2, by simp, by rw [hfin]; rfl, fun vs2 a4 e4 h4 => by rw [hfin] at h4; cases h4; exact ⟨rfl, rfl, by omega, hvo, by rw [hvl]; exact hac⟩⟩

end Go.Proofs.Ytlgbmfokgnoocaa
end

section
namespace Go.Proofs.Ytlgbmfokgnoocaa
open Go Hw
set_option linter.unusedVariables false
set_option linter.unusedSimpArgs false

def dcertz : DCert := ⟨DCut.zero, []⟩
/-- what is read: a cert -/
noncomputable def certRd (xs : List UInt8) : DCert × Int :=
  if (cutRd ((blkR xs 0 0).1.getD [])).2 = 0 then
    match readVL xs 16 (blkR xs 0 0).2.1 (blkR xs 0 0).2.2 with
    | some (vs, a, e) => if endR xs.length a e = 0 ∧ (⟨(cutRd ((blkR xs 0 0).1.getD [])).1, vs⟩ : DCert).check = 0 then (⟨(cutRd ((blkR xs 0 0).1.getD [])).1, vs⟩, 0) else (dcertz, 4)
    | none => (dcertz, 4)
  else (dcertz, 4)
theorem certz_is (W : World) : CertIs W Cert.zero dcertz := ⟨Cert.zero_ok, cutz_is W, ⟨[], SeqIs.none⟩⟩
def CertRead (xs : List UInt8) (v : Value) (out : List Blk) : Prop := ∃ C : Cert, C.ok ∧ v = .tuple #[agg C.cells, i64 (certRd xs).2] ∧ ∀ W2, Lies out W2 → CertIs W2 C (certRd xs).1
theorem cert_bad {xs : List UInt8} {out : List Blk} (h : certRd xs = (dcertz, 4)) : CertRead xs (.tuple #[agg Cert.zero.cells, i64 4]) out := by
  refine ⟨Cert.zero, Cert.zero_ok, ?_, fun W2 _ => ?_⟩ <;> rw [h]
  exact certz_is W2
theorem cert_okR {xs : List UInt8} {out : List Blk} {C : Cert} {D : DCert} (h : certRd xs = (D, 0)) (hok : C.ok) (hC : ∀ W2, Lies out W2 → CertIs W2 C D) : CertRead xs (.tuple #[agg C.cells, i64 0]) out := by
  refine ⟨C, hok, ?_, fun W2 h2 => ?_⟩ <;> rw [h]
  exact hC W2 h2
theorem upd_cut {C : Cert} (h : C.ok) {X : Cut} (hx : X.ok) : upd C.cells (0 + 0) X.cells = ({ C with fCut := X } : Cert).cells := by
  have h1 := Cut.length h.o_fCut
  have h2 := Cut.length hx
  simp only [upd, Cert.cells, Nat.zero_add, List.take_zero, List.nil_append, h2]
  congr 1
  rw [← h1, List.drop_left]

theorem owned_vs {s : Sl} {bl : List Blk} {vs : List Vote} (hv : ∀ V ∈ vs, Vgood V) (h : Hw.Acc s bl (vs.map Vote.cells).flatten 38 vs.length 132) (hm : vs.length ≤ 1000000) : ∀ W2, Lies bl W2 → VotesAt W2 s vs := fun W2 hl => ⟨vs, acc_seq h hl rfl rfl (fun r hr => Vote.length (hv r hr).ok) hm fun i r d hr hd => (by
  rw [hr] at hd
  obtain rfl := Option.some.inj hd
  exact ⟨(hv r (List.mem_of_getElem? hr)).ok, rfl, (hv r (List.mem_of_getElem? hr)).wf⟩)⟩

set_option maxRecDepth 100000 in
set_option maxHeartbeats 1000000 in
theorem mk_item_vote  : Meets Try.prog 59 [.func (.func 31) #[] #[]] [] (fun _ => True) (fun v out => ∃ c, v = .func (.func 84) #[] #[ptr c 0] ∧ out = [⟨c, [.func (.func 31) #[] #[]], 81, 1⟩]) := by
  intro W hW
  refine calls_of (hp0 := []) Try.func59 rfl 4 Try.ntmps59 rfl (HRep.nil _) ?_
  refine Sat.seq ?_
  refine Sat.region ?_
  refine Tr.box1 rfl rfl rfl ?_
  intro n1 hn1 hf1
  refine Tr.assign rfl rfl rfl ?_
  refine Tr.nil ?_
  refine at_n ?_
  refine Sat.seq ?_
  refine Sat.region ?_
  refine Tr.makeFunc rfl rfl rfl rfl ?_
  refine Tr.assign rfl rfl rfl ?_
  refine Tr.nil ?_
  refine at_n ?_
  refine Sat.ret ?_
  refine en_r ?_
  refine end_perm (out := (⟨n1, [.func (.func 31) #[] #[]], 81, 1⟩ :: [])) (res_tmp rfl rfl) (pm_cons rM pm_nil) ?_
  exact ⟨n1, rfl, by simp⟩

set_option maxRecDepth 100000 in
set_option maxHeartbeats 4000000 in
theorem cert_read (a : Option Addr) (n c : Nat) (xs : List UInt8) (hl : xs.length = n) (hp : a = none → n = 0) (hn : n ≤ 90000) : Meets Try.prog 29 [.slice a n c] [] (fun W => SeesP W a (bytesV xs)) (CertRead xs) := by
  intro W hW
  obtain ⟨o, r1, h1⟩ : ∃ l r, blkR xs 0 0 = (l, r) := ⟨_, _, rfl⟩
  obtain ⟨a1, e1⟩ := r1
  have hd1 := blkE_le h1 hl (Nat.zero_le _)
  have hcr : certRd xs = if (cutRd (o.getD [])).2 = 0 then (match readVL xs 16 a1 e1 with | some (vs, a, e) => if endR xs.length a e = 0 ∧ (⟨(cutRd (o.getD [])).1, vs⟩ : DCert).check = 0 then ((⟨(cutRd (o.getD [])).1, vs⟩ : DCert), (0 : Int)) else (dcertz, (4 : Int)) | none => (dcertz, (4 : Int))) else (dcertz, (4 : Int)) := by simp only [certRd, h1]
  refine calls_of (hp0 := []) Try.func29 rfl 40 Try.ntmps29 rfl (HRep.nil _) ?_
  refine Sat.seq ?_
  refine Sat.region ?_
  refine Tr.alloc (cs := Cert.zero.cells) rfl Cert.zr rfl ?_
  intro n2 hn2 hf2
  refine Tr.assign rfl rfl rfl ?_
  refine Tr.nil ?_
  refine at_n ?_
  refine Sat.seq ?_
  refine Sat.region ?_
  refine Tr.move rfl rfl rfl ?_
  refine Tr.call4 rfl rfl rfl rfl rfl Body51 (oct_Read a n c xs hl hp hn) (fun w h => seesP_ext h rfl hW) ?_
  rintro v7 out7 ⟨n7, q7, cp7, rfl, hcp7, rfl⟩
  refine Tr.nd (fun hnd => ?_)
  have hne : q7 ≠ n7 := by intro e; simp [RB, e] at hnd
  clear hnd
  refine Tr.assign rfl rfl rfl ?_
  refine Tr.nil ?_
  refine at_n ?_
  refine Sat.seq ?_
  refine Sat.region ?_
  refine Tr.alloc (cs := Cert.zero.cells) rfl Cert.zr rfl ?_
  intro n5 hn5 hf5
  refine Tr.nil ?_
  refine at_n ?_
  refine Sat.seq ?_
  refine Sat.region ?_
  refine Tr.assign rfl rfl rfl ?_
  refine Tr.nil ?_
  refine at_n ?_
  refine Sat.seq ?_
  refine Sat.seq ?_
  refine Sat.region ?_
  refine Tr.move rfl rfl rfl ?_
  refine Tr.callL (L := [RB n7 q7 n cp7 0 0]) rfl rfl rfl rfl rfl Body57 (rd_BlockE n7 q7 n cp7 0 0 xs hl (Nat.zero_le _) hcp7 hn o a1 e1 h1) (pm_cons rM pm_nil) (lent_ok rfl) (fun w h => ⟨own_blk h mM, sees_own h mM, hne⟩) ?_
  rintro v12 out12 ⟨s12, bl12, rfl, hac12, rfl⟩
  simp only [List.append_assoc, List.cons_append, List.nil_append]
  refine Tr.call4 rfl rfl rfl rfl rfl Body33 (cut_read s12.p s12.n s12.c (o.getD []) hac12.num.symm (fun e => hac12.nil e) (by rw [hac12.num]; omega)) (fun w h => hac12.see (Lies.of h iN)) ?_
  rintro v13 out13 ⟨C13, okC, rfl, hC13⟩
  refine Tr.move rfl rfl rfl ?_
  refine Tr.extract rfl rfl rfl rfl ?_
  refine Tr.extract rfl rfl rfl rfl ?_
  refine Tr.fld rfl rfl rfl Try.underlying36 rfl Sz33 dE _ rfl ?_
  refine Tr.storeN C13.cells rfl rfl rfl rfl rfl (Cut.isCell okC) Sz33 (Cut.length okC) mM (by rw [Cert.length Cert.zero_ok, Cut.length okC]; decide) (upd_cut Cert.zero_ok okC) uU ?_
  refine Tr.assign rfl rfl rfl ?_
  refine Tr.nil ?_
  refine at_n ?_
  refine Sat.seq ?_
  refine Sat.region ?_
  refine Tr.move rfl rfl rfl ?_
  refine Tr.nei rfl rfl rfl rfl rfl ?_
  refine Tr.nil ?_
  refine at_n ?_
  first
    | refine Sat.condP rfl (fun hc0 => ?_) (fun hc0 => ?_)
    | refine Sat.condNP rfl (fun hc0 => ?_) (fun hc0 => ?_)
    | refine Sat.cond rfl (fun hc0 => ?_) (fun hc0 => ?_)
  ·
    refine Sat.seq ?_
    refine Sat.region ?_
    refine Tr.build (cs := Cert.zero.cells) rfl rfl rfl (fun w => by kernel_rfl) ?_
    refine Tr.storeAll rfl rfl rfl rfl (Cert.isCell (by first | exact oK | exact ⟨okC⟩ | exact okC)) Sz36 (Cert.length (by first | exact oK | exact ⟨okC⟩ | exact okC)) mM (Cert.length (by first | exact oK | exact ⟨okC⟩ | exact okC)) uU ?_
    refine Tr.assign rfl rfl rfl ?_
    refine Tr.nil ?_
    refine at_n ?_
    refine Sat.ret ?_
    refine at_r ?_
    refine en_r ?_
    refine end_perm (out := []) (res_cell_tmp rfl rfl rfl Try.underlying36 rfl Sz36 mM (by first | (simp; done) | exact Cert.length (by first | exact oK | exact ⟨okC⟩ | exact okC))) pm_nil ?_
    exact cert_bad (by rw [hcr]; exact if_neg oM)
  ·
    have hc13 : (cutRd (o.getD [])).2 = 0 := by omega
    refine Sat.skip ?_
    refine at_n ?_
    refine Sat.seq ?_
    refine Sat.region ?_
    refine Tr.assign rfl rfl rfl ?_
    refine Tr.nil ?_
    refine at_n ?_
    refine Sat.seq ?_
    refine Sat.seq ?_
    refine Sat.region ?_
    refine Tr.move rfl rfl rfl ?_
    refine Tr.call4 rfl rfl rfl rfl rfl Body59 (mk_item_vote) (fun _ _ => trivial) ?_
    rintro v22 out22 ⟨c22, rfl, rfl⟩
    refine Tr.nd (fun hnd => ?_)
    have hcn : c22 ≠ n7 := by intro e; simp [RB, e] at hnd
    clear hnd
    simp only [List.append_assoc, List.cons_append, List.nil_append]
    refine Tr.callL (L := [RB n7 q7 n cp7 a1 e1]) rfl rfl rfl rfl rfl Body58 (read_votes n7 q7 n cp7 a1 e1 c22 16 xs hl hd1.1 hcp7 hn hcn dE) (pm_cons rM pm_nil) (lent_ok rfl) (fun w h => ⟨own_blk h mM, sees_own h mM, hne, (own_blk (B := ⟨c22, _, _, _⟩) h mM).cell (o := 0) rfl⟩) ?_
    rintro v23 out23 ⟨s23, bl23, a2, e2, ha2, rfl, rfl, hv23⟩
    simp only [List.append_assoc, List.cons_append, List.nil_append]
    refine Tr.move rfl rfl rfl ?_
    refine Tr.extract rfl rfl rfl rfl ?_
    refine Tr.extractB rfl rfl rfl rfl (fun hs8_50 => ?_) (fun hs8_50 => ?_)
    ·
      first | have hs8_5 := of_decide_eq_true hs8_50 | have hs8_5 := of_decide_eq_false hs8_50 | have hs8_5 := nd_t hs8_50 | have hs8_5 := nd_f hs8_50 | have hs8_5 := hs8_50
      obtain ⟨r23, hr23⟩ := Option.isSome_iff_exists.1 hs8_5
      obtain ⟨vs, a4, e4⟩ := r23
      obtain ⟨rfl, rfl, hvn, hvo, hvac⟩ := hv23 vs a4 e4 hr23
      refine Tr.fld rfl rfl rfl Try.underlying36 rfl Sz34 dE _ rfl ?_
      refine Tr.store1 rfl rfl rfl rfl rfl Sz34 mM (by rw [Cert.length (by first | exact oK | exact ⟨okC⟩ | exact okC)]; decide) (by first | exact Cert.set_fVotes (by first | exact oK | exact ⟨okC⟩ | exact okC) _ | exact Cert.setS_fVotes (by first | exact oK | exact ⟨okC⟩ | exact okC) _ _ _) uU ?_
      refine Tr.assign rfl rfl rfl ?_
      refine Tr.nil ?_
      refine at_n ?_
      refine Sat.seq ?_
      refine Sat.region ?_
      refine Tr.move rfl rfl rfl ?_
      refine Tr.not rfl rfl rfl ?_
      refine Tr.nil ?_
      refine at_n ?_
      refine Sat.cond_f rfl rfl ?_
      refine Sat.skip ?_
      refine at_n ?_
      refine Sat.seq ?_
      refine Sat.seq ?_
      refine Sat.region ?_
      refine Tr.move rfl rfl rfl ?_
      refine Tr.callV rfl rfl rfl rfl Body56 (rd_End n7 q7 n cp7 a2 e2 ha2 oM) (fun w h => own_blk h mM) ?_
      refine two (fun r hr k => Tr.nei rfl rfl rfl rfl hr k) (fun hs11_20 => ?_) (fun hs11_20 => ?_)
      ·
        first | have hs11_2 := of_decide_eq_true hs11_20 | have hs11_2 := of_decide_eq_false hs11_20 | have hs11_2 := nd_t hs11_20 | have hs11_2 := nd_f hs11_20 | have hs11_2 := hs11_20
        refine Tr.move rfl rfl rfl ?_
        refine Tr.skp rfl rfl ?_
        refine Tr.skp rfl rfl ?_
        refine Tr.skp rfl rfl ?_
        refine Tr.pick rfl rfl rfl rfl rfl rfl ?_
        refine Tr.nil ?_
        refine at_n ?_
        refine Sat.cond_t rfl rfl ?_
        refine Sat.seq ?_
        refine Sat.region ?_
        refine Tr.build (cs := Cert.zero.cells) rfl rfl rfl (fun w => by kernel_rfl) ?_
        refine Tr.storeAll rfl rfl rfl rfl (Cert.isCell (by first | exact oK | exact ⟨okC⟩ | exact okC)) Sz36 (Cert.length (by first | exact oK | exact ⟨okC⟩ | exact okC)) mM (Cert.length (by first | exact oK | exact ⟨okC⟩ | exact okC)) uU ?_
        refine Tr.assign rfl rfl rfl ?_
        refine Tr.nil ?_
        refine at_n ?_
        refine Sat.ret ?_
        refine at_r ?_
        refine en_r ?_
        refine end_perm (out := []) (res_cell_tmp rfl rfl rfl Try.underlying36 rfl Sz36 mM (by first | (simp; done) | exact Cert.length (by first | exact oK | exact ⟨okC⟩ | exact okC))) pm_nil ?_
        exact cert_bad (by rw [hcr, if_pos hc13, hr23]; dsimp only; rw [hl]; exact if_neg (fun h => by have := h.1; omega))
      ·
        first | have hs11_2 := of_decide_eq_true hs11_20 | have hs11_2 := of_decide_eq_false hs11_20 | have hs11_2 := nd_t hs11_20 | have hs11_2 := nd_f hs11_20 | have hs11_2 := hs11_20
        refine Tr.move rfl rfl rfl ?_
        refine Tr.loadAll rfl rfl rfl Try.underlying36 rfl Sz36 mM (Cert.length (by first | exact oK | exact ⟨okC⟩ | exact okC)) ?_
        refine Tr.callV rfl rfl rfl rfl Body42 (cert_check ({ Cert.zero with fCut := C13, fVotes := s23 } : Cert) ⟨(cutRd (o.getD [])).1, vs⟩) (fun w h => ⟨⟨okC⟩, hC13 w (Lies.of h iN), owned_vs hvo hvac oM w (Lies.of h iN)⟩) ?_
        refine Tr.nei rfl rfl rfl rfl rfl ?_
        refine Tr.pick rfl rfl rfl rfl rfl rfl ?_
        refine Tr.nil ?_
        refine at_n ?_
        first
          | refine Sat.condP rfl (fun hc2 => ?_) (fun hc2 => ?_)
          | refine Sat.condNP rfl (fun hc2 => ?_) (fun hc2 => ?_)
          | refine Sat.cond rfl (fun hc2 => ?_) (fun hc2 => ?_)
        ·
          refine Sat.seq ?_
          refine Sat.region ?_
          refine Tr.build (cs := Cert.zero.cells) rfl rfl rfl (fun w => by kernel_rfl) ?_
          refine Tr.storeAll rfl rfl rfl rfl (Cert.isCell (by first | exact oK | exact ⟨okC⟩ | exact okC)) Sz36 (Cert.length (by first | exact oK | exact ⟨okC⟩ | exact okC)) mM (Cert.length (by first | exact oK | exact ⟨okC⟩ | exact okC)) uU ?_
          refine Tr.assign rfl rfl rfl ?_
          refine Tr.nil ?_
          refine at_n ?_
          refine Sat.ret ?_
          refine at_r ?_
          refine en_r ?_
          refine end_perm (out := []) (res_cell_tmp rfl rfl rfl Try.underlying36 rfl Sz36 mM (by first | (simp; done) | exact Cert.length (by first | exact oK | exact ⟨okC⟩ | exact okC))) pm_nil ?_
          exact cert_bad (by rw [hcr, if_pos hc13, hr23]; dsimp only; rw [hl]; exact if_neg (fun h => by have := h.2; omega))
        ·
          refine Sat.skip ?_
          refine at_n ?_
          refine Sat.seq ?_
          refine Sat.region ?_
          refine Tr.loadAll rfl rfl rfl Try.underlying36 rfl Sz36 mM (Cert.length (by first | exact oK | exact ⟨okC⟩ | exact okC)) ?_
          refine Tr.storeAll rfl rfl rfl rfl (Cert.isCell (by first | exact oK | exact ⟨okC⟩ | exact okC)) Sz36 (Cert.length (by first | exact oK | exact ⟨okC⟩ | exact okC)) mM (Cert.length (by first | exact oK | exact ⟨okC⟩ | exact okC)) uU ?_
          refine Tr.assign rfl rfl rfl ?_
          refine Tr.nil ?_
          refine at_n ?_
          refine Sat.ret ?_
          refine en_r ?_
          refine end_perm (out := (out13 ++ (bl23 ++ []))) (res_cell_tmp rfl rfl rfl Try.underlying36 rfl Sz36 mM (by first | (simp; done) | exact Cert.length (by first | exact oK | exact ⟨okC⟩ | exact okC))) (pm_seg sG (pm_seg sG pm_nil)) ?_
          exact cert_okR (D := ⟨(cutRd (o.getD [])).1, vs⟩) (by rw [hcr, if_pos hc13, hr23]; dsimp only; rw [hl]; exact if_pos ⟨by omega, by omega⟩) ⟨okC⟩ (fun W2 h2 => ⟨⟨okC⟩, hC13 W2 (h2.sub iN), owned_vs hvo hvac oM W2 (h2.sub iN)⟩)
    ·
      first | have hs8_5 := of_decide_eq_true hs8_50 | have hs8_5 := of_decide_eq_false hs8_50 | have hs8_5 := nd_t hs8_50 | have hs8_5 := nd_f hs8_50 | have hs8_5 := hs8_50
      have hr23 : readVL xs 16 a1 e1 = none := by simpa using hs8_5
      refine Tr.fld rfl rfl rfl Try.underlying36 rfl Sz34 dE _ rfl ?_
      refine Tr.store1 rfl rfl rfl rfl rfl Sz34 mM (by rw [Cert.length (by first | exact oK | exact ⟨okC⟩ | exact okC)]; decide) (by first | exact Cert.set_fVotes (by first | exact oK | exact ⟨okC⟩ | exact okC) _ | exact Cert.setS_fVotes (by first | exact oK | exact ⟨okC⟩ | exact okC) _ _ _) uU ?_
      refine Tr.assign rfl rfl rfl ?_
      refine Tr.nil ?_
      refine at_n ?_
      refine Sat.seq ?_
      refine Sat.region ?_
      refine Tr.move rfl rfl rfl ?_
      refine Tr.not rfl rfl rfl ?_
      refine Tr.nil ?_
      refine at_n ?_
      refine Sat.cond_t rfl rfl ?_
      refine Sat.seq ?_
      refine Sat.region ?_
      refine Tr.build (cs := Cert.zero.cells) rfl rfl rfl (fun w => by kernel_rfl) ?_
      refine Tr.storeAll rfl rfl rfl rfl (Cert.isCell (by first | exact oK | exact ⟨okC⟩ | exact okC)) Sz36 (Cert.length (by first | exact oK | exact ⟨okC⟩ | exact okC)) mM (Cert.length (by first | exact oK | exact ⟨okC⟩ | exact okC)) uU ?_
      refine Tr.assign rfl rfl rfl ?_
      refine Tr.nil ?_
      refine at_n ?_
      refine Sat.ret ?_
      refine at_r ?_
      refine en_r ?_
      refine end_perm (out := []) (res_cell_tmp rfl rfl rfl Try.underlying36 rfl Sz36 mM (by first | (simp; done) | exact Cert.length (by first | exact oK | exact ⟨okC⟩ | exact okC))) pm_nil ?_
      exact cert_bad (by rw [hcr, if_pos hc13, hr23])

end Go.Proofs.Ytlgbmfokgnoocaa
end

section
namespace Hw
open Go
set_option linter.unusedSimpArgs false
set_option linter.unusedVariables false

/-- the first byte that a count and the top bits have -/
def headOf (s h : Nat) : UInt8 := shl8 255 (9 - s) ||| UInt8.ofNat h
theorem head_facts : ∀ s, s < 10 → 1 ≤ s → ∀ h, h < 2 ^ (8 - s) → (s = 9 → h = 0) → cntB (headOf s h) = s ∧ (headV (headOf s h)).toNat = h := by
  decide +kernel
/-- the number of bytes, the high one first -/
def beN : List UInt8 → Nat
  | [] => 0
  | b :: l => b.toNat * 256 ^ l.length + beN l
theorem beN_tail (x : UInt64) : ∀ k, k ≤ 8 → beN (tailB x k) = x.toNat % 256 ^ k
  | 0, _ => by simp [tailB, beN, Nat.mod_one]
  | k + 1, hk => by
    have hp : 0 < 256 ^ k := Nat.pow_pos dE
    have e : (2 : Nat) ^ (8 * k) = 256 ^ k := by rw [Nat.pow_mul]
    rw [tailB, beN, tailB_length, beN_tail x k oM, UInt64.toNat_toUInt8]
    have e1 : (shr64 x (8 * k)).toNat = x.toNat / 256 ^ k := by
      have h : x.toNat / 2 ^ (8 * k) ≤ x.toNat := Nat.div_le_self _ _
      have := x.toNat_lt
      rw [shr64, UInt64.toNat_ofNat', Nat.mod_eq_of_lt oM, e]
    rw [e1]
    have h3 := Nat.mod_mul (a := 256 ^ k) (b := 256) (x := x.toNat)
    have e2 : (256 : Nat) ^ (k + 1) = 256 ^ k * 256 := Nat.pow_succ ..
    have e3 : (2 : Nat) ^ 8 = 256 := by decide
    rw [e2, h3, e3, Nat.mul_comm (256 ^ k)]
    omega
theorem foldB_nat : ∀ (l : List UInt8) (a : UInt64), a.toNat * 256 ^ l.length + beN l < 2 ^ 64 → (foldB a l).toNat = a.toNat * 256 ^ l.length + beN l
  | [], a, _ => by simp [foldB, beN]
  | b :: l, a, h => by
    rw [beN, List.length_cons, Nat.pow_succ] at h
    have hb := b.toNat_lt
    have hp : 0 < 256 ^ l.length := Nat.pow_pos dE
    have e : a.toNat * (256 ^ l.length * 256) + (b.toNat * 256 ^ l.length + beN l) = (a.toNat * 256 + b.toNat) * 256 ^ l.length + beN l := by
      rw [Nat.add_mul, Nat.mul_assoc, Nat.mul_comm 256, Nat.add_assoc]
    rw [e] at h
    have h1 : a.toNat * 256 + b.toNat < 18446744073709551616 := by
      rw [show (2 : Nat) ^ 64 = 18446744073709551616 by decide] at h
      have : (a.toNat * 256 + b.toNat) * 1 ≤ (a.toNat * 256 + b.toNat) * 256 ^ l.length := Nat.mul_le_mul_left _ hp
      omega
    have hs : (shl64 a 8).toNat = a.toNat * 256 := by
      have e0 : a.toNat * 2 ^ 8 = a.toNat * 256 := rfl
      rw [shl64, UInt64.toNat_ofNat', e0, Nat.mod_eq_of_lt (Nat.lt_of_le_of_lt (Nat.le_add_right _ b.toNat) h1)]
    have ho : (shl64 a 8 ||| b.toUInt64).toNat = a.toNat * 256 + b.toNat := by
      rw [UInt64.toNat_or, hs, show b.toUInt64.toNat = b.toNat from by simp]
      rw [show a.toNat * 256 = 2 ^ 8 * a.toNat by omega, Nat.two_pow_add_eq_or_of_lt oM]
    rw [foldB, foldB_nat l _ (by rw [ho]; exact h), ho, beN, List.length_cons, Nat.pow_succ, e]

theorem or_one (x : Nat) : x ||| 1 = if x % 2 = 0 then x + 1 else x := by
  have h := Nat.or_mod_two_pow (a := x) (b := 1) (n := 1)
  have h2 := Nat.or_div_two_pow (a := x) (b := 1) (n := 1)
  simp only [Nat.pow_one] at h h2
  have e : x % 2 = 0 ∨ x % 2 = 1 := by omega
  have hm : (x ||| 1) % 2 = 1 := by
    rw [h]
    rcases e with e | e <;> rw [e] <;> rfl
  have hd : (x ||| 1) / 2 = x / 2 := by rw [h2]; simp
  split <;> omega
theorem or_one_lt {x k : Nat} (hk : 1 ≤ k) : (x ||| 1) < 2 ^ k ↔ x < 2 ^ k := by
  rw [or_one]
  have : 2 ^ k = 2 * 2 ^ (k - 1) := by rw [← Nat.pow_succ']; congr 1; omega
  split <;> omega
theorem szN_le {x s : Nat} (hs : 1 ≤ s) (h8 : s ≤ 8) : szN x ≤ s ↔ x < 2 ^ (7 * s) := by
  rw [← or_one_lt oM, ← bLen_le]
  unfold szN
  omega
theorem szN_hi {x : Nat} (hs : szN x ≤ 8) : x < 2 ^ (7 * szN x) := (szN_le (szN_pos x).1 hs).1 (Nat.le_refl _)

theorem headB_of (x : UInt64) : ∃ h, headB x = headOf (szN x.toNat) h ∧ h < 2 ^ (8 - szN x.toNat) ∧ (szN x.toNat = 9 → h = 0) ∧ x.toNat = h * 256 ^ (szN x.toNat - 1) + x.toNat % 256 ^ (szN x.toNat - 1) := by
  have hp := szN_pos x.toNat
  have hx := x.toNat_lt
  have e : (2 : Nat) ^ (8 * (szN x.toNat - 1)) = 256 ^ (szN x.toNat - 1) := by rw [Nat.pow_mul]
  have e1 : (shr64 x (8 * (szN x.toNat - 1))).toNat = x.toNat / 256 ^ (szN x.toNat - 1) := by
    have h : x.toNat / 2 ^ (8 * (szN x.toNat - 1)) ≤ x.toNat := Nat.div_le_self _ _
    rw [shr64, UInt64.toNat_ofNat', Nat.mod_eq_of_lt oM, e]
  have hlt : x.toNat / 256 ^ (szN x.toNat - 1) < 2 ^ (8 - szN x.toNat) ∧ (szN x.toNat = 9 → x.toNat / 256 ^ (szN x.toNat - 1) = 0) := by
    by_cases h9 : szN x.toNat = 9
    · rw [h9]
      have : x.toNat / 256 ^ (9 - 1) = 0 := Nat.div_eq_of_lt (by rw [show (256 : Nat) ^ (9 - 1) = 2 ^ 64 by decide]; exact hx)
      rw [this]
      exact ⟨by decide, fun _ => rfl⟩
    · refine ⟨?_, fun h => absurd h h9⟩
      rw [Nat.div_lt_iff_lt_mul (Nat.pow_pos dE), ← e, ← Nat.pow_add]
      have := szN_hi (x := x.toNat) oM
      rwa [show 8 - szN x.toNat + 8 * (szN x.toNat - 1) = 7 * szN x.toNat by omega]
  refine ⟨x.toNat / 256 ^ (szN x.toNat - 1), ?_, hlt.1, hlt.2, (Nat.div_add_mod' _ _).symm⟩
  unfold headB headOf
  congr 1
  apply UInt8.toNat_inj.1
  rw [UInt64.toNat_toUInt8, e1, UInt8.toNat_ofNat']

/-- what numB has written -/
theorem num_back (x : UInt64) : cntB (headB x) = szN x.toNat ∧ foldB (headV (headB x)) (tailB x (szN x.toNat - 1)) = x := by
  obtain ⟨h, h1, h2, h3, h4⟩ := headB_of x
  have hp := szN_pos x.toNat
  have hf := head_facts (szN x.toNat) oM hp.1 h h2 h3
  rw [h1]
  refine ⟨hf.1, UInt64.toNat_inj.1 ?_⟩
  have hb := beN_tail x (szN x.toNat - 1) oM
  rw [foldB_nat _ _ (by rw [tailB_length, hf.2, hb, ← h4]; exact x.toNat_lt), tailB_length, hf.2, hb, ← h4]

end Hw
end

section
namespace Go.Proofs.Ytlgbmfokgnoocaa
open Go Hw
set_option linter.unusedVariables false
set_option linter.unusedSimpArgs false

theorem drop_cons {xs l : List UInt8} {a : Nat} {f : UInt8} (h : xs.drop a = f :: l) : a < xs.length ∧ xs.getD a 0 = f ∧ xs.drop (a + 1) = l := by
  have hlt : a < xs.length := by
    rcases Nat.lt_or_ge a xs.length with h1 | h1
    · exact h1
    · rw [List.drop_eq_nil_of_le h1] at h; cases h
  rw [List.drop_eq_getElem_cons hlt] at h
  injection h with h1 h2
  exact ⟨hlt, by rw [List.getD_eq_getElem?_getD, List.getElem?_eq_getElem hlt]; exact h1, h2⟩
theorem drop_split {xs p t : List UInt8} {a : Nat} (h : xs.drop a = p ++ t) (hp : 0 < p.length) : a + p.length ≤ xs.length ∧ (xs.drop a).take p.length = p ∧ xs.drop (a + p.length) = t := by
  have h1 := congrArg List.length h
  rw [List.length_drop, List.length_append] at h1
  refine ⟨by omega, by rw [h]; simp, ?_⟩
  rw [← List.drop_drop, h]; simp
theorem dig_fwd {xs d t : List UInt8} {a : Nat} (h : xs.drop a = d ++ t) (hd : d.length = 32) : digR xs a 0 = (d, a + 32, 0) ∧ xs.drop (a + 32) = t := by
  obtain ⟨h1, h2, h3⟩ := drop_split h oM
  rw [hd] at h1 h2 h3
  unfold digR
  rw [if_neg sP, if_neg oM, h2]
  exact ⟨rfl, h3⟩
theorem num_fwd {xs t : List UInt8} {a : Nat} {x : UInt64} (h : xs.drop a = numB x ++ t) : numR xs a 0 = (x, a + szN x.toNat, 0) ∧ xs.drop (a + szN x.toNat) = t := by
  have hp := szN_pos x.toNat
  have hl := numB_length x
  obtain ⟨h1, h2, h3⟩ := drop_split h oM
  rw [hl] at h1 h2 h3
  rw [numB, List.cons_append] at h
  obtain ⟨g1, g2, g3⟩ := drop_cons h
  obtain ⟨n1, n2⟩ := num_back x
  have hv : numV xs a = x := by
    rw [numV, g2, g3, n1, List.take_left' (tailB_length x _)]
    exact n2
  unfold numR
  rw [if_neg sP, if_neg oM, hv, g2, n1, if_neg oM, if_pos rfl]
  exact ⟨rfl, h3⟩
theorem blk_fwd {xs ds t : List UInt8} {a : Nat} (hn : ds.length ≤ 1000000) (h : xs.drop a = numB (UInt64.ofNat ds.length) ++ ds ++ t) : blkR xs a 0 = (some ds, a + szN ds.length + ds.length, 0) ∧ xs.drop (a + szN ds.length + ds.length) = t := by
  rw [List.append_assoc] at h
  have hx : (UInt64.ofNat ds.length).toNat = ds.length := ofNat_nat hn
  obtain ⟨h1, h2⟩ := num_fwd h
  rw [hx] at h1 h2
  unfold blkR
  rw [h1]
  simp only [hx]
  rw [if_neg sP]
  have hl := congrArg List.length h2
  rw [List.length_drop, List.length_append] at hl
  have hz := szN_pos ds.length
  have hle : a + szN ds.length ≤ xs.length := by
    have := congrArg List.length h
    rw [List.length_drop, List.length_append, numB_length, hx] at this
    omega
  rw [if_neg oM, h2]
  refine ⟨by simp, ?_⟩
  rw [← List.drop_drop, h2]; simp
theorem tak_fwd {xs d t : List UInt8} {a m : Nat} (h : xs.drop a = d ++ t) (hd : d.length = m) (hm : 0 < m) : takR xs m a 0 = (d, a + m, 0) ∧ xs.drop (a + m) = t := by
  obtain ⟨h1, h2, h3⟩ := drop_split h oM
  rw [hd] at h1 h2 h3
  unfold takR
  rw [if_neg sP, if_neg oM, h2]
  exact ⟨rfl, h3⟩
theorem digs_fwd {xs t : List UInt8} {ls : List (List UInt8)} {a : Nat} (hls : ∀ l ∈ ls, l.length = 32) (h : xs.drop a = ls.flatten ++ t) : ∀ j, j ≤ ls.length → digsR xs j a 0 = (ls.take j, a + 32 * j, 0) ∧ xs.drop (a + 32 * j) = (ls.drop j).flatten ++ t
  | 0, _ => ⟨rfl, by simpa using h⟩
  | j + 1, hj => by
    obtain ⟨h1, h2⟩ := digs_fwd hls h j oM
    rw [List.drop_eq_getElem_cons (l := ls) (i := j) oM, List.flatten_cons, List.append_assoc] at h2
    obtain ⟨h3, h4⟩ := dig_fwd h2 (hls _ (List.getElem_mem oM))
    refine ⟨?_, by rw [show a + 32 * (j + 1) = a + 32 * j + 32 by omega]; exact h4⟩
    rw [digsR, h1]
    simp only [h3]
    rw [List.take_succ_eq_append_getElem oM]
    rfl
theorem readP_bytes {D : DB} (h : D.ok) (hc : D.check = 0) (t : List UInt8) : readP (D.bytes ++ t) = (D, D.bytes.length, 0) := by
  have hs := D.head_small hc
  have hl1 : (UInt64.ofNat D.ls.length).toNat = D.ls.length := ofNat_nat oM
  obtain ⟨xs, hxs⟩ : ∃ xs, D.bytes ++ t = xs := ⟨_, rfl⟩
  rw [hxs]
  have h0 : xs.drop 0 = D.w ++ (numB D.seq ++ (D.prev ++ (numB (UInt64.ofNat D.ls.length) ++ (D.ls.flatten ++ (numB (UInt64.ofNat D.ds.length) ++ D.ds ++ (D.sg ++ t)))))) := by
    rw [List.drop_zero, ← hxs]
    simp only [DB.bytes, DB.body, List.append_assoc]
  obtain ⟨r1, h1⟩ := dig_fwd h0 h.w
  obtain ⟨r2, h2⟩ := num_fwd h1
  obtain ⟨r3, h3⟩ := dig_fwd h2 h.prev
  obtain ⟨r4, h4⟩ := num_fwd h3
  rw [hl1] at r4 h4
  obtain ⟨r5, h5⟩ := digs_fwd h.ls h4 D.ls.length (Nat.le_refl _)
  rw [List.take_length] at r5
  rw [List.drop_length, List.flatten_nil, List.nil_append] at h5
  obtain ⟨r6, h6⟩ := blk_fwd oM h5
  obtain ⟨r7, h7⟩ := tak_fwd h6 h.sg dE
  have hk : min (UInt64.ofNat D.ls.length).toNat 17 = D.ls.length := by omega
  have hlen : D.bytes.length = 0 + 32 + szN D.seq.toNat + 32 + szN D.ls.length + 32 * D.ls.length + szN D.ds.length + D.ds.length + 64 := by
    have hfl := flatten_take_len h.ls (Nat.le_refl D.ls.length)
    rw [List.take_length] at hfl
    simp only [DB.bytes, DB.body, List.length_append, numB_length, h.w, h.prev, h.sg, hfl, hl1, ofNat_nat (n := D.ds.length) oM]
    omega
  simp only [readP, r1, r2, r3, r4, hk, r5, r6, r7, Option.getD_some]
  rw [h.sg, hlen, List.drop_of_length_le sP, List.append_nil]
theorem readD_bytes {D : DB} (h : D.ok) (hc : D.check = 0) : readD D.bytes = (D, 0) := by
  have hr := readP_bytes h hc []
  rw [List.append_nil] at hr
  rw [readD_ok (by rw [hr]; exact ⟨by simp [endR], hc⟩), hr]
theorem bytes_inj {D E : DB} (hD : D.ok) (hE : E.ok) (cD : D.check = 0) (cE : E.check = 0) : D.bytes = E.bytes ↔ D = E := by
  constructor
  · intro h
    have h1 := readD_bytes hD cD
    rw [h, readD_bytes hE cE] at h1
    exact (congrArg Prod.fst h1).symm
  · intro h; rw [h]
end Go.Proofs.Ytlgbmfokgnoocaa
end

section
namespace Go.Proofs.Ytlgbmfokgnoocaa
open Go Hw
set_option linter.unusedVariables false
set_option linter.unusedSimpArgs false

theorem cutP_bytes {D : DCut} (hp : D.dPrev.length = 32) (hr : ∀ l ∈ D.dHeads, l.length = 32) (hn : D.dHeads.length ≤ 32) : cutP D.bytes = (D, D.bytes.length, 0) := by
  have h0 : D.bytes.drop 0 = numB D.dHeight ++ (D.dPrev ++ (numB (UInt64.ofNat D.dHeads.length) ++ (D.dHeads.flatten ++ []))) := by
    simp [DCut.bytes, DCut.body, List.append_assoc]
  obtain ⟨g1, h1⟩ := num_fwd h0
  obtain ⟨g2, h2⟩ := dig_fwd h1 hp
  obtain ⟨g3, h3⟩ := num_fwd h2
  have hx : (UInt64.ofNat D.dHeads.length).toNat = D.dHeads.length := ofNat_nat oM
  obtain ⟨g4, h4⟩ := digs_fwd hr h3 D.dHeads.length (Nat.le_refl _)
  have hm : min D.dHeads.length 33 = D.dHeads.length := by omega
  simp only [cutP, g1, g2, g3, hx, hm]
  rw [hx] at g4
  simp only [g4, List.take_length]
  rw [show D.bytes.length = szN D.dHeight.toNat + 32 + szN (UInt64.ofNat D.dHeads.length).toNat + D.dHeads.length * 32 from DCut.body_len hp hr (Nat.le_refl _), hx]
  have : 0 + szN D.dHeight.toNat + 32 + szN D.dHeads.length + 32 * D.dHeads.length = szN D.dHeight.toNat + 32 + szN D.dHeads.length + D.dHeads.length * 32 := by omega
  rw [this]
theorem cutRd_bytes {D : DCut} (hp : D.dPrev.length = 32) (hr : ∀ l ∈ D.dHeads, l.length = 32) (hc : D.check = 0) : cutRd D.bytes = (D, 0) := by
  have h := cutP_bytes hp hr (D.small hc)
  unfold cutRd
  rw [h]
  exact if_pos ⟨by simp [endR], hc⟩
theorem byteOf_small {x : Int} (h0 : 0 ≤ x) (h4 : x < 256) : (Hw.byteOf x).toUInt64.toNat = x.toNat := by
  simp only [Hw.byteOf]
  rw [UInt8.toNat_toUInt64, UInt8.toNat_ofNat']
  omega
theorem vcheck_phase {V : Vote} (h : vcheck V = 0) : 1 ≤ V.fPhase ∧ V.fPhase ≤ 3 := by
  have h2 : vokB V = true := by
    cases e : vokB V
    · unfold vcheck at h
      rw [e] at h
      split at h <;> cases h
    · rfl
  unfold vokB at h2
  by_cases h3 : V.fPhase = 1
  · omega
  · rw [if_neg h3] at h2
    by_cases h4 : V.fPhase = 2 ∨ V.fPhase = 3
    · omega
    · rw [if_neg h4] at h2; cases h2
theorem voteP_bytes {V : Vote} (hV : V.ok) (hc : vcheck V = 0) : voteP (voteT V ++ V.fSig) = (V, (voteT V ++ V.fSig).length, 0) := by
  have hph := vcheck_phase hc
  have hb := byteOf_small (x := V.fPhase) oM oM
  have h0 : (voteT V ++ V.fSig).drop 0 = numB V.fHeight ++ (numB V.fRound ++ (numB (Hw.byteOf V.fPhase).toUInt64 ++ (V.fValue ++ (numB V.fProof ++ (V.fVoter ++ (V.fSig ++ [])))))) := by
    simp [voteT, List.append_assoc]
  obtain ⟨g1, h1⟩ := num_fwd h0
  obtain ⟨g2, h2⟩ := num_fwd h1
  obtain ⟨g3, h3⟩ := num_fwd h2
  obtain ⟨g4, h4⟩ := dig_fwd h3 hV.l_fValue
  obtain ⟨g5, h5⟩ := num_fwd h4
  obtain ⟨g6, h6⟩ := dig_fwd h5 hV.l_fVoter
  obtain ⟨g7, h7⟩ := tak_fwd h6 hV.l_fSig dE
  have hm : ((min V.fPhase.toNat 4 : Nat) : Int) = V.fPhase := by omega
  have hl : (voteT V ++ V.fSig).length = voteN V + 64 := by rw [List.length_append, voteT_length hV, hV.l_fSig]
  simp only [voteP, g1, g2, g3, g4, g5, g6, g7]
  simp only [hb, hm, hl, hV.l_fSig]
  have e : V.fSig ++ (List.replicate 64 (0 : UInt8)).drop 64 = V.fSig := by simp
  rw [e]
  congr 2
  unfold voteN
  rw [hb]
  omega
theorem voteRd_bytes {V : Vote} (hV : V.ok) (hc : vcheck V = 0) : voteRd (voteBy V) = (V, 0) := by
  have h := voteP_bytes hV hc
  rw [show voteBy V = voteT V ++ V.fSig from if_pos hc]
  rw [voteRd_ok (by rw [h]; exact ⟨by simp [endR], hc⟩), h]

theorem listB_cons {D : Type} (f : D → List UInt8) (d : D) (ds : List D) : listB f (d :: ds) = blkB (f d) ++ listB f ds := rfl
theorem votesR_fwd {xs t : List UInt8} {ds : List Vote} {a : Nat} (hok : ∀ d ∈ ds, d.ok ∧ vcheck d = 0) (h : xs.drop a = listB voteBy ds ++ t) : ∀ j, j ≤ ds.length → votesR xs j a 0 = some (ds.take j, a + (listB voteBy (ds.take j)).length, 0) ∧ xs.drop (a + (listB voteBy (ds.take j)).length) = listB voteBy (ds.drop j) ++ t
  | 0, _ => ⟨by simp [votesR, listB], by simpa [listB] using h⟩
  | j + 1, hj => by
    obtain ⟨h1, h2⟩ := votesR_fwd hok h j oM
    have hd : ds[j]? = some ds[j] := List.getElem?_eq_getElem oM
    obtain ⟨ho, hc⟩ := hok ds[j] (List.getElem_mem oM)
    have hle := voteBy_le ho
    rw [List.drop_eq_getElem_cons (l := ds) (i := j) oM, listB_cons, blkB, List.append_assoc] at h2
    obtain ⟨h3, h4⟩ := blk_fwd (ds := voteBy ds[j]) oM h2
    have hst := votesR_step h1 h3 (by rw [Option.getD_some, voteRd_bytes ho hc]) rfl
    rw [Option.getD_some, voteRd_bytes ho hc] at hst
    have e : a + (listB voteBy (ds.take (j + 1))).length = a + (listB voteBy (ds.take j)).length + szN (voteBy ds[j]).length + (voteBy ds[j]).length := by
      rw [listB_step voteBy hd, List.length_append, blkB_length oM]; omega
    rw [e]
    refine ⟨?_, h4⟩
    rw [hst, List.take_succ_eq_append_getElem oM]
theorem DCert.votes_ok {D : DCert} (h : D.check = 0) : ∀ d ∈ D.dVotes, vcheck d = 0 := by
  intro d hd
  obtain ⟨j, hj, rfl⟩ := List.getElem_of_mem hd
  apply Classical.byContradiction
  intro hn
  have : D.check = 2 := cert_bad2 hj (.inl (by rw [vote_is (List.getElem?_eq_getElem hj)]; exact hn))
  rw [this] at h; cases h
theorem certRd_bytes {D : DCert} (hp : D.dCut.dPrev.length = 32) (hr : ∀ l ∈ D.dCut.dHeads, l.length = 32) (hv : ∀ d ∈ D.dVotes, d.ok) (hc : D.check = 0) : certRd D.bytes = (D, 0) := by
  obtain ⟨k1, k2, k3⟩ := DCert.facts hc
  have hcb : cutR D.dCut = D.dCut.bytes := if_pos k1
  have hcs := D.dCut.bytes_small k1 hp hr
  have hx : (UInt64.ofNat D.dVotes.length).toNat = D.dVotes.length := ofNat_nat oM
  obtain ⟨xs, hxs⟩ : ∃ xs, D.bytes = xs := ⟨_, rfl⟩
  have h0 : xs.drop 0 = numB (UInt64.ofNat D.dCut.bytes.length) ++ D.dCut.bytes ++ (numB (UInt64.ofNat D.dVotes.length) ++ (listB voteBy D.dVotes ++ [])) := by
    rw [List.drop_zero, ← hxs, DCert.bytes, hcb, blkB]; simp only [List.append_assoc, List.append_nil]
  obtain ⟨g1, h1⟩ := blk_fwd oM h0
  obtain ⟨g2, h2⟩ := num_fwd h1
  rw [hx] at g2 h2
  obtain ⟨g3, h3⟩ := votesR_fwd (fun d hd => ⟨hv d hd, D.votes_ok hc d hd⟩) h2 D.dVotes.length (Nat.le_refl _)
  rw [List.take_length] at g3
  have hlen : xs.length = 0 + szN D.dCut.bytes.length + D.dCut.bytes.length + szN D.dVotes.length + (listB voteBy D.dVotes).length := by
    rw [← hxs, DCert.bytes, hcb, List.length_append, List.length_append, blkB_length oM, numB_length, hx]; omega
  have hrv : readVL xs 16 (0 + szN D.dCut.bytes.length + D.dCut.bytes.length) 0 = some (D.dVotes, 0 + szN D.dCut.bytes.length + D.dCut.bytes.length + szN D.dVotes.length + (listB voteBy D.dVotes).length, 0) := by
    unfold readVL
    rw [g2]
    simp only [hx]
    rw [if_pos ⟨trivial, by omega⟩]
    exact g3
  rw [hxs]
  unfold certRd
  simp only [g1, Option.getD_some, cutRd_bytes hp hr k1, hrv]
  rw [if_pos trivial, if_pos ⟨by rw [hlen]; simp [endR], hc⟩]

end Go.Proofs.Ytlgbmfokgnoocaa
end

section
namespace Go.Proofs.Ytlgbmfokgnoocaa
open Go Hw
set_option linter.unusedVariables false
set_option linter.unusedSimpArgs false

def DRecord.check (D : DRecord) : Int := if D.dKind = 0 ∨ (8192 : Int) < (D.dData.length : Int) then 2 else 0

set_option maxRecDepth 100000 in
set_option maxHeartbeats 4000000 in
theorem record_check (X : Record) (D : DRecord) : Meets Try.prog 39 [agg X.cells] [] (fun W => RecordIs W X D) (fun v out => v = i64 D.check ∧ out = []) := by
  intro W hW
  have hok := hW.ok
  have hk := hW.fKind
  have hl := hW.fData.len
  refine calls_of (hp0 := []) Try.func39 rfl 12 Try.ntmps39 rfl (HRep.nil _) ?_
  refine Sat.seq ?_
  refine Sat.region ?_
  refine Tr.boxA rfl rfl ?_
  intro n1 hn1 hf1
  refine Tr.assign rfl rfl rfl ?_
  refine Tr.nil ?_
  refine at_n ?_
  refine Sat.seq ?_
  refine Sat.seq ?_
  refine Sat.region ?_
  refine Tr.fld rfl rfl rfl Try.underlying47 rfl Sz5 dE _ rfl ?_
  refine Tr.load1 rfl rfl rfl Try.underlying5 rfl mM (by first | exact Record.get_fKind (by first | exact oK  | exact hok) | exact vL) ?_
  refine two (fun r hr k => Tr.eqi rfl rfl rfl rfl hr k) (fun hs1_20 => ?_) (fun hs1_20 => ?_)
  ·
    first | have hs1_2 := of_decide_eq_true hs1_20 | have hs1_2 := of_decide_eq_false hs1_20 | have hs1_2 := nd_t hs1_20 | have hs1_2 := nd_f hs1_20 | have hs1_2 := hs1_20
    refine Tr.move rfl rfl rfl ?_
    refine Tr.skp rfl rfl ?_
    refine Tr.skp rfl rfl ?_
    refine Tr.skp rfl rfl ?_
    refine Tr.skp rfl rfl ?_
    refine Tr.pick rfl rfl rfl rfl rfl rfl ?_
    refine Tr.nil ?_
    refine at_n ?_
    refine Sat.cond_t rfl rfl ?_
    refine Sat.seq ?_
    refine Sat.region ?_
    refine Tr.assign rfl rfl rfl ?_
    refine Tr.nil ?_
    refine at_n ?_
    refine Sat.ret ?_
    refine at_r ?_
    refine en_r ?_
    refine ⟨_, [], res_tmp rfl rfl, sP, sP, ?_, rfl⟩
    unfold DRecord.check
    first
      | (refine congrArg i64 (if_pos (Or.inl (UInt8.toNat_inj.1 ?_))).symm; simp_all; done)
      | (refine congrArg i64 (if_pos (Or.inr ?_)).symm; omega)
      | (refine congrArg i64 (if_neg ?_).symm; have h0 : D.dKind = 0 → X.fKind.toNat = 0 := (fun e => by rw [hk, e]; rfl); rintro (h | h); (have := h0 h; omega); omega)
  ·
    first | have hs1_2 := of_decide_eq_true hs1_20 | have hs1_2 := of_decide_eq_false hs1_20 | have hs1_2 := nd_t hs1_20 | have hs1_2 := nd_f hs1_20 | have hs1_2 := hs1_20
    refine Tr.move rfl rfl rfl ?_
    refine Tr.fld rfl rfl rfl Try.underlying47 rfl Sz27 dE _ rfl ?_
    refine Tr.load1 rfl rfl rfl Try.underlying27 rfl mM (by first | exact Record.get_fData (by first | exact oK  | exact hok) | exact vL) ?_
    refine Tr.lenSl rfl rfl rfl Try.underlying27 ?_
    refine Tr.gtr rfl rfl rfl rfl rfl ?_
    refine Tr.pick rfl rfl rfl rfl rfl rfl ?_
    refine Tr.nil ?_
    refine at_n ?_
    first
      | refine Sat.condP rfl (fun hc0 => ?_) (fun hc0 => ?_)
      | refine Sat.condNP rfl (fun hc0 => ?_) (fun hc0 => ?_)
      | refine Sat.cond rfl (fun hc0 => ?_) (fun hc0 => ?_)
    ·
      refine Sat.seq ?_
      refine Sat.region ?_
      refine Tr.assign rfl rfl rfl ?_
      refine Tr.nil ?_
      refine at_n ?_
      refine Sat.ret ?_
      refine at_r ?_
      refine en_r ?_
      refine ⟨_, [], res_tmp rfl rfl, sP, sP, ?_, rfl⟩
      unfold DRecord.check
      first
        | (refine congrArg i64 (if_pos (Or.inl (UInt8.toNat_inj.1 ?_))).symm; simp_all; done)
        | (refine congrArg i64 (if_pos (Or.inr ?_)).symm; omega)
        | (refine congrArg i64 (if_neg ?_).symm; have h0 : D.dKind = 0 → X.fKind.toNat = 0 := (fun e => by rw [hk, e]; rfl); rintro (h | h); (have := h0 h; omega); omega)
    ·
      refine Sat.skip ?_
      refine at_n ?_
      refine Sat.seq ?_
      refine Sat.region ?_
      refine Tr.assign rfl rfl rfl ?_
      refine Tr.nil ?_
      refine at_n ?_
      refine Sat.ret ?_
      refine en_r ?_
      refine ⟨_, [], res_tmp rfl rfl, sP, sP, ?_, rfl⟩
      unfold DRecord.check
      first
        | (refine congrArg i64 (if_pos (Or.inl (UInt8.toNat_inj.1 ?_))).symm; simp_all; done)
        | (refine congrArg i64 (if_pos (Or.inr ?_)).symm; omega)
        | (refine congrArg i64 (if_neg ?_).symm; have h0 : D.dKind = 0 → X.fKind.toNat = 0 := (fun e => by rw [hk, e]; rfl); rintro (h | h); (have := h0 h; omega); omega)

/-- cert k is of height k + 1 -/
def inOrd (ds : List DCert) : Bool := (List.range ds.length).all fun k => decide ((ds.getD k dcertz).dCut.dHeight.toNat = k + 1)
theorem inOrd_yes {ds : List DCert} {n : Nat} (hn : ds.length = n) (h : ∀ j, j < n → (ds.getD j dcertz).dCut.dHeight.toNat = j + 1) : inOrd ds = true := by
  unfold inOrd
  rw [List.all_eq_true]
  intro k hk
  rw [List.mem_range, hn] at hk
  exact decide_eq_true (h k hk)
theorem inOrd_not {ds : List DCert} {k : Nat} (hk : k < ds.length) (h : ¬ (ds.getD k dcertz).dCut.dHeight.toNat = k + 1) : inOrd ds = false := by
  unfold inOrd
  rw [List.all_eq_false]
  exact ⟨k, List.mem_range.2 hk, by rw [decide_eq_false h]; simp⟩
theorem word_next {k : Nat} (h : k < 9223372036854775807) : (wordOf (k : Int) + 1).toNat = k + 1 := by
  have e : (wordOf (k : Int)).toNat = k := by
    have h0 : ((k : Int) % 18446744073709551616).toNat = k := by omega
    rw [wordOf, h0, UInt64.toNat_ofNat']
    exact Nat.mod_eq_of_lt oM
  rw [UInt64.toNat_add, e, show (1 : UInt64).toNat = 1 from rfl]
  exact Nat.mod_eq_of_lt oM
theorem cert_is {ds : List DCert} {k : Nat} {d : DCert} (h : ds[k]? = some d) : ds.getD k dcertz = d := by simp [List.getD_eq_getElem?_getD, h]

set_option maxRecDepth 100000 in
set_option maxHeartbeats 4000000 in
theorem in_order (s : Sl) (ds : List DCert) : Meets Try.prog 34 [s.v] [] (fun W => CertsAt W s ds) (fun v out => v = .bool (inOrd ds) ∧ out = []) := by
  intro W hW
  obtain ⟨rs, hs⟩ := hW
  have hnd := hs.nd
  have hmax := hs.max
  simp only [maxLen] at hmax
  refine calls_of (hp0 := []) Try.func34 rfl 20 Try.ntmps34 rfl (HRep.nil _) ?_
  refine Sat.seq ?_
  refine Sat.region ?_
  refine Tr.assign rfl rfl rfl ?_
  refine Tr.nil ?_
  refine at_n ?_
  refine Sat.seq ?_
  refine Sat.seq ?_
  refine Sat.region ?_
  refine Tr.move rfl rfl rfl ?_
  refine Tr.lenSl rfl rfl rfl Try.underlying43 ?_
  refine Tr.move rfl rfl rfl ?_
  refine Tr.nil ?_
  refine at_n ?_
  refine Sat.block ?_
  refine Sat.loop (ι := Nat) (fun k => ⟨[(5, s.v), (6, i64 (s.n : Int)), (7, i64 (k : Int))], []⟩) (fun k => k ≤ s.n ∧ ∀ j, j < k → (ds.getD j dcertz).dCut.dHeight.toNat = j + 1) (fun k => s.n - k) (0) ?_ ?_ ?_
  · exact ⟨by omega, fun j hj => by omega⟩
  · exact weak_of (wk1 rfl (wk1 rfl (wk1 rfl wk0))) wh0 nD
  ·
    rintro k ⟨hk, hg⟩
    refine Sat.seq ?_
    refine Sat.region ?_
    refine Tr.lss rfl rfl rfl rfl rfl ?_
    refine Tr.nil ?_
    refine at_n ?_
    refine Sat.seq ?_
    first
      | refine Sat.condP rfl (fun hc0 => ?_) (fun hc0 => ?_)
      | refine Sat.condNP rfl (fun hc0 => ?_) (fun hc0 => ?_)
      | refine Sat.cond rfl (fun hc0 => ?_) (fun hc0 => ?_)
    ·
      have hk2 : k < s.n := by omega
      obtain ⟨b, o, r, d, hsp, hr, hd, his, hlen, hsee⟩ := hs.at dE hk2
      have ehh : r.fCut.fHeight.toNat = d.dCut.dHeight.toNat := by rw [his.fCut.fHeight]
      have hw1 : (wordOf (k : Int) + 1).toNat = k + 1 := word_next oM
      refine Sat.skip ?_
      refine at_n ?_
      refine Sat.seq ?_
      refine Sat.block ?_
      refine Sat.seq ?_
      refine Sat.region ?_
      refine Tr.move rfl rfl rfl ?_
      refine Tr.idxSlP 35 rfl rfl rfl hsp rfl Try.underlying43 Sz36 k rfl oM ?_
      refine Tr.loadEN r.cells rfl rfl rfl Try.underlying36 rfl Sz36 sP hlen hsee ?_
      refine Tr.alloc (cs := Cert.zero.cells) rfl Cert.zr rfl ?_
      intro n4 hn4 hf4
      refine Tr.assign rfl rfl rfl ?_
      refine Tr.storeAll rfl rfl rfl rfl (Cert.isCell (by first | exact oK  | exact his.ok)) Sz36 (Cert.length (by first | exact oK  | exact his.ok)) mM (Cert.length (by first | exact oK  | exact his.ok)) uU ?_
      refine Tr.nil ?_
      refine at_n ?_
      refine Sat.seq ?_
      refine Sat.region ?_
      refine Tr.fld rfl rfl rfl Try.underlying36 rfl Sz33 dE _ rfl ?_
      refine Tr.fld rfl rfl rfl Try.underlying33 rfl Sz24 dE _ rfl ?_
      refine Tr.load1 rfl rfl rfl Try.underlying24 rfl mM (Cert.see_fCut his.ok 0 _ (Cut.get_fHeight his.ok.o_fCut)) ?_
      refine Tr.move rfl rfl rfl ?_
      refine Tr.conv rfl rfl rfl Try.underlying3 Try.underlying24 (cv_i64_u64 _) ?_
      refine Tr.add_u64 rfl rfl rfl (show evIn _ _ = some (u64 1) from rfl) ?_
      refine Tr.nei rfl rfl rfl rfl rfl ?_
      refine Tr.nil ?_
      refine at_n ?_
      first
        | refine Sat.condP rfl (fun hc1 => ?_) (fun hc1 => ?_)
        | refine Sat.condNP rfl (fun hc1 => ?_) (fun hc1 => ?_)
        | refine Sat.cond rfl (fun hc1 => ?_) (fun hc1 => ?_)
      ·
        refine Sat.seq ?_
        refine Sat.region ?_
        refine Tr.assign rfl rfl rfl ?_
        refine Tr.nil ?_
        refine at_n ?_
        refine Sat.ret ?_
        refine bl_r ?_
        refine at_r ?_
        refine at_r ?_
        refine bl_r ?_
        refine at_r ?_
        refine en_r ?_
        refine ⟨_, [], res_tmp rfl rfl, sP, sP, ?_, rfl⟩
        first
          | exact congrArg Value.bool (inOrd_yes hnd hg).symm
          | (refine congrArg Value.bool (inOrd_not (k := k) oM ?_).symm; rw [cert_is hd]; omega)
      ·
        refine Sat.skip ?_
        refine bl_n ?_
        refine at_n ?_
        refine Sat.region ?_
        refine Tr.add_i64 rfl rfl rfl rfl oM ?_
        refine Tr.move rfl rfl rfl ?_
        refine Tr.nil ?_
        refine at_n ?_
        exact ⟨k + 1, ⟨by omega, fun j hj => by rcases Nat.lt_succ_iff_lt_or_eq.1 hj with h | rfl; exact hg j h; exact (by rw [cert_is hd]; omega)⟩, by omega, weak_of (wk1 rfl (wk1 rfl (wk1 rfl wk0))) wh0 nD⟩
    ·
      obtain rfl : k = s.n := by omega
      refine Sat.exit ?_
      refine at_x ?_
      refine at_x ?_
      refine bl_h ?_
      refine at_n ?_
      refine Sat.seq ?_
      refine Sat.region ?_
      refine Tr.assign rfl rfl rfl ?_
      refine Tr.nil ?_
      refine at_n ?_
      refine Sat.ret ?_
      refine en_r ?_
      refine ⟨_, [], res_tmp rfl rfl, sP, sP, ?_, rfl⟩
      first
        | exact congrArg Value.bool (inOrd_yes hnd hg).symm
        | (refine congrArg Value.bool (inOrd_not (k := k) oM ?_).symm; rw [cert_is hd]; omega)

end Go.Proofs.Ytlgbmfokgnoocaa
end

section
namespace Go.Proofs.Ytlgbmfokgnoocaa
open Go Hw
set_option linter.unusedVariables false
set_option linter.unusedSimpArgs false

def drecz : DRecord := ⟨0, []⟩
/-- the record of a thing of which the bytes are bs, when its check says chk -/
def recOf (K : UInt8) (bs : List UInt8) (chk : Int) : DRecord × Int := if chk = 0 then (if (⟨K, bs⟩ : DRecord).check = 0 then (⟨K, bs⟩, 0) else (drecz, 2)) else (drecz, chk)
def RecMade (K : UInt8) (bs : List UInt8) (chk : Int) (v : Value) (out : List Blk) : Prop := ∃ X : Record, X.ok ∧ v = .tuple #[agg X.cells, i64 (recOf K bs chk).2] ∧ X.fKind = (recOf K bs chk).1.dKind ∧ ∀ W2, Lies out W2 → RecordIs W2 X (recOf K bs chk).1
theorem recz_is (W : World) : RecordIs W Record.zero drecz := ⟨Record.zero_ok, rfl, ⟨rfl, Nat.le_refl _, SeesP.nil, by decide, fun _ => rfl⟩⟩
theorem rec_bad1 {K : UInt8} {bs : List UInt8} {chk : Int} {out : List Blk} (h : ¬ chk = 0) : RecMade K bs chk (.tuple #[agg Record.zero.cells, i64 chk]) out := by
  have e : recOf K bs chk = (drecz, chk) := if_neg h
  refine ⟨Record.zero, Record.zero_ok, ?_, ?_, fun W2 _ => ?_⟩ <;> rw [e]
  · rfl
  · exact recz_is W2
theorem rec_bad2 {K : UInt8} {bs : List UInt8} {chk : Int} {out : List Blk} (h : chk = 0) (h2 : ¬ (⟨K, bs⟩ : DRecord).check = 0) : RecMade K bs chk (.tuple #[agg Record.zero.cells, i64 2]) out := by
  have e : recOf K bs chk = (drecz, 2) := by rw [recOf, if_pos h, if_neg h2]
  refine ⟨Record.zero, Record.zero_ok, ?_, ?_, fun W2 _ => ?_⟩ <;> rw [e]
  · rfl
  · exact recz_is W2
theorem rec_ok {K : UInt8} {bs : List UInt8} {chk : Int} {out : List Blk} {s : Sl} {E : TypeId} (h : chk = 0) (h2 : (⟨K, bs⟩ : DRecord).check = 0) (ha : Hw.Acc s out (bytesV bs) E bs.length 1) (hm : bs.length ≤ 1000000) : RecMade K bs chk (.tuple #[agg (⟨K, s⟩ : Record).cells, i64 0]) out := by
  have e : recOf K bs chk = (⟨K, bs⟩, 0) := by rw [recOf, if_pos h, if_pos h2]
  refine ⟨⟨K, s⟩, ⟨trivial⟩, ?_, ?_, fun W2 hl => ?_⟩ <;> rw [e]
  exact ⟨⟨trivial⟩, rfl, acc_bytes ha hl rfl hm⟩

set_option maxRecDepth 100000 in
set_option maxHeartbeats 4000000 in
theorem rec_of_vote (K : UInt8) (X : Vote) (D : Vote) (hsz : (voteBy D).length ≤ 40000) : Meets Try.prog 22 [u8 K, agg X.cells, .func (.func 23) #[] #[]] [] (fun W => VoteIs W X D) (RecMade K (voteBy D) (vcheck D)) := by
  intro W hW
  obtain rfl : D = X := hW.eq.symm
  refine calls_of (hp0 := []) Try.func22 rfl 29 Try.ntmps22 rfl (HRep.nil _) ?_
  refine Sat.seq ?_
  refine Sat.region ?_
  refine Tr.boxA rfl rfl ?_
  intro n4 hn4 hf4
  refine Tr.alloc (cs := Record.zero.cells) rfl Record.zr rfl ?_
  intro n6 hn6 hf6
  refine Tr.assign rfl rfl rfl ?_
  refine Tr.nil ?_
  refine at_n ?_
  refine Sat.seq ?_
  refine Sat.region ?_
  refine Tr.move rfl rfl rfl ?_
  refine Tr.loadAll rfl rfl rfl Try.underlying38 rfl Sz38 mM (Vote.length (by first | exact oK  | exact hW.ok | exact ⟨trivial⟩)) ?_
  refine Tr.call4 rfl rfl rfl rfl rfl Body23 (vote_bytes D hW.ok) (fun w h => trivial) ?_
  rintro v14 out14 ⟨s14, rfl, hac14⟩
  have hnm := hac14.num
  refine Tr.move rfl rfl rfl ?_
  refine Tr.extract rfl rfl rfl rfl ?_
  refine Tr.extract rfl rfl rfl rfl ?_
  refine Tr.assign rfl rfl rfl ?_
  refine Tr.assign rfl rfl rfl ?_
  refine Tr.nil ?_
  refine at_n ?_
  refine Sat.seq ?_
  refine Sat.seq ?_
  refine Sat.region ?_
  refine Tr.move rfl rfl rfl ?_
  refine Tr.nei rfl rfl rfl rfl rfl ?_
  refine Tr.nil ?_
  refine at_n ?_
  first
    | refine Sat.condP rfl (fun hc0 => ?_) (fun hc0 => ?_)
    | refine Sat.condNP rfl (fun hc0 => ?_) (fun hc0 => ?_)
    | refine Sat.cond rfl (fun hc0 => ?_) (fun hc0 => ?_)
  ·
    refine Sat.seq ?_
    refine Sat.region ?_
    refine Tr.build (cs := Record.zero.cells) rfl rfl rfl (fun w => by kernel_rfl) ?_
    refine Tr.move rfl rfl rfl ?_
    refine Tr.storeAll rfl rfl rfl rfl (Record.isCell (by first | exact oK  | exact hW.ok | exact ⟨trivial⟩)) Sz47 (Record.length (by first | exact oK  | exact hW.ok | exact ⟨trivial⟩)) mM (Record.length (by first | exact oK  | exact hW.ok | exact ⟨trivial⟩)) uU ?_
    refine Tr.assign rfl rfl rfl ?_
    refine Tr.nil ?_
    refine at_n ?_
    refine Sat.ret ?_
    refine at_r ?_
    refine en_r ?_
    refine end_perm (out := []) (res_cell_tmp rfl rfl rfl Try.underlying47 rfl Sz47 mM (by first | (simp; done) | exact Record.length (by first | exact oK  | exact hW.ok | exact ⟨trivial⟩))) pm_nil ?_
    exact rec_bad1 oM
  ·
    refine Sat.skip ?_
    refine at_n ?_
    refine Sat.seq ?_
    refine Sat.region ?_
    refine Tr.move rfl rfl rfl ?_
    refine Tr.move rfl rfl rfl ?_
    refine Tr.build (cs := (⟨K, s14⟩ : Record).cells) rfl rfl rfl (fun w => by kernel_rfl) ?_
    refine Tr.alloc (cs := Record.zero.cells) rfl Record.zr rfl ?_
    intro n10 hn10 hf10
    refine Tr.storeAll rfl rfl rfl rfl (Record.isCell (by first | exact oK  | exact hW.ok | exact ⟨trivial⟩)) Sz47 (Record.length (by first | exact oK  | exact hW.ok | exact ⟨trivial⟩)) mM (Record.length (by first | exact oK  | exact hW.ok | exact ⟨trivial⟩)) uU ?_
    refine Tr.nil ?_
    refine at_n ?_
    refine Sat.seq ?_
    refine Sat.seq ?_
    refine Sat.region ?_
    refine Tr.loadAll rfl rfl rfl Try.underlying47 rfl Sz47 mM (Record.length (by first | exact oK  | exact hW.ok | exact ⟨trivial⟩)) ?_
    refine Tr.callV rfl rfl rfl rfl Body39 (record_check ⟨K, s14⟩ ⟨K, voteBy D⟩) (fun w h => ⟨⟨trivial⟩, rfl, acc_bytes hac14 (Lies.of h iN) rfl oM⟩) ?_
    refine Tr.nei rfl rfl rfl rfl rfl ?_
    refine Tr.nil ?_
    refine at_n ?_
    first
      | refine Sat.condP rfl (fun hc1 => ?_) (fun hc1 => ?_)
      | refine Sat.condNP rfl (fun hc1 => ?_) (fun hc1 => ?_)
      | refine Sat.cond rfl (fun hc1 => ?_) (fun hc1 => ?_)
    ·
      refine Sat.seq ?_
      refine Sat.region ?_
      refine Tr.build (cs := Record.zero.cells) rfl rfl rfl (fun w => by kernel_rfl) ?_
      refine Tr.storeAll rfl rfl rfl rfl (Record.isCell (by first | exact oK  | exact hW.ok | exact ⟨trivial⟩)) Sz47 (Record.length (by first | exact oK  | exact hW.ok | exact ⟨trivial⟩)) mM (Record.length (by first | exact oK  | exact hW.ok | exact ⟨trivial⟩)) uU ?_
      refine Tr.assign rfl rfl rfl ?_
      refine Tr.nil ?_
      refine at_n ?_
      refine Sat.ret ?_
      refine at_r ?_
      refine en_r ?_
      refine end_perm (out := []) (res_cell_tmp rfl rfl rfl Try.underlying47 rfl Sz47 mM (by first | (simp; done) | exact Record.length (by first | exact oK  | exact hW.ok | exact ⟨trivial⟩))) pm_nil ?_
      exact rec_bad2 oM oM
    ·
      refine Sat.skip ?_
      refine at_n ?_
      refine Sat.seq ?_
      refine Sat.region ?_
      refine Tr.loadAll rfl rfl rfl Try.underlying47 rfl Sz47 mM (Record.length (by first | exact oK  | exact hW.ok | exact ⟨trivial⟩)) ?_
      refine Tr.storeAll rfl rfl rfl rfl (Record.isCell (by first | exact oK  | exact hW.ok | exact ⟨trivial⟩)) Sz47 (Record.length (by first | exact oK  | exact hW.ok | exact ⟨trivial⟩)) mM (Record.length (by first | exact oK  | exact hW.ok | exact ⟨trivial⟩)) uU ?_
      refine Tr.assign rfl rfl rfl ?_
      refine Tr.nil ?_
      refine at_n ?_
      refine Sat.ret ?_
      refine en_r ?_
      refine end_perm (out := (out14 ++ [])) (res_cell_tmp rfl rfl rfl Try.underlying47 rfl Sz47 mM (by first | (simp; done) | exact Record.length (by first | exact oK  | exact hW.ok | exact ⟨trivial⟩))) (pm_seg sG pm_nil) ?_
      rw [List.append_nil]; exact rec_ok oM oM hac14 oM

set_option maxRecDepth 100000 in
set_option maxHeartbeats 4000000 in
theorem rec_of_cut (K : UInt8) (X : Cut) (D : DCut) (hsz : (cutR D).length ≤ 40000) : Meets Try.prog 24 [u8 K, agg X.cells, .func (.func 25) #[] #[]] [] (fun W => CutIs W X D) (RecMade K (cutR D) (D.check)) := by
  intro W hW
  have hok := hW.ok
  refine calls_of (hp0 := []) Try.func24 rfl 29 Try.ntmps24 rfl (HRep.nil _) ?_
  refine Sat.seq ?_
  refine Sat.region ?_
  refine Tr.boxA rfl rfl ?_
  intro n4 hn4 hf4
  refine Tr.alloc (cs := Record.zero.cells) rfl Record.zr rfl ?_
  intro n6 hn6 hf6
  refine Tr.assign rfl rfl rfl ?_
  refine Tr.nil ?_
  refine at_n ?_
  refine Sat.seq ?_
  refine Sat.region ?_
  refine Tr.move rfl rfl rfl ?_
  refine Tr.loadAll rfl rfl rfl Try.underlying33 rfl Sz33 mM (Cut.length (by first | exact oK  | exact hW.ok | exact ⟨trivial⟩)) ?_
  refine Tr.call4 rfl rfl rfl rfl rfl Body25 (cut_bytes X D) (fun w h => hW.ext h rfl) ?_
  rintro v14 out14 ⟨s14, rfl, hac14⟩
  have hnm := hac14.num
  refine Tr.move rfl rfl rfl ?_
  refine Tr.extract rfl rfl rfl rfl ?_
  refine Tr.extract rfl rfl rfl rfl ?_
  refine Tr.assign rfl rfl rfl ?_
  refine Tr.assign rfl rfl rfl ?_
  refine Tr.nil ?_
  refine at_n ?_
  refine Sat.seq ?_
  refine Sat.seq ?_
  refine Sat.region ?_
  refine Tr.move rfl rfl rfl ?_
  refine Tr.nei rfl rfl rfl rfl rfl ?_
  refine Tr.nil ?_
  refine at_n ?_
  first
    | refine Sat.condP rfl (fun hc0 => ?_) (fun hc0 => ?_)
    | refine Sat.condNP rfl (fun hc0 => ?_) (fun hc0 => ?_)
    | refine Sat.cond rfl (fun hc0 => ?_) (fun hc0 => ?_)
  ·
    refine Sat.seq ?_
    refine Sat.region ?_
    refine Tr.build (cs := Record.zero.cells) rfl rfl rfl (fun w => by kernel_rfl) ?_
    refine Tr.move rfl rfl rfl ?_
    refine Tr.storeAll rfl rfl rfl rfl (Record.isCell (by first | exact oK  | exact hW.ok | exact ⟨trivial⟩)) Sz47 (Record.length (by first | exact oK  | exact hW.ok | exact ⟨trivial⟩)) mM (Record.length (by first | exact oK  | exact hW.ok | exact ⟨trivial⟩)) uU ?_
    refine Tr.assign rfl rfl rfl ?_
    refine Tr.nil ?_
    refine at_n ?_
    refine Sat.ret ?_
    refine at_r ?_
    refine en_r ?_
    refine end_perm (out := []) (res_cell_tmp rfl rfl rfl Try.underlying47 rfl Sz47 mM (by first | (simp; done) | exact Record.length (by first | exact oK  | exact hW.ok | exact ⟨trivial⟩))) pm_nil ?_
    exact rec_bad1 oM
  ·
    refine Sat.skip ?_
    refine at_n ?_
    refine Sat.seq ?_
    refine Sat.region ?_
    refine Tr.move rfl rfl rfl ?_
    refine Tr.move rfl rfl rfl ?_
    refine Tr.build (cs := (⟨K, s14⟩ : Record).cells) rfl rfl rfl (fun w => by kernel_rfl) ?_
    refine Tr.alloc (cs := Record.zero.cells) rfl Record.zr rfl ?_
    intro n10 hn10 hf10
    refine Tr.storeAll rfl rfl rfl rfl (Record.isCell (by first | exact oK  | exact hW.ok | exact ⟨trivial⟩)) Sz47 (Record.length (by first | exact oK  | exact hW.ok | exact ⟨trivial⟩)) mM (Record.length (by first | exact oK  | exact hW.ok | exact ⟨trivial⟩)) uU ?_
    refine Tr.nil ?_
    refine at_n ?_
    refine Sat.seq ?_
    refine Sat.seq ?_
    refine Sat.region ?_
    refine Tr.loadAll rfl rfl rfl Try.underlying47 rfl Sz47 mM (Record.length (by first | exact oK  | exact hW.ok | exact ⟨trivial⟩)) ?_
    refine Tr.callV rfl rfl rfl rfl Body39 (record_check ⟨K, s14⟩ ⟨K, cutR D⟩) (fun w h => ⟨⟨trivial⟩, rfl, acc_bytes hac14 (Lies.of h iN) rfl oM⟩) ?_
    refine Tr.nei rfl rfl rfl rfl rfl ?_
    refine Tr.nil ?_
    refine at_n ?_
    first
      | refine Sat.condP rfl (fun hc1 => ?_) (fun hc1 => ?_)
      | refine Sat.condNP rfl (fun hc1 => ?_) (fun hc1 => ?_)
      | refine Sat.cond rfl (fun hc1 => ?_) (fun hc1 => ?_)
    ·
      refine Sat.seq ?_
      refine Sat.region ?_
      refine Tr.build (cs := Record.zero.cells) rfl rfl rfl (fun w => by kernel_rfl) ?_
      refine Tr.storeAll rfl rfl rfl rfl (Record.isCell (by first | exact oK  | exact hW.ok | exact ⟨trivial⟩)) Sz47 (Record.length (by first | exact oK  | exact hW.ok | exact ⟨trivial⟩)) mM (Record.length (by first | exact oK  | exact hW.ok | exact ⟨trivial⟩)) uU ?_
      refine Tr.assign rfl rfl rfl ?_
      refine Tr.nil ?_
      refine at_n ?_
      refine Sat.ret ?_
      refine at_r ?_
      refine en_r ?_
      refine end_perm (out := []) (res_cell_tmp rfl rfl rfl Try.underlying47 rfl Sz47 mM (by first | (simp; done) | exact Record.length (by first | exact oK  | exact hW.ok | exact ⟨trivial⟩))) pm_nil ?_
      exact rec_bad2 oM oM
    ·
      refine Sat.skip ?_
      refine at_n ?_
      refine Sat.seq ?_
      refine Sat.region ?_
      refine Tr.loadAll rfl rfl rfl Try.underlying47 rfl Sz47 mM (Record.length (by first | exact oK  | exact hW.ok | exact ⟨trivial⟩)) ?_
      refine Tr.storeAll rfl rfl rfl rfl (Record.isCell (by first | exact oK  | exact hW.ok | exact ⟨trivial⟩)) Sz47 (Record.length (by first | exact oK  | exact hW.ok | exact ⟨trivial⟩)) mM (Record.length (by first | exact oK  | exact hW.ok | exact ⟨trivial⟩)) uU ?_
      refine Tr.assign rfl rfl rfl ?_
      refine Tr.nil ?_
      refine at_n ?_
      refine Sat.ret ?_
      refine en_r ?_
      refine end_perm (out := (out14 ++ [])) (res_cell_tmp rfl rfl rfl Try.underlying47 rfl Sz47 mM (by first | (simp; done) | exact Record.length (by first | exact oK  | exact hW.ok | exact ⟨trivial⟩))) (pm_seg sG pm_nil) ?_
      rw [List.append_nil]; exact rec_ok oM oM hac14 oM

set_option maxRecDepth 100000 in
set_option maxHeartbeats 4000000 in
theorem rec_of_cert (K : UInt8) (X : Cert) (D : DCert) (hsz : (certBy D).length ≤ 40000) : Meets Try.prog 20 [u8 K, agg X.cells, .func (.func 21) #[] #[]] [] (fun W => CertIs W X D) (RecMade K (certBy D) (D.check)) := by
  intro W hW
  have hok := hW.ok
  refine calls_of (hp0 := []) Try.func20 rfl 29 Try.ntmps20 rfl (HRep.nil _) ?_
  refine Sat.seq ?_
  refine Sat.region ?_
  refine Tr.boxA rfl rfl ?_
  intro n4 hn4 hf4
  refine Tr.alloc (cs := Record.zero.cells) rfl Record.zr rfl ?_
  intro n6 hn6 hf6
  refine Tr.assign rfl rfl rfl ?_
  refine Tr.nil ?_
  refine at_n ?_
  refine Sat.seq ?_
  refine Sat.region ?_
  refine Tr.move rfl rfl rfl ?_
  refine Tr.loadAll rfl rfl rfl Try.underlying36 rfl Sz36 mM (Cert.length (by first | exact oK  | exact hW.ok | exact ⟨trivial⟩)) ?_
  refine Tr.call4 rfl rfl rfl rfl rfl Body21 (cert_bytes X D) (fun w h => hW.ext h rfl) ?_
  rintro v14 out14 ⟨s14, rfl, hac14⟩
  have hnm := hac14.num
  refine Tr.move rfl rfl rfl ?_
  refine Tr.extract rfl rfl rfl rfl ?_
  refine Tr.extract rfl rfl rfl rfl ?_
  refine Tr.assign rfl rfl rfl ?_
  refine Tr.assign rfl rfl rfl ?_
  refine Tr.nil ?_
  refine at_n ?_
  refine Sat.seq ?_
  refine Sat.seq ?_
  refine Sat.region ?_
  refine Tr.move rfl rfl rfl ?_
  refine Tr.nei rfl rfl rfl rfl rfl ?_
  refine Tr.nil ?_
  refine at_n ?_
  first
    | refine Sat.condP rfl (fun hc0 => ?_) (fun hc0 => ?_)
    | refine Sat.condNP rfl (fun hc0 => ?_) (fun hc0 => ?_)
    | refine Sat.cond rfl (fun hc0 => ?_) (fun hc0 => ?_)
  ·
    refine Sat.seq ?_
    refine Sat.region ?_
    refine Tr.build (cs := Record.zero.cells) rfl rfl rfl (fun w => by kernel_rfl) ?_
    refine Tr.move rfl rfl rfl ?_
    refine Tr.storeAll rfl rfl rfl rfl (Record.isCell (by first | exact oK  | exact hW.ok | exact ⟨trivial⟩)) Sz47 (Record.length (by first | exact oK  | exact hW.ok | exact ⟨trivial⟩)) mM (Record.length (by first | exact oK  | exact hW.ok | exact ⟨trivial⟩)) uU ?_
    refine Tr.assign rfl rfl rfl ?_
    refine Tr.nil ?_
    refine at_n ?_
    refine Sat.ret ?_
    refine at_r ?_
    refine en_r ?_
    refine end_perm (out := []) (res_cell_tmp rfl rfl rfl Try.underlying47 rfl Sz47 mM (by first | (simp; done) | exact Record.length (by first | exact oK  | exact hW.ok | exact ⟨trivial⟩))) pm_nil ?_
    exact rec_bad1 oM
  ·
    refine Sat.skip ?_
    refine at_n ?_
    refine Sat.seq ?_
    refine Sat.region ?_
    refine Tr.move rfl rfl rfl ?_
    refine Tr.move rfl rfl rfl ?_
    refine Tr.build (cs := (⟨K, s14⟩ : Record).cells) rfl rfl rfl (fun w => by kernel_rfl) ?_
    refine Tr.alloc (cs := Record.zero.cells) rfl Record.zr rfl ?_
    intro n10 hn10 hf10
    refine Tr.storeAll rfl rfl rfl rfl (Record.isCell (by first | exact oK  | exact hW.ok | exact ⟨trivial⟩)) Sz47 (Record.length (by first | exact oK  | exact hW.ok | exact ⟨trivial⟩)) mM (Record.length (by first | exact oK  | exact hW.ok | exact ⟨trivial⟩)) uU ?_
    refine Tr.nil ?_
    refine at_n ?_
    refine Sat.seq ?_
    refine Sat.seq ?_
    refine Sat.region ?_
    refine Tr.loadAll rfl rfl rfl Try.underlying47 rfl Sz47 mM (Record.length (by first | exact oK  | exact hW.ok | exact ⟨trivial⟩)) ?_
    refine Tr.callV rfl rfl rfl rfl Body39 (record_check ⟨K, s14⟩ ⟨K, certBy D⟩) (fun w h => ⟨⟨trivial⟩, rfl, acc_bytes hac14 (Lies.of h iN) rfl oM⟩) ?_
    refine Tr.nei rfl rfl rfl rfl rfl ?_
    refine Tr.nil ?_
    refine at_n ?_
    first
      | refine Sat.condP rfl (fun hc1 => ?_) (fun hc1 => ?_)
      | refine Sat.condNP rfl (fun hc1 => ?_) (fun hc1 => ?_)
      | refine Sat.cond rfl (fun hc1 => ?_) (fun hc1 => ?_)
    ·
      refine Sat.seq ?_
      refine Sat.region ?_
      refine Tr.build (cs := Record.zero.cells) rfl rfl rfl (fun w => by kernel_rfl) ?_
      refine Tr.storeAll rfl rfl rfl rfl (Record.isCell (by first | exact oK  | exact hW.ok | exact ⟨trivial⟩)) Sz47 (Record.length (by first | exact oK  | exact hW.ok | exact ⟨trivial⟩)) mM (Record.length (by first | exact oK  | exact hW.ok | exact ⟨trivial⟩)) uU ?_
      refine Tr.assign rfl rfl rfl ?_
      refine Tr.nil ?_
      refine at_n ?_
      refine Sat.ret ?_
      refine at_r ?_
      refine en_r ?_
      refine end_perm (out := []) (res_cell_tmp rfl rfl rfl Try.underlying47 rfl Sz47 mM (by first | (simp; done) | exact Record.length (by first | exact oK  | exact hW.ok | exact ⟨trivial⟩))) pm_nil ?_
      exact rec_bad2 oM oM
    ·
      refine Sat.skip ?_
      refine at_n ?_
      refine Sat.seq ?_
      refine Sat.region ?_
      refine Tr.loadAll rfl rfl rfl Try.underlying47 rfl Sz47 mM (Record.length (by first | exact oK  | exact hW.ok | exact ⟨trivial⟩)) ?_
      refine Tr.storeAll rfl rfl rfl rfl (Record.isCell (by first | exact oK  | exact hW.ok | exact ⟨trivial⟩)) Sz47 (Record.length (by first | exact oK  | exact hW.ok | exact ⟨trivial⟩)) mM (Record.length (by first | exact oK  | exact hW.ok | exact ⟨trivial⟩)) uU ?_
      refine Tr.assign rfl rfl rfl ?_
      refine Tr.nil ?_
      refine at_n ?_
      refine Sat.ret ?_
      refine en_r ?_
      refine end_perm (out := (out14 ++ [])) (res_cell_tmp rfl rfl rfl Try.underlying47 rfl Sz47 mM (by first | (simp; done) | exact Record.length (by first | exact oK  | exact hW.ok | exact ⟨trivial⟩))) (pm_seg sG pm_nil) ?_
      rw [List.append_nil]; exact rec_ok oM oM hac14 oM

def blockBy (D : DB) : List UInt8 := if D.check = 0 then D.bytes else []
theorem block_bytes (X : Block) (D : DB) : Meets Try.prog 17 [agg X.cells] [] (fun W => BlockIs W X D) (fun v out => ∃ s : Sl, v = .tuple #[s.v, i64 D.check] ∧ Hw.Acc s out (bytesV (blockBy D)) 5 (blockBy D).length 1) := by
  intro W hW
  have hbc : bcheck X D.ls = D.check := hW.check
  by_cases hc : D.check = 0
  · refine (bytes_ok X hW.ok D.ls D.ds (by rw [hbc]; exact hc) W ⟨hW.ls, hW.ds⟩).mono fun e W' ⟨v, out, h1, h2, h4⟩ => ⟨v, out, h1, ?_, h4⟩
    clear h1 h4
    obtain ⟨q, c, N, hN, hN2, rfl, hNc, rfl⟩ := h2
    have e : bytesB X D.ls D.ds = blockBy D := by rw [blockBy, if_pos hc]; exact hW.bytes
    rw [e] at hN ⊢
    subst hN
    exact ⟨⟨some ⟨q, 0, none⟩, (blockBy D).length, c⟩, by rw [hc]; rfl, .inr ⟨q, c, rfl, hNc, by simp [bytesV], rfl⟩⟩
  · refine (bytes_bad X hW.ok D.ls D.ds (by rw [hbc]; exact hc) W ⟨hW.ls, hW.ds⟩).mono fun e W' ⟨v, out, h1, h2, h4⟩ => ⟨v, out, h1, ?_, h4⟩
    clear h1 h4
    obtain ⟨rfl, rfl⟩ := h2
    rw [blockBy, if_neg hc, hbc]
    exact ⟨Sl.nil, rfl, .inl ⟨rfl, rfl, rfl, rfl⟩⟩

set_option maxRecDepth 100000 in
set_option maxHeartbeats 4000000 in
theorem rec_of_block (K : UInt8) (X : Block) (D : DB) (hsz : (blockBy D).length ≤ 40000) : Meets Try.prog 16 [u8 K, agg X.cells, .func (.func 17) #[] #[]] [] (fun W => BlockIs W X D) (RecMade K (blockBy D) (D.check)) := by
  intro W hW
  have hok := hW.ok
  refine calls_of (hp0 := []) Try.func16 rfl 29 Try.ntmps16 rfl (HRep.nil _) ?_
  refine Sat.seq ?_
  refine Sat.region ?_
  refine Tr.boxA rfl rfl ?_
  intro n4 hn4 hf4
  refine Tr.alloc (cs := Record.zero.cells) rfl Record.zr rfl ?_
  intro n6 hn6 hf6
  refine Tr.assign rfl rfl rfl ?_
  refine Tr.nil ?_
  refine at_n ?_
  refine Sat.seq ?_
  refine Sat.region ?_
  refine Tr.move rfl rfl rfl ?_
  refine Tr.loadAll rfl rfl rfl Try.underlying31 rfl Sz31 mM (Block.length (by first | exact oK  | exact hW.ok | exact ⟨trivial⟩)) ?_
  refine Tr.call4 rfl rfl rfl rfl rfl Body17 (block_bytes X D) (fun w h => hW.ext h rfl) ?_
  rintro v14 out14 ⟨s14, rfl, hac14⟩
  have hnm := hac14.num
  refine Tr.move rfl rfl rfl ?_
  refine Tr.extract rfl rfl rfl rfl ?_
  refine Tr.extract rfl rfl rfl rfl ?_
  refine Tr.assign rfl rfl rfl ?_
  refine Tr.assign rfl rfl rfl ?_
  refine Tr.nil ?_
  refine at_n ?_
  refine Sat.seq ?_
  refine Sat.seq ?_
  refine Sat.region ?_
  refine Tr.move rfl rfl rfl ?_
  refine Tr.nei rfl rfl rfl rfl rfl ?_
  refine Tr.nil ?_
  refine at_n ?_
  first
    | refine Sat.condP rfl (fun hc0 => ?_) (fun hc0 => ?_)
    | refine Sat.condNP rfl (fun hc0 => ?_) (fun hc0 => ?_)
    | refine Sat.cond rfl (fun hc0 => ?_) (fun hc0 => ?_)
  ·
    refine Sat.seq ?_
    refine Sat.region ?_
    refine Tr.build (cs := Record.zero.cells) rfl rfl rfl (fun w => by kernel_rfl) ?_
    refine Tr.move rfl rfl rfl ?_
    refine Tr.storeAll rfl rfl rfl rfl (Record.isCell (by first | exact oK  | exact hW.ok | exact ⟨trivial⟩)) Sz47 (Record.length (by first | exact oK  | exact hW.ok | exact ⟨trivial⟩)) mM (Record.length (by first | exact oK  | exact hW.ok | exact ⟨trivial⟩)) uU ?_
    refine Tr.assign rfl rfl rfl ?_
    refine Tr.nil ?_
    refine at_n ?_
    refine Sat.ret ?_
    refine at_r ?_
    refine en_r ?_
    refine end_perm (out := []) (res_cell_tmp rfl rfl rfl Try.underlying47 rfl Sz47 mM (by first | (simp; done) | exact Record.length (by first | exact oK  | exact hW.ok | exact ⟨trivial⟩))) pm_nil ?_
    exact rec_bad1 oM
  ·
    refine Sat.skip ?_
    refine at_n ?_
    refine Sat.seq ?_
    refine Sat.region ?_
    refine Tr.move rfl rfl rfl ?_
    refine Tr.move rfl rfl rfl ?_
    refine Tr.build (cs := (⟨K, s14⟩ : Record).cells) rfl rfl rfl (fun w => by kernel_rfl) ?_
    refine Tr.alloc (cs := Record.zero.cells) rfl Record.zr rfl ?_
    intro n10 hn10 hf10
    refine Tr.storeAll rfl rfl rfl rfl (Record.isCell (by first | exact oK  | exact hW.ok | exact ⟨trivial⟩)) Sz47 (Record.length (by first | exact oK  | exact hW.ok | exact ⟨trivial⟩)) mM (Record.length (by first | exact oK  | exact hW.ok | exact ⟨trivial⟩)) uU ?_
    refine Tr.nil ?_
    refine at_n ?_
    refine Sat.seq ?_
    refine Sat.seq ?_
    refine Sat.region ?_
    refine Tr.loadAll rfl rfl rfl Try.underlying47 rfl Sz47 mM (Record.length (by first | exact oK  | exact hW.ok | exact ⟨trivial⟩)) ?_
    refine Tr.callV rfl rfl rfl rfl Body39 (record_check ⟨K, s14⟩ ⟨K, blockBy D⟩) (fun w h => ⟨⟨trivial⟩, rfl, acc_bytes hac14 (Lies.of h iN) rfl oM⟩) ?_
    refine Tr.nei rfl rfl rfl rfl rfl ?_
    refine Tr.nil ?_
    refine at_n ?_
    first
      | refine Sat.condP rfl (fun hc1 => ?_) (fun hc1 => ?_)
      | refine Sat.condNP rfl (fun hc1 => ?_) (fun hc1 => ?_)
      | refine Sat.cond rfl (fun hc1 => ?_) (fun hc1 => ?_)
    ·
      refine Sat.seq ?_
      refine Sat.region ?_
      refine Tr.build (cs := Record.zero.cells) rfl rfl rfl (fun w => by kernel_rfl) ?_
      refine Tr.storeAll rfl rfl rfl rfl (Record.isCell (by first | exact oK  | exact hW.ok | exact ⟨trivial⟩)) Sz47 (Record.length (by first | exact oK  | exact hW.ok | exact ⟨trivial⟩)) mM (Record.length (by first | exact oK  | exact hW.ok | exact ⟨trivial⟩)) uU ?_
      refine Tr.assign rfl rfl rfl ?_
      refine Tr.nil ?_
      refine at_n ?_
      refine Sat.ret ?_
      refine at_r ?_
      refine en_r ?_
      refine end_perm (out := []) (res_cell_tmp rfl rfl rfl Try.underlying47 rfl Sz47 mM (by first | (simp; done) | exact Record.length (by first | exact oK  | exact hW.ok | exact ⟨trivial⟩))) pm_nil ?_
      exact rec_bad2 oM oM
    ·
      refine Sat.skip ?_
      refine at_n ?_
      refine Sat.seq ?_
      refine Sat.region ?_
      refine Tr.loadAll rfl rfl rfl Try.underlying47 rfl Sz47 mM (Record.length (by first | exact oK  | exact hW.ok | exact ⟨trivial⟩)) ?_
      refine Tr.storeAll rfl rfl rfl rfl (Record.isCell (by first | exact oK  | exact hW.ok | exact ⟨trivial⟩)) Sz47 (Record.length (by first | exact oK  | exact hW.ok | exact ⟨trivial⟩)) mM (Record.length (by first | exact oK  | exact hW.ok | exact ⟨trivial⟩)) uU ?_
      refine Tr.assign rfl rfl rfl ?_
      refine Tr.nil ?_
      refine at_n ?_
      refine Sat.ret ?_
      refine en_r ?_
      refine end_perm (out := (out14 ++ [])) (res_cell_tmp rfl rfl rfl Try.underlying47 rfl Sz47 mM (by first | (simp; done) | exact Record.length (by first | exact oK  | exact hW.ok | exact ⟨trivial⟩))) (pm_seg sG pm_nil) ?_
      rw [List.append_nil]; exact rec_ok oM oM hac14 oM

set_option maxRecDepth 100000 in
set_option maxHeartbeats 4000000 in
theorem keep_vote (X : Vote) (D : Vote) (hsz : (voteBy D).length ≤ 40000) : Meets Try.prog 11 [agg X.cells] [] (fun W => VoteIs W X D) (RecMade 3 (voteBy D) (vcheck D)) := by
  intro W hW
  refine calls_of (hp0 := []) Try.func11 rfl 8 Try.ntmps11 rfl (HRep.nil _) ?_
  refine Sat.seq ?_
  refine Sat.region ?_
  refine Tr.boxA rfl rfl ?_
  intro n1 hn1 hf1
  refine Tr.alloc (cs := Record.zero.cells) rfl Record.zr rfl ?_
  intro n2 hn2 hf2
  refine Tr.assign rfl rfl rfl ?_
  refine Tr.nil ?_
  refine at_n ?_
  refine Sat.seq ?_
  refine Sat.region ?_
  refine Tr.loadAll rfl rfl rfl Try.underlying38 rfl Sz38 mM (Vote.length (by first | exact oK  | exact hW.ok | exact okX5 | exact Record.zero_ok)) ?_
  refine Tr.call4 rfl rfl rfl rfl rfl Body22 (rec_of_vote 3 X D hsz) (fun w h => hW.ext h rfl) ?_
  rintro v5 out5 ⟨X5, okX5, rfl, kX5, hX5⟩
  refine Tr.extract rfl rfl rfl rfl ?_
  refine Tr.extract rfl rfl rfl rfl ?_
  refine Tr.storeAll rfl rfl rfl rfl (Record.isCell (by first | exact oK  | exact hW.ok | exact okX5 | exact Record.zero_ok)) Sz47 (Record.length (by first | exact oK  | exact hW.ok | exact okX5 | exact Record.zero_ok)) mM (Record.length (by first | exact oK  | exact hW.ok | exact okX5 | exact Record.zero_ok)) uU ?_
  refine Tr.assign rfl rfl rfl ?_
  refine Tr.nil ?_
  refine at_n ?_
  refine Sat.ret ?_
  refine en_r ?_
  refine end_perm (out := (out5 ++ [])) (res_cell_tmp rfl rfl rfl Try.underlying47 rfl Sz47 mM (by first | (simp; done) | exact Record.length (by first | exact oK  | exact hW.ok | exact okX5 | exact Record.zero_ok))) (pm_seg sG pm_nil) ?_
  rw [List.append_nil]; exact ⟨X5, okX5, rfl, kX5, hX5⟩

set_option maxRecDepth 100000 in
set_option maxHeartbeats 4000000 in
theorem keep_cut (X : Cut) (D : DCut) (hsz : (cutR D).length ≤ 40000) : Meets Try.prog 12 [agg X.cells] [] (fun W => CutIs W X D) (RecMade 4 (cutR D) (D.check)) := by
  intro W hW
  refine calls_of (hp0 := []) Try.func12 rfl 8 Try.ntmps12 rfl (HRep.nil _) ?_
  refine Sat.seq ?_
  refine Sat.region ?_
  refine Tr.boxA rfl rfl ?_
  intro n1 hn1 hf1
  refine Tr.alloc (cs := Record.zero.cells) rfl Record.zr rfl ?_
  intro n2 hn2 hf2
  refine Tr.assign rfl rfl rfl ?_
  refine Tr.nil ?_
  refine at_n ?_
  refine Sat.seq ?_
  refine Sat.region ?_
  refine Tr.loadAll rfl rfl rfl Try.underlying33 rfl Sz33 mM (Cut.length (by first | exact oK  | exact hW.ok | exact okX5 | exact Record.zero_ok)) ?_
  refine Tr.call4 rfl rfl rfl rfl rfl Body24 (rec_of_cut 4 X D hsz) (fun w h => hW.ext h rfl) ?_
  rintro v5 out5 ⟨X5, okX5, rfl, kX5, hX5⟩
  refine Tr.extract rfl rfl rfl rfl ?_
  refine Tr.extract rfl rfl rfl rfl ?_
  refine Tr.storeAll rfl rfl rfl rfl (Record.isCell (by first | exact oK  | exact hW.ok | exact okX5 | exact Record.zero_ok)) Sz47 (Record.length (by first | exact oK  | exact hW.ok | exact okX5 | exact Record.zero_ok)) mM (Record.length (by first | exact oK  | exact hW.ok | exact okX5 | exact Record.zero_ok)) uU ?_
  refine Tr.assign rfl rfl rfl ?_
  refine Tr.nil ?_
  refine at_n ?_
  refine Sat.ret ?_
  refine en_r ?_
  refine end_perm (out := (out5 ++ [])) (res_cell_tmp rfl rfl rfl Try.underlying47 rfl Sz47 mM (by first | (simp; done) | exact Record.length (by first | exact oK  | exact hW.ok | exact okX5 | exact Record.zero_ok))) (pm_seg sG pm_nil) ?_
  rw [List.append_nil]; exact ⟨X5, okX5, rfl, kX5, hX5⟩

set_option maxRecDepth 100000 in
set_option maxHeartbeats 4000000 in
theorem keep_cert (X : Cert) (D : DCert) (hsz : (certBy D).length ≤ 40000) : Meets Try.prog 10 [agg X.cells] [] (fun W => CertIs W X D) (RecMade 2 (certBy D) (D.check)) := by
  intro W hW
  refine calls_of (hp0 := []) Try.func10 rfl 8 Try.ntmps10 rfl (HRep.nil _) ?_
  refine Sat.seq ?_
  refine Sat.region ?_
  refine Tr.boxA rfl rfl ?_
  intro n1 hn1 hf1
  refine Tr.alloc (cs := Record.zero.cells) rfl Record.zr rfl ?_
  intro n2 hn2 hf2
  refine Tr.assign rfl rfl rfl ?_
  refine Tr.nil ?_
  refine at_n ?_
  refine Sat.seq ?_
  refine Sat.region ?_
  refine Tr.loadAll rfl rfl rfl Try.underlying36 rfl Sz36 mM (Cert.length (by first | exact oK  | exact hW.ok | exact okX5 | exact Record.zero_ok)) ?_
  refine Tr.call4 rfl rfl rfl rfl rfl Body20 (rec_of_cert 2 X D hsz) (fun w h => hW.ext h rfl) ?_
  rintro v5 out5 ⟨X5, okX5, rfl, kX5, hX5⟩
  refine Tr.extract rfl rfl rfl rfl ?_
  refine Tr.extract rfl rfl rfl rfl ?_
  refine Tr.storeAll rfl rfl rfl rfl (Record.isCell (by first | exact oK  | exact hW.ok | exact okX5 | exact Record.zero_ok)) Sz47 (Record.length (by first | exact oK  | exact hW.ok | exact okX5 | exact Record.zero_ok)) mM (Record.length (by first | exact oK  | exact hW.ok | exact okX5 | exact Record.zero_ok)) uU ?_
  refine Tr.assign rfl rfl rfl ?_
  refine Tr.nil ?_
  refine at_n ?_
  refine Sat.ret ?_
  refine en_r ?_
  refine end_perm (out := (out5 ++ [])) (res_cell_tmp rfl rfl rfl Try.underlying47 rfl Sz47 mM (by first | (simp; done) | exact Record.length (by first | exact oK  | exact hW.ok | exact okX5 | exact Record.zero_ok))) (pm_seg sG pm_nil) ?_
  rw [List.append_nil]; exact ⟨X5, okX5, rfl, kX5, hX5⟩

set_option maxRecDepth 100000 in
set_option maxHeartbeats 4000000 in
theorem keep_block (X : Block) (D : DB) (hsz : (blockBy D).length ≤ 40000) : Meets Try.prog 8 [agg X.cells] [] (fun W => BlockIs W X D) (RecMade 1 (blockBy D) (D.check)) := by
  intro W hW
  refine calls_of (hp0 := []) Try.func8 rfl 8 Try.ntmps8 rfl (HRep.nil _) ?_
  refine Sat.seq ?_
  refine Sat.region ?_
  refine Tr.boxA rfl rfl ?_
  intro n1 hn1 hf1
  refine Tr.alloc (cs := Record.zero.cells) rfl Record.zr rfl ?_
  intro n2 hn2 hf2
  refine Tr.assign rfl rfl rfl ?_
  refine Tr.nil ?_
  refine at_n ?_
  refine Sat.seq ?_
  refine Sat.region ?_
  refine Tr.loadAll rfl rfl rfl Try.underlying31 rfl Sz31 mM (Block.length (by first | exact oK  | exact hW.ok | exact okX5 | exact Record.zero_ok)) ?_
  refine Tr.call4 rfl rfl rfl rfl rfl Body16 (rec_of_block 1 X D hsz) (fun w h => hW.ext h rfl) ?_
  rintro v5 out5 ⟨X5, okX5, rfl, kX5, hX5⟩
  refine Tr.extract rfl rfl rfl rfl ?_
  refine Tr.extract rfl rfl rfl rfl ?_
  refine Tr.storeAll rfl rfl rfl rfl (Record.isCell (by first | exact oK  | exact hW.ok | exact okX5 | exact Record.zero_ok)) Sz47 (Record.length (by first | exact oK  | exact hW.ok | exact okX5 | exact Record.zero_ok)) mM (Record.length (by first | exact oK  | exact hW.ok | exact okX5 | exact Record.zero_ok)) uU ?_
  refine Tr.assign rfl rfl rfl ?_
  refine Tr.nil ?_
  refine at_n ?_
  refine Sat.ret ?_
  refine en_r ?_
  refine end_perm (out := (out5 ++ [])) (res_cell_tmp rfl rfl rfl Try.underlying47 rfl Sz47 mM (by first | (simp; done) | exact Record.length (by first | exact oK  | exact hW.ok | exact okX5 | exact Record.zero_ok))) (pm_seg sG pm_nil) ?_
  rw [List.append_nil]; exact ⟨X5, okX5, rfl, kX5, hX5⟩

end Go.Proofs.Ytlgbmfokgnoocaa
end

section
namespace Go.Proofs.Ytlgbmfokgnoocaa
open Go Hw
set_option linter.unusedVariables false
set_option linter.unusedSimpArgs false

theorem seesP_na0 {C : Cx} {hp : List Blk} {w : World} {p : Option Addr} {xs : List UInt8} {k : Nat} (h : HRep C hp w) (hs : SeesP C.W0 p (bytesV xs)) (hl : xs.length = k) (hna : 0 < k → ∀ a, p = some a → a.block ∉ C.lent) : SeesP w p (bytesV xs) := fun j v hj => by
  have h1 : j < (bytesV xs).length := (List.getElem?_eq_some_iff.1 hj).1
  rw [bytesV, List.length_map] at h1
  exact seesP_na h hs (hna oM) j v hj
def KB (n : Nat) (K : Kept) : Blk := ⟨n, K.cells, 57, 4⟩
theorem take_hrep {P : Program} {W : World} {N n : Nat} {K : Kept} {s : Sl} {bl : List Blk} {cells : List Value} {E : TypeId} {m size : Nat} (h : Hw.Acc s bl cells E m size) (hk : BlkOk W (KB n K)) (hl : Lies bl W) (hn : ∀ b ∈ bl, b.n ≠ n) : HRep ⟨P, W, N, n :: bl.map (·.n), [], []⟩ (KB n K :: (bl ++ [])) W := by
  rw [List.append_nil]
  have h1 := Acc.hrep (P := P) (N := N) h hl
  refine ⟨fun b hb => ?_, ?_, fun b hb => ?_, Keeps.refl _ _, fun _ h => (by cases h), fun _ _ _ h => (by cases h)⟩
  · rcases List.mem_cons.1 hb with rfl | hb
    · exact hk
    · exact hl b hb
  · refine List.nodup_cons.2 ⟨fun hm => ?_, h1.nodup⟩
    obtain ⟨b, hb, e⟩ := List.mem_map.1 hm
    exact hn b hb e
  · rcases List.mem_cons.1 hb with rfl | hb
    · exact .inr List.mem_cons_self
    · exact .inr (List.mem_cons_of_mem _ (List.mem_map.2 ⟨b, hb, rfl⟩))
set_option maxRecDepth 100000 in
set_option maxHeartbeats 4000000 in
theorem take_vote (n : Nat) (K : Kept) (hK : K.ok) (bl : List Blk) (rs : List Vote) (m : Nat) (hac : Hw.Acc K.fVotes bl (rs.map Vote.cells).flatten 38 m 132) (hm : m ≤ 100000) (p : Option Addr) (k c : Nat) (xs : List UInt8) (hl : xs.length = k) (hp : p = none → k = 0) (hk : k ≤ 90000) : Meets Try.prog 30 [ptr n 2, .slice p k c, .func (.func 31) #[] #[]] (n :: bl.map (·.n)) (fun W => BlkOk W (KB n K) ∧ Lies bl W ∧ SeesP W p (bytesV xs) ∧ (0 < k → ∀ a, p = some a → a.block ∉ n :: bl.map (·.n)) ∧ ∀ b ∈ bl, b.n ≠ n) (fun v out => ∃ (s2 : Sl) (bl2 : List Blk), v = .bool (decide ((voteRd xs).2 = 0)) ∧ ((¬ (voteRd xs).2 = 0 ∧ out = KB n K :: (bl ++ [])) ∨ ((voteRd xs).2 = 0 ∧ out = KB n { K with fVotes := s2 } :: (bl2 ++ []) ∧ Hw.Acc s2 bl2 ((rs ++ [(voteRd xs).1]).map Vote.cells).flatten 38 (m + 1) 132))) := by
  intro W hW
  refine calls_of (hp0 := KB n K :: (bl ++ [])) Try.func30 rfl 25 Try.ntmps30 rfl (take_hrep hac hW.1 hW.2.1 hW.2.2.2.2) ?_
  refine Sat.seq ?_
  refine Sat.region ?_
  refine Tr.assign rfl rfl rfl ?_
  refine Tr.nil ?_
  refine at_n ?_
  refine Sat.seq ?_
  refine Sat.region ?_
  refine Tr.move rfl rfl rfl ?_
  refine Tr.move rfl rfl rfl ?_
  refine Tr.call4 rfl rfl rfl rfl rfl Body31 (vote_read p k c xs hl hp hk) (fun w h => seesP_na0 h hW.2.2.1 hl hW.2.2.2.1) ?_
  rintro v12 out12 ⟨rfl, rfl⟩
  refine Tr.move rfl rfl rfl ?_
  refine Tr.extract rfl rfl rfl rfl ?_
  refine Tr.extract rfl rfl rfl rfl ?_
  refine Tr.alloc (cs := Vote.zero.cells) rfl Vote.zr rfl ?_
  intro n7 hn7 hf7
  refine Tr.storeAll rfl rfl rfl rfl (Vote.isCell (by first | exact oK  | exact hK | exact voteRd_vok _)) Sz38 (Vote.length (by first | exact oK  | exact hK | exact voteRd_vok _)) mM (Vote.length (by first | exact oK  | exact hK | exact voteRd_vok _)) uU ?_
  refine Tr.assign rfl rfl rfl ?_
  refine Tr.nil ?_
  refine at_n ?_
  refine Sat.seq ?_
  refine Sat.seq ?_
  refine Sat.region ?_
  refine Tr.move rfl rfl rfl ?_
  refine Tr.nei rfl rfl rfl rfl rfl ?_
  refine Tr.nil ?_
  refine at_n ?_
  first
    | refine Sat.condP rfl (fun hc0 => ?_) (fun hc0 => ?_)
    | refine Sat.condNP rfl (fun hc0 => ?_) (fun hc0 => ?_)
    | refine Sat.cond rfl (fun hc0 => ?_) (fun hc0 => ?_)
  ·
    refine Sat.seq ?_
    refine Sat.region ?_
    refine Tr.assign rfl rfl rfl ?_
    refine Tr.nil ?_
    refine at_n ?_
    refine Sat.ret ?_
    refine at_r ?_
    refine en_r ?_
    refine end_perm (out := (KB n K :: (bl ++ []))) (res_tmp rfl rfl) (pm_cons rM (pm_seg sG pm_nil)) ?_
    exact ⟨Sl.nil, [], by simp; omega, .inl ⟨by omega, rfl⟩⟩
  ·
    refine Sat.skip ?_
    refine at_n ?_
    refine Sat.seq ?_
    refine Sat.draw [(0, 0), (0, 1), (0, 2), (1, 3), (1, 4), (2, 5), (4, 6), (0, 7), (4, 8)] Mixed (by kernel_rfl) ?_
    refine Tr.move rfl rfl rfl ?_
    refine Tr.move rfl rfl rfl ?_
    refine Tr.nilChk rfl rfl rfl ?_
    refine Tr.load1 rfl rfl rfl Try.underlying34 rfl mM (Kept.get_fVotes hK) ?_
    refine Tr.loadAll rfl rfl rfl Try.underlying38 rfl Sz38 mM (Vote.length (by first | exact oK  | exact hK | exact voteRd_vok _)) ?_
    refine Tr.mkRow2 (z := agg Vote.zero.cells) [agg (voteRd xs).1.cells] (voteRd xs).1.cells rfl rfl Try.underlying34 Sz38 Vote.zr rfl rfl (by intro v hv; rw [List.mem_singleton.1 hv]; exact Vote.length (voteRd_vok _)) dE (by simp [Value.cells]) ?_
    intro q22
    refine Tr.appendAcc (z := agg Vote.zero.cells) (by' := 160) ((voteRd xs).1.cells) rfl rfl rfl rfl rfl Try.underlying34 Try.underlying34 Sz38 Zr38 (by unfold By; kernel_rfl) rfl hac sG (fun w h => SeesP.of (sees_own h mM)) (fun e => by cases e) (Vote.isCell (voteRd_vok _)) oM oM (by rw [Vote.length (voteRd_vok _)]) ?_
    intro s23 bl23 hac23
    refine Tr.nilChk rfl rfl rfl ?_
    refine Tr.store1 rfl rfl rfl rfl rfl Sz34 mM (by rw [Kept.length hK]; decide) (Kept.setS_fVotes hK _ _ _) uU ?_
    refine Tr.nil ?_
    refine at_n ?_
    refine Sat.seq ?_
    refine Sat.region ?_
    refine Tr.assign rfl rfl rfl ?_
    refine Tr.nil ?_
    refine at_n ?_
    refine Sat.ret ?_
    refine en_r ?_
    refine end_perm (out := (KB n { K with fVotes := s23 } :: (bl23 ++ []))) (res_tmp rfl rfl) (pm_cons rM (pm_seg sG pm_nil)) ?_
    exact ⟨s23, bl23, by simp; omega, .inr ⟨by omega, rfl, by simpa using hac23⟩⟩

set_option maxRecDepth 100000 in
set_option maxHeartbeats 4000000 in
theorem take_cut (n : Nat) (K : Kept) (hK : K.ok) (bl : List Blk) (rs : List Cut) (m : Nat) (hac : Hw.Acc K.fCuts bl (rs.map Cut.cells).flatten 33 m 34) (hm : m ≤ 100000) (p : Option Addr) (k c : Nat) (xs : List UInt8) (hl : xs.length = k) (hp : p = none → k = 0) (hk : k ≤ 90000) : Meets Try.prog 32 [ptr n 3, .slice p k c, .func (.func 33) #[] #[]] (n :: bl.map (·.n)) (fun W => BlkOk W (KB n K) ∧ Lies bl W ∧ SeesP W p (bytesV xs) ∧ (0 < k → ∀ a, p = some a → a.block ∉ n :: bl.map (·.n)) ∧ ∀ b ∈ bl, b.n ≠ n) (fun v out => ∃ (s2 : Sl) (bl2 o : List Blk) (X : Cut), v = .bool (decide ((cutRd xs).2 = 0)) ∧ X.ok ∧ (∀ W2, Lies o W2 → CutIs W2 X (cutRd xs).1) ∧ ((¬ (cutRd xs).2 = 0 ∧ out = KB n K :: (bl ++ [])) ∨ ((cutRd xs).2 = 0 ∧ out = KB n { K with fCuts := s2 } :: (bl2 ++ (o ++ [])) ∧ Hw.Acc s2 bl2 ((rs ++ [X]).map Cut.cells).flatten 33 (m + 1) 34))) := by
  intro W hW
  refine calls_of (hp0 := KB n K :: (bl ++ [])) Try.func32 rfl 25 Try.ntmps32 rfl (take_hrep hac hW.1 hW.2.1 hW.2.2.2.2) ?_
  refine Sat.seq ?_
  refine Sat.region ?_
  refine Tr.assign rfl rfl rfl ?_
  refine Tr.nil ?_
  refine at_n ?_
  refine Sat.seq ?_
  refine Sat.region ?_
  refine Tr.move rfl rfl rfl ?_
  refine Tr.move rfl rfl rfl ?_
  refine Tr.call4 rfl rfl rfl rfl rfl Body33 (cut_read p k c xs hl hp hk) (fun w h => seesP_na0 h hW.2.2.1 hl hW.2.2.2.1) ?_
  rintro v12 out12 ⟨C12, okC, rfl, hC12⟩
  refine Tr.move rfl rfl rfl ?_
  refine Tr.extract rfl rfl rfl rfl ?_
  refine Tr.extract rfl rfl rfl rfl ?_
  refine Tr.alloc (cs := Cut.zero.cells) rfl Cut.zr rfl ?_
  intro n7 hn7 hf7
  refine Tr.storeAll rfl rfl rfl rfl (Cut.isCell (by first | exact oK  | exact hK | exact okC)) Sz33 (Cut.length (by first | exact oK  | exact hK | exact okC)) mM (Cut.length (by first | exact oK  | exact hK | exact okC)) uU ?_
  refine Tr.assign rfl rfl rfl ?_
  refine Tr.nil ?_
  refine at_n ?_
  refine Sat.seq ?_
  refine Sat.seq ?_
  refine Sat.region ?_
  refine Tr.move rfl rfl rfl ?_
  refine Tr.nei rfl rfl rfl rfl rfl ?_
  refine Tr.nil ?_
  refine at_n ?_
  first
    | refine Sat.condP rfl (fun hc0 => ?_) (fun hc0 => ?_)
    | refine Sat.condNP rfl (fun hc0 => ?_) (fun hc0 => ?_)
    | refine Sat.cond rfl (fun hc0 => ?_) (fun hc0 => ?_)
  ·
    refine Sat.seq ?_
    refine Sat.region ?_
    refine Tr.assign rfl rfl rfl ?_
    refine Tr.nil ?_
    refine at_n ?_
    refine Sat.ret ?_
    refine at_r ?_
    refine en_r ?_
    refine end_perm (out := (KB n K :: (bl ++ []))) (res_tmp rfl rfl) (pm_cons rM (pm_seg sG pm_nil)) ?_
    exact ⟨Sl.nil, [], out12, C12, by simp; omega, okC, hC12, .inl ⟨by omega, rfl⟩⟩
  ·
    refine Sat.skip ?_
    refine at_n ?_
    refine Sat.seq ?_
    refine Sat.draw [(0, 0), (0, 1), (0, 2), (1, 3), (1, 4), (2, 5), (4, 6), (0, 7), (4, 8)] Mixed (by kernel_rfl) ?_
    refine Tr.move rfl rfl rfl ?_
    refine Tr.move rfl rfl rfl ?_
    refine Tr.nilChk rfl rfl rfl ?_
    refine Tr.load1 rfl rfl rfl Try.underlying45 rfl mM (Kept.get_fCuts hK) ?_
    refine Tr.loadAll rfl rfl rfl Try.underlying33 rfl Sz33 mM (Cut.length (by first | exact oK  | exact hK | exact okC)) ?_
    refine Tr.mkRow2 (z := agg Cut.zero.cells) [agg C12.cells] C12.cells rfl rfl Try.underlying45 Sz33 Cut.zr rfl rfl (by intro v hv; rw [List.mem_singleton.1 hv]; exact Cut.length okC) dE (by simp [Value.cells]) ?_
    intro q22
    refine Tr.appendAcc (z := agg Cut.zero.cells) (by' := 64) (C12.cells) rfl rfl rfl rfl rfl Try.underlying45 Try.underlying45 Sz33 Zr33 (by unfold By; kernel_rfl) rfl hac sG (fun w h => SeesP.of (sees_own h mM)) (fun e => by cases e) (Cut.isCell okC) oM oM (by rw [Cut.length okC]) ?_
    intro s23 bl23 hac23
    refine Tr.nilChk rfl rfl rfl ?_
    refine Tr.store1 rfl rfl rfl rfl rfl Sz45 mM (by rw [Kept.length hK]; decide) (Kept.setS_fCuts hK _ _ _) uU ?_
    refine Tr.nil ?_
    refine at_n ?_
    refine Sat.seq ?_
    refine Sat.region ?_
    refine Tr.assign rfl rfl rfl ?_
    refine Tr.nil ?_
    refine at_n ?_
    refine Sat.ret ?_
    refine en_r ?_
    refine end_perm (out := (KB n { K with fCuts := s23 } :: (bl23 ++ (out12 ++ [])))) (res_tmp rfl rfl) (pm_cons rM (pm_seg sG (pm_seg sG pm_nil))) ?_
    exact ⟨s23, bl23, out12, C12, by simp; omega, okC, hC12, .inr ⟨by omega, rfl, by simpa using hac23⟩⟩

set_option maxRecDepth 100000 in
set_option maxHeartbeats 4000000 in
theorem take_cert (n : Nat) (K : Kept) (hK : K.ok) (bl : List Blk) (rs : List Cert) (m : Nat) (hac : Hw.Acc K.fCerts bl (rs.map Cert.cells).flatten 36 m 35) (hm : m ≤ 100000) (p : Option Addr) (k c : Nat) (xs : List UInt8) (hl : xs.length = k) (hp : p = none → k = 0) (hk : k ≤ 90000) : Meets Try.prog 28 [ptr n 1, .slice p k c, .func (.func 29) #[] #[]] (n :: bl.map (·.n)) (fun W => BlkOk W (KB n K) ∧ Lies bl W ∧ SeesP W p (bytesV xs) ∧ (0 < k → ∀ a, p = some a → a.block ∉ n :: bl.map (·.n)) ∧ ∀ b ∈ bl, b.n ≠ n) (fun v out => ∃ (s2 : Sl) (bl2 o : List Blk) (X : Cert), v = .bool (decide ((certRd xs).2 = 0)) ∧ X.ok ∧ (∀ W2, Lies o W2 → CertIs W2 X (certRd xs).1) ∧ ((¬ (certRd xs).2 = 0 ∧ out = KB n K :: (bl ++ [])) ∨ ((certRd xs).2 = 0 ∧ out = KB n { K with fCerts := s2 } :: (bl2 ++ (o ++ [])) ∧ Hw.Acc s2 bl2 ((rs ++ [X]).map Cert.cells).flatten 36 (m + 1) 35))) := by
  intro W hW
  refine calls_of (hp0 := KB n K :: (bl ++ [])) Try.func28 rfl 25 Try.ntmps28 rfl (take_hrep hac hW.1 hW.2.1 hW.2.2.2.2) ?_
  refine Sat.seq ?_
  refine Sat.region ?_
  refine Tr.assign rfl rfl rfl ?_
  refine Tr.nil ?_
  refine at_n ?_
  refine Sat.seq ?_
  refine Sat.region ?_
  refine Tr.move rfl rfl rfl ?_
  refine Tr.move rfl rfl rfl ?_
  refine Tr.call4 rfl rfl rfl rfl rfl Body29 (cert_read p k c xs hl hp hk) (fun w h => seesP_na0 h hW.2.2.1 hl hW.2.2.2.1) ?_
  rintro v12 out12 ⟨C12, okC, rfl, hC12⟩
  refine Tr.move rfl rfl rfl ?_
  refine Tr.extract rfl rfl rfl rfl ?_
  refine Tr.extract rfl rfl rfl rfl ?_
  refine Tr.alloc (cs := Cert.zero.cells) rfl Cert.zr rfl ?_
  intro n7 hn7 hf7
  refine Tr.storeAll rfl rfl rfl rfl (Cert.isCell (by first | exact oK  | exact hK | exact okC)) Sz36 (Cert.length (by first | exact oK  | exact hK | exact okC)) mM (Cert.length (by first | exact oK  | exact hK | exact okC)) uU ?_
  refine Tr.assign rfl rfl rfl ?_
  refine Tr.nil ?_
  refine at_n ?_
  refine Sat.seq ?_
  refine Sat.seq ?_
  refine Sat.region ?_
  refine Tr.move rfl rfl rfl ?_
  refine Tr.nei rfl rfl rfl rfl rfl ?_
  refine Tr.nil ?_
  refine at_n ?_
  first
    | refine Sat.condP rfl (fun hc0 => ?_) (fun hc0 => ?_)
    | refine Sat.condNP rfl (fun hc0 => ?_) (fun hc0 => ?_)
    | refine Sat.cond rfl (fun hc0 => ?_) (fun hc0 => ?_)
  ·
    refine Sat.seq ?_
    refine Sat.region ?_
    refine Tr.assign rfl rfl rfl ?_
    refine Tr.nil ?_
    refine at_n ?_
    refine Sat.ret ?_
    refine at_r ?_
    refine en_r ?_
    refine end_perm (out := (KB n K :: (bl ++ []))) (res_tmp rfl rfl) (pm_cons rM (pm_seg sG pm_nil)) ?_
    exact ⟨Sl.nil, [], out12, C12, by simp; omega, okC, hC12, .inl ⟨by omega, rfl⟩⟩
  ·
    refine Sat.skip ?_
    refine at_n ?_
    refine Sat.seq ?_
    refine Sat.draw [(0, 0), (0, 1), (0, 2), (1, 3), (1, 4), (2, 5), (4, 6), (0, 7), (4, 8)] Mixed (by kernel_rfl) ?_
    refine Tr.move rfl rfl rfl ?_
    refine Tr.move rfl rfl rfl ?_
    refine Tr.nilChk rfl rfl rfl ?_
    refine Tr.load1 rfl rfl rfl Try.underlying43 rfl mM (Kept.get_fCerts hK) ?_
    refine Tr.loadAll rfl rfl rfl Try.underlying36 rfl Sz36 mM (Cert.length (by first | exact oK  | exact hK | exact okC)) ?_
    refine Tr.mkRow2 (z := agg Cert.zero.cells) [agg C12.cells] C12.cells rfl rfl Try.underlying43 Sz36 Cert.zr rfl rfl (by intro v hv; rw [List.mem_singleton.1 hv]; exact Cert.length okC) dE (by simp [Value.cells]) ?_
    intro q22
    refine Tr.appendAcc (z := agg Cert.zero.cells) (by' := 88) (C12.cells) rfl rfl rfl rfl rfl Try.underlying43 Try.underlying43 Sz36 Zr36 (by unfold By; kernel_rfl) rfl hac sG (fun w h => SeesP.of (sees_own h mM)) (fun e => by cases e) (Cert.isCell okC) oM oM (by rw [Cert.length okC]) ?_
    intro s23 bl23 hac23
    refine Tr.nilChk rfl rfl rfl ?_
    refine Tr.store1 rfl rfl rfl rfl rfl Sz43 mM (by rw [Kept.length hK]; decide) (Kept.setS_fCerts hK _ _ _) uU ?_
    refine Tr.nil ?_
    refine at_n ?_
    refine Sat.seq ?_
    refine Sat.region ?_
    refine Tr.assign rfl rfl rfl ?_
    refine Tr.nil ?_
    refine at_n ?_
    refine Sat.ret ?_
    refine en_r ?_
    refine end_perm (out := (KB n { K with fCerts := s23 } :: (bl23 ++ (out12 ++ [])))) (res_tmp rfl rfl) (pm_cons rM (pm_seg sG (pm_seg sG pm_nil))) ?_
    exact ⟨s23, bl23, out12, C12, by simp; omega, okC, hC12, .inr ⟨by omega, rfl, by simpa using hac23⟩⟩

set_option maxRecDepth 100000 in
set_option maxHeartbeats 4000000 in
theorem take_block (n : Nat) (K : Kept) (hK : K.ok) (bl : List Blk) (rs : List Block) (m : Nat) (hac : Hw.Acc K.fBlocks bl (rs.map Block.cells).flatten 31 m 131) (hm : m ≤ 100000) (p : Option Addr) (k c : Nat) (xs : List UInt8) (hl : xs.length = k) (hp : p = none → k = 0) (hk : k ≤ 90000) : Meets Try.prog 26 [ptr n 0, .slice p k c, .func (.func 27) #[] #[]] (n :: bl.map (·.n)) (fun W => BlkOk W (KB n K) ∧ Lies bl W ∧ SeesP W p (bytesV xs) ∧ (0 < k → ∀ a, p = some a → a.block ∉ n :: bl.map (·.n)) ∧ ∀ b ∈ bl, b.n ≠ n) (fun v out => ∃ (s2 : Sl) (bl2 o : List Blk) (X : Block), v = .bool (decide ((readD xs).2 = 0)) ∧ X.ok ∧ (∀ W2, Lies o W2 → BlockIs W2 X (readD xs).1) ∧ ((¬ (readD xs).2 = 0 ∧ out = KB n K :: (bl ++ [])) ∨ ((readD xs).2 = 0 ∧ out = KB n { K with fBlocks := s2 } :: (bl2 ++ (o ++ [])) ∧ Hw.Acc s2 bl2 ((rs ++ [X]).map Block.cells).flatten 31 (m + 1) 131))) := by
  intro W hW
  refine calls_of (hp0 := KB n K :: (bl ++ [])) Try.func26 rfl 25 Try.ntmps26 rfl (take_hrep hac hW.1 hW.2.1 hW.2.2.2.2) ?_
  refine Sat.seq ?_
  refine Sat.region ?_
  refine Tr.assign rfl rfl rfl ?_
  refine Tr.nil ?_
  refine at_n ?_
  refine Sat.seq ?_
  refine Sat.region ?_
  refine Tr.move rfl rfl rfl ?_
  refine Tr.move rfl rfl rfl ?_
  refine Tr.call4 rfl rfl rfl rfl rfl Body27 (block_read p k c xs hl hp hk) (fun w h => seesP_na0 h hW.2.2.1 hl hW.2.2.2.1) ?_
  rintro v12 out12 ⟨C12, okC, rfl, hC12⟩
  refine Tr.move rfl rfl rfl ?_
  refine Tr.extract rfl rfl rfl rfl ?_
  refine Tr.extract rfl rfl rfl rfl ?_
  refine Tr.alloc (cs := Block.zero.cells) rfl Block.zr rfl ?_
  intro n7 hn7 hf7
  refine Tr.storeAll rfl rfl rfl rfl (Block.isCell (by first | exact oK  | exact hK | exact okC)) Sz31 (Block.length (by first | exact oK  | exact hK | exact okC)) mM (Block.length (by first | exact oK  | exact hK | exact okC)) uU ?_
  refine Tr.assign rfl rfl rfl ?_
  refine Tr.nil ?_
  refine at_n ?_
  refine Sat.seq ?_
  refine Sat.seq ?_
  refine Sat.region ?_
  refine Tr.move rfl rfl rfl ?_
  refine Tr.nei rfl rfl rfl rfl rfl ?_
  refine Tr.nil ?_
  refine at_n ?_
  first
    | refine Sat.condP rfl (fun hc0 => ?_) (fun hc0 => ?_)
    | refine Sat.condNP rfl (fun hc0 => ?_) (fun hc0 => ?_)
    | refine Sat.cond rfl (fun hc0 => ?_) (fun hc0 => ?_)
  ·
    refine Sat.seq ?_
    refine Sat.region ?_
    refine Tr.assign rfl rfl rfl ?_
    refine Tr.nil ?_
    refine at_n ?_
    refine Sat.ret ?_
    refine at_r ?_
    refine en_r ?_
    refine end_perm (out := (KB n K :: (bl ++ []))) (res_tmp rfl rfl) (pm_cons rM (pm_seg sG pm_nil)) ?_
    exact ⟨Sl.nil, [], out12, C12, by simp; omega, okC, hC12, .inl ⟨by omega, rfl⟩⟩
  ·
    refine Sat.skip ?_
    refine at_n ?_
    refine Sat.seq ?_
    refine Sat.draw [(0, 0), (0, 1), (0, 2), (1, 3), (1, 4), (2, 5), (4, 6), (0, 7), (4, 8)] Mixed (by kernel_rfl) ?_
    refine Tr.move rfl rfl rfl ?_
    refine Tr.move rfl rfl rfl ?_
    refine Tr.nilChk rfl rfl rfl ?_
    refine Tr.load1 rfl rfl rfl Try.underlying41 rfl mM (Kept.get_fBlocks hK) ?_
    refine Tr.loadAll rfl rfl rfl Try.underlying31 rfl Sz31 mM (Block.length (by first | exact oK  | exact hK | exact okC)) ?_
    refine Tr.mkRow2 (z := agg Block.zero.cells) [agg C12.cells] C12.cells rfl rfl Try.underlying41 Sz31 Block.zr rfl rfl (by intro v hv; rw [List.mem_singleton.1 hv]; exact Block.length okC) dE (by simp [Value.cells]) ?_
    intro q22
    refine Tr.appendAcc (z := agg Block.zero.cells) (by' := 184) (C12.cells) rfl rfl rfl rfl rfl Try.underlying41 Try.underlying41 Sz31 Zr31 (by unfold By; kernel_rfl) rfl hac sG (fun w h => SeesP.of (sees_own h mM)) (fun e => by cases e) (Block.isCell okC) oM oM (by rw [Block.length okC]) ?_
    intro s23 bl23 hac23
    refine Tr.nilChk rfl rfl rfl ?_
    refine Tr.store1 rfl rfl rfl rfl rfl Sz41 mM (by rw [Kept.length hK]; decide) (Kept.setS_fBlocks hK _ _ _) uU ?_
    refine Tr.nil ?_
    refine at_n ?_
    refine Sat.seq ?_
    refine Sat.region ?_
    refine Tr.assign rfl rfl rfl ?_
    refine Tr.nil ?_
    refine at_n ?_
    refine Sat.ret ?_
    refine en_r ?_
    refine end_perm (out := (KB n { K with fBlocks := s23 } :: (bl23 ++ (out12 ++ [])))) (res_tmp rfl rfl) (pm_cons rM (pm_seg sG (pm_seg sG pm_nil))) ?_
    exact ⟨s23, bl23, out12, C12, by simp; omega, okC, hC12, .inr ⟨by omega, rfl, by simpa using hac23⟩⟩

end Go.Proofs.Ytlgbmfokgnoocaa
end
