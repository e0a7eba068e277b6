/- headwaterlaw26.KeepCalls returns true at every input, and all that it reads reads behind the call as before. Conditions: none beyond the given statement's own. -/
import Derived.WalkKit
import Derived.Orders
import Derived.Deep.LoopGhost
import Derived.IntWalk
import Derived.Laws.StructEq
import Derived.ArgAppend
import Derived.Deep.AppendSrc
import Derived.Lib.Bytealg
import Derived.Lib.BytesEntry
import Derived.Laws.IdiomStrings
import Derived.WideKeyArr2
import Derived.ProofKit
import Derived.OpenShut
import Derived.Deep.Slices
import Derived.Laws.Pointers
import Derived.Laws.Cover3
import Derived.LaidEqlPtr
import Derived.LoopN
import Derived.RangeFuncLeaves
import Derived.RangeFuncSeq
import Derived.OrdersIn
import Derived.Test.YtdifpjmfabhpiaaGreatRows
import Derived.KernelRfl
import Derived.Laws.Externs
import Derived.Defers
import Derived.Laws.MathBits
import Derived.ChangeOld
import Derived.Below
import Derived.Test.YtdifpjmfabhpiaaGreatKClD5
set_option maxRecDepth 100000
set_option maxHeartbeats 8000000
set_option linter.unusedVariables false
set_option linter.unusedSimpArgs false
section
namespace Go.Proofs.YtdifpjmfabhpiaaGreat
open Go Hw

def JR (ds : List DRecord) (i : Nat) (pe : Int × KSt) : Prop := (pe.1 = 0 → (KInv ds pe.2 ∧ inOrd pe.2.D.dCerts = true) ∧ pe.2.i = i + 1) ∧ (¬ pe.1 = 0 → keepRd ds = (dkz, 4))
theorem jr_of {ds : List DRecord} {i : Nat} {e : Int} {q : KSt} (h : JI ds i (decide (e = 0), q)) (ho : e = 0 → inOrd q.D.dCerts = true) : JR ds i (e, q) :=
  ⟨fun h0 => ⟨⟨(h.1 (decide_eq_true h0)).1, ho h0⟩, (h.1 (decide_eq_true h0)).2⟩, fun h1 => keepRd_bad (h.2 (decide_eq_false h1))⟩
theorem ord_bad {ds : List DRecord} {j : Nat} {Q : DKept} (h : keepR (ds.take j) = some Q) (ho : inOrd Q.dCerts = false) : keepRd ds = (dkz, 4) := by
  cases hE : keepR ds with
  | none => exact keepRd_bad hE
  | some E =>
    obtain ⟨Q2, q1, q2, _⟩ := keepR_pre (a := ds.take j) (b := ds.drop j) (D := E) (by rw [List.take_append_drop]; exact hE)
    rw [h] at q1
    cases q1
    exact keepRd_ord hE (Bool.eq_false_iff.2 fun h2 => by rw [inOrd_pre q2.e h2] at ho; cases ho)
theorem jr_ord {ds : List DRecord} {i : Nat} {e : Int} {q : KSt} (h : JI ds i (decide (e = 0), q)) (h0 : e = 0) (ho : inOrd q.D.dCerts = false) : JR ds i (4, q) :=
  ⟨fun h1 => absurd h1 (show ¬ (4 : Int) = 0 by decide), fun _ => ord_bad (h.1 (decide_eq_true h0)).1.fold ho⟩
theorem jr_skip {ds : List DRecord} {i : Nat} {q : KSt} {b : Bool} (h : JI ds i (b, q)) (hb : b = false) : JR ds i (4, q) :=
  ⟨fun h1 => absurd h1 (show ¬ (4 : Int) = 0 by decide), fun _ => keepRd_bad (h.2 hb)⟩
theorem getD_snoc {ds : List DCert} {c : DCert} {j : Nat} : (ds ++ [c]).getD j dcertz = if j < ds.length then ds.getD j dcertz else if j = ds.length then c else dcertz := by
  simp only [List.getD_eq_getElem?_getD]
  split
  · rw [List.getElem?_append_left zA]
  · rw [List.getElem?_append_right oM]
    split
    · rename_i h; rw [h]; simp
    · rw [List.getElem?_eq_none (by simp; omega)]; rfl
theorem inOrd_snoc {ds : List DCert} {c : DCert} (h : inOrd ds = true) (hc : c.dCut.dHeight.toNat = ds.length + 1) : inOrd (ds ++ [c]) = true := by
  refine inOrd_yes (n := ds.length + 1) sP fun j hj => ?_
  rw [getD_snoc]
  split
  · rename_i hl
    unfold inOrd at h
    exact of_decide_eq_true (List.all_eq_true.1 h j (List.mem_range.2 hl))
  · rw [if_pos oM, hc]; omega
theorem inOrd_badc {ds : List DCert} {c : DCert} (hc : ¬ c.dCut.dHeight.toNat = ds.length + 1) : inOrd (ds ++ [c]) = false :=
  inOrd_not (k := ds.length) sP (by rw [getD_snoc, if_neg oM, if_pos rfl]; exact hc)
theorem certread_hgt {xs : List UInt8} (v : Value) (out : List Blk) (w : World) (h : CertRead xs v out) (hl : Lies out w) : ∃ C : Cert, C.ok ∧ v = .tuple #[agg C.cells, i64 (Bj xs).2] ∧ C.fCut.fHeight = (Bj xs).1.dCut.dHeight ∧ ∀ W2, Lies out W2 → CertIs W2 C (Bj xs).1 := by
  obtain ⟨C, ok, e, hx⟩ := h
  exact ⟨C, ok, e, (hx w hl).fCut.fHeight, hx⟩
theorem accX {R : Type} {cells : R → List Value} {s : Sl} {bl : List Blk} {rs : List R} {X : R} {E : TypeId} {n k : Nat} (h : Hw.Acc s bl ((rs.map cells).flatten ++ cells X) E n k) : Hw.Acc s bl ((rs ++ [X]).map cells).flatten E n k := by
  rw [List.map_append, List.flatten_append]; simpa using h

theorem r26_Read (s : Sl) (ds : List DRecord) (hsn : s.n ≤ 1000) (hsm : ∀ d ∈ ds, d.dData.length ≤ 90000) : Meets Tryz.prog 58 [s.v] [] (fun W => RecordsAt W s ds) (KeepRead ds) := by
 intro W hW
 obtain ⟨rs, hs⟩ := hW
 have hnd := hs.nd
 refine Ag Tryz.func58 J 106 Tryz.ntmps58 J (G2 ?_)
 refine .alloc (cs := Kept.zero.cells) J Kept.zr J ?_
 intro n2 hn2 hf2
 refine G5 ?_
 refine .alloc (cs := Kept.zero.cells) J Kept.zr J ?_
 intro n4 hn4 hf4
 refine G9 ?_
 refine .loop (ι := KSt) (fun p => ⟨[(0, s.v), (2, ptr n2 0), (4, ptr n4 0), (5, i64 (p.i : Int))], (⟨n4, p.K.cells, 27, 4⟩ :: (⟨n2, Kept.zero.cells, 27, 4⟩ :: (p.b1 ++ (p.o1 ++ (p.b2 ++ (p.o2 ++ (p.b3 ++ (p.b4 ++ (p.o4 ++ [])))))))))⟩) (fun p => KInv ds p ∧ inOrd p.D.dCerts = true ∧ p.i ≤ s.n) (fun p => s.n - p.i) (ks0) ?_ ?_ ?_
 · exact ⟨KInv.first ds, rfl, Nat.zero_le _⟩
 · exact Af (wk1 rfl (wk1 rfl (wk1 rfl (wk1 rfl wk0)))) (Ac rM (Ac rM (Bh (Bh (Bh (Bh (Bh (Bh (Bh Ae)))))))))
 rintro p ⟨hi, ho, hile⟩
 obtain ⟨i, K, D, m1, m2, m3, m4, b1, o1, r1, b2, o2, r2, b3, r3, b4, o4, r4⟩ := p
 have hle := hi.le
 have hq1 := hi.q1
 have hq2 := hi.q2
 have hq3 := hi.q3
 have hq4 := hi.q4
 dsimp only at hile hle ho hq1 hq2 hq3 hq4 ⊢
 refine G9 ?_
 refine .condP J (fun hc0 => ?_) (fun hc0 => ?_)
 ·
  have hk0 : i < s.n := by omega
  obtain ⟨b, o, r, d, hsp, hr, hd, his, hlen, hsee⟩ := hs.at dE hk0
  have okr := his.ok
  refine G9 ?_
  refine .join (ι := Int × KSt) (fun pe => ⟨[(0, s.v), (2, ptr n2 0), (4, ptr n4 0), (5, i64 (i : Int)), (6, i64 pe.1)], (⟨n4, pe.2.K.cells, 27, 4⟩ :: (⟨n2, Kept.zero.cells, 27, 4⟩ :: (pe.2.b1 ++ (pe.2.o1 ++ (pe.2.b2 ++ (pe.2.o2 ++ (pe.2.b3 ++ (pe.2.b4 ++ (pe.2.o4 ++ [])))))))))⟩) (fun pe => JR ds i pe) ?_ ?_
  ·
   refine G4 ?_
   refine .idxSlP 2 J J J hsp J Y28.h Sz91 i J oM (G1 ?_)
   refine .loadE J J J Y5.h J sP (hsee 0 _ (Record.get_fKind okr)) (G9 ?_)
   refine .condP J (fun hc1 => ?_) (fun hc1 => ?_)
   ·
    have hk1 : d.dKind = 1 := kind_of (n := 1) his.fKind dE hc1
    refine G2 ?_
    refine .alloc (cs := Block.zero.cells) J Block.zr J ?_
    intro n7 hn7 hf7
    refine G6 ?_
    refine .idxSlP 2 J J J hsp J Y28.h Sz91 i J oM (G1 ?_)
    refine .loadE J J J Y58.h J sP (hsee 1 _ (Record.get_fData okr)) (.call4 J J J J J Body153 (r15_Read r.fData.p r.fData.n r.fData.c d.dData his.fData.len (fun e => by have := his.fData.nil e; have := his.fData.cap; omega) (by rw [← his.fData.len]; exact hsm d (List.mem_of_getElem? hd))) (fun w h => Ao h J his.fData.see) ?_)
    rintro v30 out30 ⟨B30, ok30, rfl, h30⟩
    refine G3 ?_
    refine .sA J J J J (Block.isCell zA) Sz79 (Block.length zA) mR (Block.length (by exact Block.zero_ok)) (by (repeat (first | exact upd0 | apply Upd.seg))) ?_
    refine G5 ?_
    refine .load1 J J J Y22.h J mR (by exact Kept.get_fBlocks (by exact hi.ok)) ?_
    refine G1 ?_
    refine .mkRow2 (z := agg Block.zero.cells) [agg B30.cells] B30.cells J J Y22.h Sz79 Block.zr J J (by intro v hv; rw [List.mem_singleton.1 hv]; exact Block.length ok30) dE (by simp [Value.cells]) ?_
    intro q36
    refine .appendAcc (z := agg Block.zero.cells) (by' := 184) (B30.cells) J J J J J Y22.h Y22.h Sz79 Block.zr (by unfold By; kernel_rfl) J hq1.acc sG (fun w h => SeesP.of (Aj h Z0)) (fun e => by cases e) (Block.isCell ok30) oM oM (by rw [Block.length ok30]) ?_
    intro s37 bl37 hac37
    refine G1 ?_
    refine .s1 J J J J J Sz22 mR (by rw [Kept.length (by exact hi.ok)]; decide) (by exact Kept.set_fBlocks (by exact hi.ok) _) uU ?_
    refine G3 ?_
    exact ⟨((B3 d.dData).2, ⟨i + 1, { K with fBlocks := s37 }, { D with dBlocks := D.dBlocks ++ [(B3 d.dData).1] }, m1 + 1, m2, m3, m4, bl37, out30 ++ o1, r1 ++ [B30], b2, o2, r2, b3, r3, b4, o4, r4⟩), jr_of (hi.j1 hd hk1 h30 (Block.length ok30) (fun _ => ⟨rfl, rfl, rfl, accX hac37⟩)) (fun _ => ho), Af (wk1 rfl (wk1 rfl (wk1 rfl (wk1 rfl (wk1 rfl wk0))))) (Ac rM (Ac rM (Ab sG (Br (Ab sG (Ab sG (Ab sG (Ab sG (Ab sG (Ab sG (Ab sG Ae)))))))))))⟩
   have hno1 : ¬ d.dKind = 1 := kind_no (n := 1) his.fKind dE hc1
   refine G6 ?_
   refine .condP J (fun hc2 => ?_) (fun hc2 => ?_)
   ·
    have hk2 : d.dKind = 2 := kind_of (n := 2) his.fKind dE hc2
    refine G2 ?_
    refine .alloc (cs := Cert.zero.cells) J Cert.zr J ?_
    intro n8 hn8 hf8
    refine G6 ?_
    refine .idxSlP 2 J J J hsp J Y28.h Sz91 i J oM (G1 ?_)
    refine .loadE J J J Y58.h J sP (hsee 1 _ (Record.get_fData okr)) (.call4 J J J J J Body41 (meets_know (r25_ReadCert r.fData.p r.fData.n r.fData.c d.dData his.fData.len (fun e => by have := his.fData.nil e; have := his.fData.cap; omega) (by rw [← his.fData.len]; exact hsm d (List.mem_of_getElem? hd))) certread_hgt) (fun w h => Ao h J his.fData.see) ?_)
    rintro v47 out47 ⟨C47, ok47, rfl, g47, h47⟩
    refine G3 ?_
    refine .sA J J J J (Cert.isCell zA) Sz55 (Cert.length zA) mR (Cert.length (by exact Cert.zero_ok)) (by (repeat (first | exact upd0 | apply Upd.seg))) ?_
    refine G6 ?_
    refine .load1 J J J Y23.h J mR (by exact Kept.get_fCerts (by exact hi.ok)) ?_
    refine G1 ?_
    refine .mkRow2 (z := agg Cert.zero.cells) [agg C47.cells] C47.cells J J Y23.h Sz55 Cert.zr J J (by intro v hv; rw [List.mem_singleton.1 hv]; exact Cert.length ok47) dE (by simp [Value.cells]) ?_
    intro q53
    refine .appendAcc (z := agg Cert.zero.cells) (by' := 88) (C47.cells) J J J J J Y23.h Y23.h Sz55 Cert.zr (by unfold By; kernel_rfl) J hq2.acc sG (fun w h => SeesP.of (Aj h Z0)) (fun e => by cases e) (Cert.isCell ok47) oM oM (by rw [Cert.length ok47]) ?_
    intro s54 bl54 hac54
    refine G1 ?_
    refine .s1 J J J J J Sz23 mR (by rw [Kept.length (by exact hi.ok)]; decide) (by exact Kept.set_fCerts (by exact hi.ok) _) uU ?_
    refine G4 ?_
    have hw54 : (A8 (s54.n : Int)).toNat = m2 + 1 := by rw [hac54.num, word_nat oM, Bc oM]
    have gh : C47.fCut.fHeight.toNat = (Bj d.dData).1.dCut.dHeight.toNat := by rw [g47]
    refine G1 ?_
    refine two (fun r hr k => Tr.eqi J J J J hr k) (fun hs15_10 => ?_) (fun hs15_10 => ?_)
    ·
     have hs15_1 := of_decide_eq_true hs15_10
     refine G3 ?_
     refine .load1 J J J Y48.h J mR (Cert.see_fCut ok47 0 _ (Cut.get_fHeight ok47.o_fCut)) ?_
     refine G1 ?_
     refine .load1 J J J Y23.h J mR (by exact Kept.get_fCerts (by exact ⟨trivial⟩)) ?_
     refine G6 ?_
     refine .condNP J (fun hc3 => ?_) (fun hc3 => ?_)
     ·
      try dsimp only at hc3
      refine G5 ?_
      exact ⟨(4, ⟨i + 1, { K with fCerts := s54 }, { D with dCerts := D.dCerts ++ [(Bj d.dData).1] }, m1, m2 + 1, m3, m4, b1, o1, r1, bl54, out47 ++ o2, r2 ++ [C47], b3, r3, b4, o4, r4⟩), jr_ord (hi.j2 hd hk2 h47 (Cert.length ok47) (fun _ => ⟨rfl, rfl, rfl, accX hac54⟩)) oM (inOrd_badc (by have := hi.q2.nd; dsimp only at this; omega)), Af (wk1 rfl (wk1 rfl (wk1 rfl (wk1 rfl (wk1 rfl wk0))))) (Ac rM (Ac rM (Ab sG (Ab sG (Ab sG (Br (Ab sG (Ab sG (Ab sG (Ab sG (Ab sG Ae)))))))))))⟩
     try dsimp only at hc3
     refine G3 ?_
     exact ⟨((Bj d.dData).2, ⟨i + 1, { K with fCerts := s54 }, { D with dCerts := D.dCerts ++ [(Bj d.dData).1] }, m1, m2 + 1, m3, m4, b1, o1, r1, bl54, out47 ++ o2, r2 ++ [C47], b3, r3, b4, o4, r4⟩), jr_of (hi.j2 hd hk2 h47 (Cert.length ok47) (fun _ => ⟨rfl, rfl, rfl, accX hac54⟩)) (fun h0 => inOrd_snoc ho (by have := hi.q2.nd; dsimp only at this; omega)), Af (wk1 rfl (wk1 rfl (wk1 rfl (wk1 rfl (wk1 rfl wk0))))) (Ac rM (Ac rM (Ab sG (Ab sG (Ab sG (Br (Ab sG (Ab sG (Ab sG (Ab sG (Ab sG Ae)))))))))))⟩
    have hs15_1 := of_decide_eq_false hs15_10
    refine G12 ?_
    refine .cond_f J J (G3 ?_)
    exact ⟨((Bj d.dData).2, ⟨i + 1, { K with fCerts := s54 }, { D with dCerts := D.dCerts ++ [(Bj d.dData).1] }, m1, m2 + 1, m3, m4, b1, o1, r1, bl54, out47 ++ o2, r2 ++ [C47], b3, r3, b4, o4, r4⟩), jr_of (hi.j2 hd hk2 h47 (Cert.length ok47) (fun _ => ⟨rfl, rfl, rfl, accX hac54⟩)) (fun h0 => inOrd_snoc ho (by have := hi.q2.nd; dsimp only at this; omega)), Af (wk1 rfl (wk1 rfl (wk1 rfl (wk1 rfl (wk1 rfl wk0))))) (Ac rM (Ac rM (Ab sG (Ab sG (Ab sG (Br (Ab sG (Ab sG (Ab sG (Ab sG (Ab sG Ae)))))))))))⟩
   have hno2 : ¬ d.dKind = 2 := kind_no (n := 2) his.fKind dE hc2
   refine G6 ?_
   refine .condP J (fun hc4 => ?_) (fun hc4 => ?_)
   ·
    have hk3 : d.dKind = 3 := kind_of (n := 3) his.fKind dE hc4
    refine G2 ?_
    refine .alloc (cs := Vote.zero.cells) J Vote.zr J ?_
    intro n9 hn9 hf9
    refine G6 ?_
    refine .idxSlP 2 J J J hsp J Y28.h Sz91 i J oM (G1 ?_)
    refine .loadE J J J Y58.h J sP (hsee 1 _ (Record.get_fData okr)) (.cV J J J J Body139 (r20_Read r.fData.p r.fData.n r.fData.c d.dData his.fData.len (fun e => by have := his.fData.nil e; have := his.fData.cap; omega) (by rw [← his.fData.len]; exact hsm d (List.mem_of_getElem? hd))) (fun w h => Ao h J his.fData.see) ?_)
    refine G3 ?_
    refine .sA J J J J (Vote.isCell (by exact Be _)) Sz81 (Vote.length (by exact Be _)) Z0 (Vote.length zT) zU ?_
    refine G5 ?_
    refine .load1 J J J Y24.h J Z1 (by exact Kept.get_fVotes (by exact hi.ok)) ?_
    refine .lA J J J Y81.h J Sz81 Z0 (Vote.length (by exact Be _)) ?_
    refine .mkRow2 (z := agg Vote.zero.cells) [agg (A1 d.dData).1.cells] (A1 d.dData).1.cells J J Y24.h Sz81 Vote.zr J J (by intro v hv; rw [List.mem_singleton.1 hv]; exact Vote.length (Be _)) dE (by simp [Value.cells]) ?_
    intro q82
    refine .appendAcc (z := agg Vote.zero.cells) (by' := 160) ((A1 d.dData).1.cells) J J J J J Y24.h Y24.h Sz81 Vote.zr (by unfold By; kernel_rfl) J hq3.acc sG (fun w h => SeesP.of (Aj h Z0)) (fun e => by cases e) (Vote.isCell (Be _)) oM oM (by rw [Vote.length (Be _)]) ?_
    intro s83 bl83 hac83
    refine G1 ?_
    refine .s1 J J J J J Sz24 mR (by rw [Kept.length (by exact hi.ok)]; decide) (by exact Kept.set_fVotes (by exact hi.ok) _) uU ?_
    refine G3 ?_
    exact ⟨((A1 d.dData).2, ⟨i + 1, { K with fVotes := s83 }, { D with dVotes := D.dVotes ++ [(A1 d.dData).1] }, m1, m2, m3 + 1, m4, b1, o1, r1, b2, o2, r2, bl83, r3 ++ [(A1 d.dData).1], b4, o4, r4⟩), jr_of (hi.j3 hd hk3 (fun W2 _ => voteRd_is _ W2) (Vote.length (Be _)) (fun _ => ⟨rfl, rfl, accX hac83⟩)) (fun _ => ho), Af (wk1 rfl (wk1 rfl (wk1 rfl (wk1 rfl (wk1 rfl wk0))))) (Ac rM (Ac rM (Ab sG (Ab sG (Ab sG (Ab sG (Ab sG (Ab sG (Ab sG Ae)))))))))⟩
   have hno3 : ¬ d.dKind = 3 := kind_no (n := 3) his.fKind dE hc4
   refine G6 ?_
   refine .condP J (fun hc5 => ?_) (fun hc5 => ?_)
   ·
    have hk4 : d.dKind = 4 := kind_of (n := 4) his.fKind dE hc5
    refine G2 ?_
    refine .alloc (cs := Cut.zero.cells) J Cut.zr J ?_
    intro n10 hn10 hf10
    refine G6 ?_
    refine .idxSlP 2 J J J hsp J Y28.h Sz91 i J oM (G1 ?_)
    refine .loadE J J J Y58.h J sP (hsee 1 _ (Record.get_fData okr)) (.call4 J J J J J Body136 (r19_Read r.fData.p r.fData.n r.fData.c d.dData his.fData.len (fun e => by have := his.fData.nil e; have := his.fData.cap; omega) (by rw [← his.fData.len]; exact hsm d (List.mem_of_getElem? hd))) (fun w h => Ao h J his.fData.see) ?_)
    rintro v93 out93 ⟨U93, ok93, rfl, h93⟩
    refine G3 ?_
    refine .sA J J J J (Cut.isCell zA) Sz53 (Cut.length zA) mR (Cut.length (by exact Cut.zero_ok)) (by (repeat (first | exact upd0 | apply Upd.seg))) ?_
    refine G5 ?_
    refine .load1 J J J Y25.h J mR (by exact Kept.get_fCuts (by exact hi.ok)) ?_
    refine G1 ?_
    refine .mkRow2 (z := agg Cut.zero.cells) [agg U93.cells] U93.cells J J Y25.h Sz53 Cut.zr J J (by intro v hv; rw [List.mem_singleton.1 hv]; exact Cut.length ok93) dE (by simp [Value.cells]) ?_
    intro q99
    refine .appendAcc (z := agg Cut.zero.cells) (by' := 64) (U93.cells) J J J J J Y25.h Y25.h Sz53 Cut.zr (by unfold By; kernel_rfl) J hq4.acc sG (fun w h => SeesP.of (Aj h Z0)) (fun e => by cases e) (Cut.isCell ok93) oM oM (by rw [Cut.length ok93]) ?_
    intro s100 bl100 hac100
    refine G1 ?_
    refine .s1 J J J J J Sz25 mR (by rw [Kept.length (by exact hi.ok)]; decide) (by exact Kept.set_fCuts (by exact hi.ok) _) uU ?_
    refine G3 ?_
    exact ⟨((Bk d.dData).2, ⟨i + 1, { K with fCuts := s100 }, { D with dCuts := D.dCuts ++ [(Bk d.dData).1] }, m1, m2, m3, m4 + 1, b1, o1, r1, b2, o2, r2, b3, r3, bl100, out93 ++ o4, r4 ++ [U93]⟩), jr_of (hi.j4 hd hk4 h93 (Cut.length ok93) (fun _ => ⟨rfl, rfl, rfl, accX hac100⟩)) (fun _ => ho), Af (wk1 rfl (wk1 rfl (wk1 rfl (wk1 rfl (wk1 rfl wk0))))) (Ac rM (Ac rM (Ab sG (Ab sG (Ab sG (Ab sG (Ab sG (Ab sG (Br (Ab sG (Ab sG Ae)))))))))))⟩
   have hno4 : ¬ d.dKind = 4 := kind_no (n := 4) his.fKind dE hc5
   refine G3 ?_
   exact ⟨(4, ⟨i, K, D, m1, m2, m3, m4, b1, o1, r1, b2, o2, r2, b3, r3, b4, o4, r4⟩), jr_skip (hi.skip hd hno1 hno2 hno3 hno4) rfl, Af (wk1 rfl (wk1 rfl (wk1 rfl (wk1 rfl (wk1 rfl wk0))))) (Ac rM (Ac rM (Ab sG (Ab sG (Ab sG (Ab sG (Ab sG (Ab sG (Ab sG Ae)))))))))⟩
  intro pe hj
  skip
  refine G6 ?_
  refine .condNP J (fun hc6 => ?_) (fun hc6 => ?_)
  ·
   have hbad := hj.2 oM
   refine G2 ?_
   refine .build (cs := Kept.zero.cells) J J J (fun w => by kernel_rfl) ?_
   refine G11 ?_
   refine Ah (out := []) (Am J J J Y27.h J Sz27 Z1 (by exact Kept.length (by exact Kept.zero_ok))) Ae ?_
   exact keep_bad hbad
  have hj2 := hj.1 oM
  refine G9 ?_
  exact ⟨pe.2, ⟨hj2.1.1, hj2.1.2, by omega⟩, by omega, Af (wk1 rfl (wk1 rfl (wk1 rfl (wk1 (congrArg (fun z : Nat => some (i64 (z : Int))) hj2.2.symm) wk0)))) (Ac rM (Ac rM (Ab sG (Ab sG (Ab sG (Ab sG (Ab sG (Ab sG (Ab sG Ae)))))))))⟩
 have hie : i = s.n := by omega
 refine G7 ?_
 refine .lA J J J Y27.h J Sz27 Z0 (Kept.length (by exact hi.ok)) ?_
 refine .sA J J J J (Kept.isCell (by exact hi.ok)) Sz27 (Kept.length (by exact hi.ok)) Z1 (Kept.length (by exact Kept.zero_ok)) zV ?_
 refine G5 ?_
 refine Ah (out := (b1 ++ (o1 ++ (b2 ++ (o2 ++ (b3 ++ (b4 ++ (o4 ++ [])))))))) (Am J J J Y27.h J Sz27 Z1 (by exact Kept.length (by exact hi.ok))) (Ab sG (Ab sG (Ab sG (Ab sG (Ab sG (Ab sG (Ab sG Ae))))))) ?_
 refine ⟨K, hi.ok, ?_, fun W2 hl => hi.end' (by simp only []; omega) (by simp only []; omega) ho (hl.sub (by repeat (exact Aq))) (hl.sub (by repeat (first | exact Aq | refine Ce ?_))) (hl.sub (by repeat (first | exact Aq | refine Ce ?_))) (hl.sub (by repeat (first | exact Aq | refine Ce ?_))) (hl.sub (by repeat (first | exact Aq | refine Ce ?_))) (hl.sub (by repeat (first | exact Aq | refine Ce ?_))) (hl.sub (by repeat (first | exact Aq | refine Ce ?_)))⟩
 have hf := hi.fold
 dsimp only at hf
 rw [List.take_of_length_le oM] at hf
 rw [keepRd_ok hf ho]

theorem keep_sameK (A B : Kept) (a b : DKept) (hsm : a.small) : Meets Tryz.prog 67 [agg A.cells, agg B.cells] [] (fun W => KeptIs W A a ∧ KeptIs W B b) (fun v out => v = .bool (sameK a b) ∧ out = []) := by
 intro W hW
 have hA := hW.1.ok
 have hB := hW.2.ok
 refine Ag Tryz.func67 J 31 Tryz.ntmps67 J (G3 ?_)
 intro n2 hn2 hf2
 refine G1 ?_
 intro n3 hn3 hf3
 refine G9 ?_
 refine .callB J J J J Body156 (eqfg_block A.fBlocks B.fBlocks a.dBlocks b.dBlocks hsm.1) (fun w h => ⟨Blocks_ext h J hW.1.fBlocks, Blocks_ext h J hW.2.fBlocks⟩) (fun hs1_40 => ?_) (fun hs1_40 => ?_)
 ·
  have hs1_4 := hs1_40
  refine G5 ?_
  refine .callB J J J J Body159 (eqfg_cert A.fCerts B.fCerts a.dCerts b.dCerts hsm.2.1) (fun w h => ⟨Certs_ext h J hW.1.fCerts, Certs_ext h J hW.2.fCerts⟩) (fun hs1_100 => ?_) (fun hs1_100 => ?_)
  ·
   have hs1_10 := hs1_100
   refine G6 ?_
   refine .callB J J J J Body146 (eqfg_vote A.fVotes B.fVotes a.dVotes b.dVotes) (fun w h => ⟨Cj h J hW.1.fVotes, Cj h J hW.2.fVotes⟩) (fun hs1_170 => ?_) (fun hs1_170 => ?_)
   ·
    have hs1_17 := hs1_170
    refine G6 ?_
    refine .cV J J J J Body158 (eqfg_cut A.fCuts B.fCuts a.dCuts b.dCuts hsm.2.2) (fun w h => ⟨Cuts_ext h J hW.1.fCuts, Cuts_ext h J hW.2.fCuts⟩) (G6 ?_)
    refine ⟨_, [], Ad J J, sP, sP, ?_, rfl⟩
    simp_all [sameK]
   have hs1_17 := hs1_170
   refine G13 ?_
   refine ⟨_, [], Ad J J, sP, sP, ?_, rfl⟩
   simp_all [sameK]
  have hs1_10 := hs1_100
  refine G20 ?_
  refine ⟨_, [], Ad J J, sP, sP, ?_, rfl⟩
  simp_all [sameK]
 have hs1_4 := hs1_40
 refine G26 ?_
 refine ⟨_, [], Ad J J, sP, sP, ?_, rfl⟩
 simp_all [sameK]
open Classical in
noncomputable def sameR (a b : DRecord) : Bool := decide (a = b)
theorem sameR_eq {a b : DRecord} (h : a = b) : sameR a b = true := by unfold sameR; simp [h]
theorem sameR_ne {a b : DRecord} (h : ¬ a = b) : sameR a b = false := by unfold sameR; simp [h]
theorem drec_eq {a b : DRecord} (h : (a.dKind.toNat : Int) = b.dKind.toNat) (h2 : a.dData = b.dData) : a = b := by
  obtain ⟨k, x⟩ := a
  obtain ⟨l, y⟩ := b
  simp only at h h2
  rw [h2, UInt8.toNat_inj.1 (by omega : k.toNat = l.toNat)]
theorem rec_ne1 {a b : DRecord} (h : ¬ (a.dKind.toNat : Int) = b.dKind.toNat) : ¬ a = b := fun e => h (by rw [e])
theorem sameR_d {a b : DRecord} (h : (a.dKind.toNat : Int) = b.dKind.toNat) : decide (a.dData = b.dData) = sameR a b := by
  by_cases h2 : a.dData = b.dData
  · rw [decide_eq_true h2, sameR_eq (drec_eq h h2)]
  · rw [decide_eq_false h2, sameR_ne fun e => h2 (by rw [e])]
theorem kit_record (A B : Record) (a b : DRecord) : Meets Tryz.prog 51 [agg A.cells, agg B.cells] [] (fun W => RecordIs W A a ∧ RecordIs W B b) (fun v out => v = .bool (sameR a b) ∧ out = []) := by
 intro W hW
 have hA := hW.1.ok
 have hB := hW.2.ok
 have e1 := hW.1.fKind
 have e2 := hW.2.fKind
 refine Ag Tryz.func51 J 19 Tryz.ntmps51 J (G3 ?_)
 intro n2 hn2 hf2
 refine G1 ?_
 intro n3 hn3 hf3
 refine G9 ?_
 refine two (fun r hr k => Tr.eqi J J J J hr k) (fun hs1_40 => ?_) (fun hs1_40 => ?_)
 ·
  have hs1_4 := of_decide_eq_true hs1_40
  refine G3 ?_
  refine .toStr J J J Y58.h Y5.h Y9 (fun w h => Ao h J hW.1.fData.see) hW.1.fData.len (G2 ?_)
  refine .toStr J J J Y58.h Y5.h Y9 (fun w h => Ao h J hW.2.fData.see) hW.2.fData.len (.eql_str J J J J J (G6 ?_))
  refine ⟨_, [], Ad J J, sP, sP, ?_, rfl⟩
  exact congrArg Value.bool (sameR_d (by rw [← e1, ← e2]; assumption))
 have hs1_4 := of_decide_eq_false hs1_40
 refine G14 ?_
 refine ⟨_, [], Ad J J, sP, sP, ?_, rfl⟩
 exact congrArg Value.bool (sameR_ne (rec_ne1 (by rw [← e1, ← e2]; assumption))).symm
theorem kit_records (s u : Sl) (xs ys : List DRecord) : Meets Tryz.prog 62 [s.v, u.v] [] (fun W => RecordsAt W s xs ∧ RecordsAt W u ys) (fun v out => v = .bool (sameL sameR xs ys) ∧ out = []) := by
 intro W hW
 obtain ⟨⟨rs, hs⟩, ⟨ru, hu⟩⟩ := hW
 have hnd := hs.nd
 have hnu := hu.nd
 have hmax := hs.max
 have hmaxu := hu.max
 simp only [maxLen] at hmax hmaxu
 refine Ag Tryz.func62 J 27 Tryz.ntmps62 J (G15 ?_)
 refine .condNP J (fun hc0 => ?_) (fun hc0 => ?_)
 ·
  refine G8 ?_
  refine ⟨_, [], Ad J J, sP, sP, ?_, rfl⟩
  exact congrArg Value.bool (sameL_len (by rw [hnd, hnu]; omega)).symm
 refine G9 ?_
 refine .loop (ι := Nat) (fun k => ⟨[(0, s.v), (1, u.v), (5, i64 (k : Int))], []⟩) (fun k => k ≤ s.n ∧ s.n = u.n ∧ ∀ (j : Nat) (a b : DRecord), j < k → xs[j]? = some a → ys[j]? = some b → sameR a b = true) (fun k => s.n - k) (0) ?_ ?_ ?_
 · exact ⟨by omega, by omega, fun j a b hj => by omega⟩
 · exact Ai (wk1 rfl (wk1 rfl (wk1 rfl wk0))) wh0 nD
 rintro k ⟨hk, hsu, hg⟩
 refine G9 ?_
 refine .condP J (fun hc1 => ?_) (fun hc1 => ?_)
 ·
  have hk2 : k < s.n := by omega
  obtain ⟨b, o, r, d, hsp, hr, hd, his, hlen, hsee⟩ := hs.at dE hk2
  obtain ⟨b2, o2, r2, d2, hspu, hru, hdu, hiu, hlenu, hseeu⟩ := hu.at dE (show k < u.n by omega)
  refine G5 ?_
  refine .draw [(0, 0), (0, 1), (0, 2), (1, 3), (0, 4), (0, 5), (0, 6), (1, 7), (3, 8), (0, 9)] Ba zK (G2 ?_)
  refine .idxSlP 2 J J J hsp J Y28.h Sz91 k J oM (.loadEN r.cells J J J Y91.h J Sz91 sP hlen hsee (G2 ?_))
  refine .idxSlP 2 J J J hspu J Y28.h Sz91 k J oM (.loadEN r2.cells J J J Y91.h J Sz91 sP hlenu hseeu (.cV J J J J Body51 (kit_record r r2 d d2) (fun w h => ⟨his.ext h J, hiu.ext h J⟩) (G3 ?_)))
  refine .cond J (fun hc2 => ?_) (fun hc2 => ?_)
  ·
   refine G12 ?_
   refine ⟨_, [], Ad J J, sP, sP, ?_, rfl⟩
   exact congrArg Value.bool (sameL_no hd hdu (by simp_all; done)).symm
  refine G9 ?_
  exact ⟨k + 1, ⟨by omega, hsu, fun j a b hj ha hb => by rcases Nat.lt_succ_iff_lt_or_eq.1 hj with h | rfl; exact hg j a b h ha hb; exact (by rw [hd] at ha; rw [hdu] at hb; cases ha; cases hb; simp_all)⟩, by omega, Ai (wk1 rfl (wk1 rfl (wk1 rfl wk0))) wh0 nD⟩
 obtain rfl : k = s.n := by omega
 refine G12 ?_
 refine ⟨_, [], Ad J J, sP, sP, ?_, rfl⟩
 exact congrArg Value.bool (sameL_yes (by rw [hnd, hnu]; omega) (by rw [hnd]; exact hg)).symm
end Go.Proofs.YtdifpjmfabhpiaaGreat
end

section
namespace Go.Proofs.YtdifpjmfabhpiaaGreat
open Go Hw

theorem light_oneC {D : Type} {f : D → Bool} {d : D} (h : lightOf f [d] 1 = true) : f d = true := by simpa [lightOf] using h
theorem sameR_self (a : DRecord) : sameR a a = true := sameR_eq rfl
theorem keepRd_small {ds : List DRecord} (hr : ∀ r ∈ ds, r.dData.length ≤ 8192) : (keepRd ds).1.small := by
  by_cases h : (keepRd ds).2 = 0
  · obtain ⟨E, hE⟩ := keepRd_good2 h
    rw [hE]; exact (kept_smallK hr hE).small
  · rw [keepRd_bad2 h]; exact dkz_small
theorem needed_small {D : DKept} (m : MidK D) : (neededRd D).1.small := by
  by_cases h : D.check = 0
  · rw [need_is h]
    exact ⟨fun d hd => by have := m.blocks d hd; dsimp only at hd; omega, fun d hd => by have := m.certs d hd; omega, fun d hd => by have := m.cuts d (List.mem_filter.1 hd).1; omega⟩
  · rw [neededRd, if_neg h]; exact dkz_small
theorem votes_okC {W : World} {s : Sl} {rs ds : List Vote} (h : SeqIs Vote.cells 132 VoteIs W s rs ds) : ∀ d ∈ ds, d.ok ∧ (Lit.int .i64 d.fPhase).wf = true := fun d hd => by
  obtain ⟨i, hi⟩ := List.getElem?_of_mem hd
  obtain ⟨b, o, r, d', hp, hr, hd', hI, _⟩ := h.at dE (show i < s.n by rw [← h.nd]; exact (List.getElem?_eq_some_iff.1 hi).1)
  rw [hi] at hd'; cases hd'
  have e := hI.eq
  exact ⟨by rw [← e]; exact hI.ok, hI.wf⟩

theorem law_keepcalls (B : Block) (D : DB) (C : Cert) (E : DCert) (V U : Vote) (K : Cut) (F : DCut) (sl : Sl) (ds : List DRecord) (X : Kept) (Q : DKept) (Y : Kept) (P : DKept) (h0 : UInt64) : Meets Tryz.prog 7 [agg B.cells, agg C.cells, agg V.cells, agg K.cells, sl.v, agg X.cells, agg Y.cells, u64 h0] [] (fun W => BlockIs W B D ∧ CertIs W C E ∧ VoteIs W V U ∧ CutIs W K F ∧ RecordsAt W sl ds ∧ KeptIs W X Q ∧ KeptIs W Y P) (fun v out => v = .bool true ∧ out = []) := by
 intro W hW
 obtain ⟨hWB, hWC, hWV, hWK, hWL, hWX, hWY⟩ := hW
 have hB := hWB.ok
 have hC := hWC.ok
 have hV := hWV.ok
 have hK := hWK.ok
 have hX := hWX.ok
 have hY := hWY.ok
 obtain rfl := hWV.eq
 have hdo := hWB.dok
 obtain ⟨l1, l2, l3, l4⟩ := kept_lens hWX
 obtain ⟨rsl, hsl⟩ := hWL
 have hWL : RecordsAt W sl ds := ⟨rsl, hsl⟩
 have hsn := hsl.nd
 obtain ⟨rqB, hqB⟩ := hWX.fBlocks
 obtain ⟨rqE, hqE⟩ := hWX.fCerts
 obtain ⟨rqC, hqC⟩ := hWX.fCuts
 obtain ⟨rqV, hqV⟩ := hWX.fVotes
 have hvo := votes_okC hqV
 refine Ag Tryz.func7 J 239 Tryz.ntmps7 J (.sr (.boxA J J ?_))
 intro n8 hn8 hf8
 refine .boxA J J ?_
 intro n9 hn9 hf9
 refine .boxA J J ?_
 intro n10 hn10 hf10
 refine .boxA J J ?_
 intro n11 hn11 hf11
 refine .boxA J J ?_
 intro n13 hn13 hf13
 refine .boxA J J ?_
 intro n14 hn14 hf14
 refine .a J J J (.na (.seq (.sr (.cV J J J J Body8 (law26_lives) tV (.not J J J (.na (.cond_f J (rfl) (.skip (at_n (.seq (.sr (.lA J J J Y79.h J Sz79 (by exact mem5) (Block.length zA) ?_))))))))))))
 refine .mkRow (z := agg Block.zero.cells) [agg B.cells] B.cells J J J Y22.h Sz79 Block.zr J J (by intro v hv; rw [List.mem_singleton.1 hv]; exact Block.length hB) dE (by simp [Value.cells]) ?_
 intro q34
 refine .callB J J J J Body36 (lightd_blocks ⟨some ⟨q34, 0, none⟩, 1, 1⟩ [D] 1) (fun w h => ⟨_, seq_one q34 79 B (Lies.of h (by intro b hb; rw [List.mem_singleton.1 hb]; repeat (exact List.mem_cons_self))) (Block.length hB) (by rw [Block.length hB]) (hWB.ext h J)⟩) (fun hs3_20 => ?_) (fun hs3_20 => ?_)
 ·
  have hs3_2 := hs3_20
  refine .not J J J (.m J J J (.lA J J J Y55.h J Sz55 (by exact mem5) (Cert.length zA) ?_))
  refine .mkRow (z := agg Cert.zero.cells) [agg C.cells] C.cells J J J Y23.h Sz55 Cert.zr J J (by intro v hv; rw [List.mem_singleton.1 hv]; exact Cert.length hC) dE (by simp [Value.cells]) ?_
  intro q39
  refine .callB J J J J Body24 (lightd_certs ⟨some ⟨q39, 0, none⟩, 1, 1⟩ [E] 1) (fun w h => ⟨_, seq_one q39 55 C (Lies.of h (by intro b hb; rw [List.mem_singleton.1 hb]; repeat (exact List.mem_cons_self))) (Cert.length hC) (by rw [Cert.length hC]) (hWC.ext h J)⟩) (fun hs3_70 => ?_) (fun hs3_70 => ?_)
  ·
   have hs3_7 := hs3_70
   refine .not J J J (.pick J J J J J J (.m J J J (.lA J J J Y53.h J Sz53 Z4 (Cut.length zA) ?_)))
   refine .mkRow (z := agg Cut.zero.cells) [agg K.cells] K.cells J J J Y25.h Sz53 Cut.zr J J (by intro v hv; rw [List.mem_singleton.1 hv]; exact Cut.length hK) dE (by simp [Value.cells]) ?_
   intro q45
   refine .callB J J J J Body48 (lightd_cuts ⟨some ⟨q45, 0, none⟩, 1, 1⟩ [F] 1) (fun w h => ⟨_, seq_one q45 53 K (Lies.of h (by intro b hb; rw [List.mem_singleton.1 hb]; repeat (exact List.mem_cons_self))) (Cut.length hK) (by rw [Cut.length hK]) (hWK.ext h J)⟩) (fun hs3_130 => ?_) (fun hs3_130 => ?_)
   ·
    have hs3_13 := hs3_130
    refine .not J J J (.pick J J J J J J (.m J J J (.m J J J (.callB J J J J Body10 (light_records sl ds 12 4000) (fun w h => Records_ext h J hWL) (fun hs3_180 => ?_) (fun hs3_180 => ?_)))))
    ·
     have hs3_18 := hs3_180
     refine .not J J J (.pick J J J J J J (.m J J J (.lA J J J Y27.h J Sz27 Z4 (Kept.length zA) ?_)))
     refine .callB J J J J Body9 (light_kept X Q 12) (fun w h => hWX.ext h J) (fun hs3_230 => ?_) (fun hs3_230 => ?_)
     ·
      have hs3_23 := hs3_230
      refine .not J J J (.pick J J J J J J (.m J J J (.lA J J J Y27.h J Sz27 Z3 (Kept.length zA) ?_)))
      refine .callB J J J J Body9 (light_kept Y P 12) (fun w h => hWY.ext h J) (fun hs3_280 => ?_) (fun hs3_280 => ?_)
      ·
       have hs3_28 := hs3_280
       refine .not J J J (.pick J J J J J J (.na (.cond_f J J (.skip (at_n (.sr ?_))))))
       have hl1 := light_oneC hs3_2
       have hl2 := light_oneC hs3_7
       have hl3 := light_oneC hs3_13
       simp only [lightBf, lightEf, lightCf, Bool.and_eq_true, decide_eq_true_eq] at hl1 hl2 hl3
       obtain ⟨hlA, hlB⟩ := hl1
       obtain ⟨hlC, hlD⟩ := hl2
       obtain ⟨r1, r2⟩ := lightR_of hs3_18
       have hsm := lightk_small hs3_23
       have g1 := hsm.nB
       have g2 := hsm.nE
       have g3 := hsm.nV
       have g4 := hsm.nC
       refine .lA J J J Y79.h J Sz79 mR (Block.length zA) ?_
       refine .call4 J J J J J Body37 (kit_own_block B hB D.ls D.ds (by rw [← hWB.ls.len]; omega) (by rw [← hWB.ds.len]; omega)) (fun w h => ⟨rows_ext h J hWB.ls, bytes_ext h J hWB.ds⟩) ?_
       rintro v66 out66 ⟨q1, c1, q2, c2, rfl, hq1, hq2, rfl⟩
       have hoi := owned_is (q1 := q1) (q2 := q2) hWB hq1 hq2 (by rw [← hWB.ls.len]; omega) (by rw [← hWB.ds.len]; omega)
       have hok2 := ownB_ok hB q1 c1 q2 c2
       refine .call4 J J J J J Body49 (keep_block (ownB B q1 c1 q2 c2) D (blockBy_le hdo)) (fun w h => hoi w (Lies.of h (fun b hb => List.mem_append_left _ hb))) ?_
       rintro v67 out67 ⟨X67, ok67, rfl, k67, h67⟩
       refine .m J J J (.eX J J J J (.eX J J J J (.alloc (cs := Record.zero.cells) J Record.zr J ?_)))
       intro n17 hn17 hf17
       refine .sA J J J J (Record.isCell zA) Sz91 (Record.length zA) Z0 (Record.length (by exact Record.zero_ok)) zU ?_
       refine .a J J J (.nsr (.lA J J J Y79.h J Sz79 mR (Block.length zA) ?_))
       refine .call4 J J J J J Body50 (r26_Block B D hB (blockBy_le hdo)) (fun w h => hWB.ext h J) ?_
       rintro v72 out72 ⟨X72, ok72, rfl, k72, h72⟩
       refine .m J J J (.eX J J J J (.eX J J J J (.alloc (cs := Record.zero.cells) J Record.zr J ?_)))
       intro n19 hn19 hf19
       refine .sA J J J J (Record.isCell zA) Sz91 (Record.length zA) Z0 (Record.length (by exact Record.zero_ok)) zU ?_
       refine .a J J J (.na (.seq (.sr (.lA J J J Y91.h J Sz91 mR (Record.length zA) ?_))))
       refine .lA J J J Y91.h J Sz91 Z0 (Record.length zA) ?_
       refine .cV J J J J Body51 ((kit_record X67 X72 (Ar 1 (A7 D) (D.check)).1 (Ar 1 (A7 D) (D.check)).1).imp (fun w h => h) (fun v out h => by rwa [sameR_self] at h)) (fun w h => ⟨h67 w (Lies.of h (by repeat (first | exact Aq | refine in_there ?_ | refine Ce ?_))), h72 w (Lies.of h (by repeat (first | exact Aq | refine in_there ?_)))⟩) ?_
       refine .not J J J (.m J J J (.m J J J (.m J J J (.nei J J J J (show (!decide _) = false from congrArg not (decide_eq_true sP)) (.pick J J J J J J (.na (.cond_f J (rfl) (.skip (at_n (.sr (.lA J J J Y55.h J Sz55 mR (Cert.length zA) ?_)))))))))))
       refine .call4 J J J J J Body52 (keep_cert C E (certBy_le hWC)) (fun w h => hWC.ext h J) ?_
       rintro v86 out86 ⟨X86, ok86, rfl, k86, h86⟩
       refine .m J J J (.eX J J J J (.eX J J J J (.sA J J J J (Record.isCell zA) Sz91 (Record.length zA) mR (Record.length zA) uU ?_)))
       refine .a J J J (.nsr (.lA J J J Y55.h J Sz55 mR (Cert.length zA) ?_))
       refine .call4 J J J J J Body53 (r26_Cert C E (certBy_le hWC)) (fun w h => hWC.ext h J) ?_
       rintro v91 out91 ⟨X91, ok91, rfl, k91, h91⟩
       refine .m J J J (.eX J J J J (.eX J J J J (.sA J J J J (Record.isCell zA) Sz91 (Record.length zA) mR (Record.length zA) (by (repeat (first | exact upd0 | apply Upd.seg))) ?_)))
       refine .a J J J (.na (.seq (.sr (.lA J J J Y91.h J Sz91 mR (Record.length zA) ?_))))
       refine .lA J J J Y91.h J Sz91 mR (Record.length zA) ?_
       refine .cV J J J J Body51 ((kit_record X86 X91 (Ar 2 (Bd E) (E.check)).1 (Ar 2 (Bd E) (E.check)).1).imp (fun w h => h) (fun v out h => by rwa [sameR_self] at h)) (fun w h => ⟨h86 w (Lies.of h (by repeat (first | exact Aq | refine Ce ?_))), h91 w (Lies.of h (by repeat (exact Aq)))⟩) ?_
       refine .not J J J (.m J J J (.m J J J (.m J J J (.nei J J J J (show (!decide _) = false from congrArg not (decide_eq_true sP)) (.pick J J J J J J (.na (.cond_f J (rfl) (.skip (at_n (.sr (.lA J J J Y81.h J Sz81 mR (Vote.length zA) ?_)))))))))))
       refine .call4 J J J J J Body54 (keep_vote V V (Nat.le_trans (voteBy_le hV) dE)) (fun w h => hWV.ext h J) ?_
       rintro v105 out105 ⟨X105, ok105, rfl, k105, h105⟩
       refine .m J J J (.eX J J J J (.eX J J J J (.sA J J J J (Record.isCell zA) Sz91 (Record.length zA) mR (Record.length zA) uU ?_)))
       refine .a J J J (.nsr (.lA J J J Y81.h J Sz81 mR (Vote.length zA) ?_))
       refine .call4 J J J J J Body55 (r26_Vote V V (Nat.le_trans (voteBy_le hV) dE)) (fun w h => hWV.ext h J) ?_
       rintro v110 out110 ⟨X110, ok110, rfl, k110, h110⟩
       refine .m J J J (.eX J J J J (.eX J J J J (.sA J J J J (Record.isCell zA) Sz91 (Record.length zA) mR (Record.length zA) (by (repeat (first | exact upd0 | apply Upd.seg))) ?_)))
       refine .a J J J (.na (.seq (.sr (.lA J J J Y91.h J Sz91 mR (Record.length zA) ?_))))
       refine .lA J J J Y91.h J Sz91 mR (Record.length zA) ?_
       refine .cV J J J J Body51 ((kit_record X105 X110 (Ar 3 (A0 V) (Ap V)).1 (Ar 3 (A0 V) (Ap V)).1).imp (fun w h => h) (fun v out h => by rwa [sameR_self] at h)) (fun w h => ⟨h105 w (Lies.of h (by repeat (first | exact Aq | refine Ce ?_))), h110 w (Lies.of h (by repeat (exact Aq)))⟩) ?_
       refine .not J J J (.m J J J (.m J J J (.m J J J (.nei J J J J (show (!decide _) = false from congrArg not (decide_eq_true sP)) (.pick J J J J J J (.na (.cond_f J (rfl) (.skip (at_n (.sr (.lA J J J Y53.h J Sz53 mR (Cut.length zA) ?_)))))))))))
       refine .call4 J J J J J Body56 (keep_cut K F (Nat.le_trans (cutR_le hWK) dE)) (fun w h => hWK.ext h J) ?_
       rintro v124 out124 ⟨X124, ok124, rfl, k124, h124⟩
       refine .m J J J (.eX J J J J (.eX J J J J (.sA J J J J (Record.isCell zA) Sz91 (Record.length zA) mR (Record.length zA) uU ?_)))
       refine .a J J J (.nsr (.lA J J J Y53.h J Sz53 mR (Cut.length zA) ?_))
       refine .call4 J J J J J Body57 (r26_Cut K F (Nat.le_trans (cutR_le hWK) dE)) (fun w h => hWK.ext h J) ?_
       rintro v129 out129 ⟨X129, ok129, rfl, k129, h129⟩
       refine .m J J J (.eX J J J J (.eX J J J J (.sA J J J J (Record.isCell zA) Sz91 (Record.length zA) mR (Record.length zA) (by (repeat (first | exact upd0 | apply Upd.seg))) ?_)))
       refine .a J J J (.na (.seq (.sr (.lA J J J Y91.h J Sz91 mR (Record.length zA) ?_))))
       refine .lA J J J Y91.h J Sz91 mR (Record.length zA) ?_
       refine .cV J J J J Body51 ((kit_record X124 X129 (Ar 4 (Bp F) (F.check)).1 (Ar 4 (Bp F) (F.check)).1).imp (fun w h => h) (fun v out h => by rwa [sameR_self] at h)) (fun w h => ⟨h124 w (Lies.of h (by repeat (first | exact Aq | refine Ce ?_))), h129 w (Lies.of h (by repeat (exact Aq)))⟩) ?_
       refine .not J J J (.m J J J (.m J J J (.m J J J (.nei J J J J (show (!decide _) = false from congrArg not (decide_eq_true sP)) (.pick J J J J J J (.na (.cond_f J (rfl) (.skip (at_n (.sr (.m J J J (.call4 J J J J J Body15 (kit_own_records sl ds oM (fun d hd => by have := r2 d hd; omega)) (fun w h => Records_ext h J hWL) ?_))))))))))))
       rintro v143 out143 ⟨s143, b143, o143, rs143, rfl, rfl, q143⟩
       have n143 := q143.acc.num
       simp only [List.append_assoc]
       refine .call4 J J J J J Body13 (keep_read s143 ds oM (fun d hd => by have := r2 d hd; omega)) (fun w h => ⟨_, q143.seq (Lies.of h (by repeat (exact Aq))) (Lies.of h (by repeat (first | exact Aq | refine Ce ?_))) oM⟩) ?_
       rintro v144 out144 ⟨X144, ok144, rfl, h144⟩
       refine .m J J J (.eX J J J J (.eX J J J J (.alloc (cs := Kept.zero.cells) J Kept.zr J ?_)))
       intro n21 hn21 hf21
       refine .sA J J J J (Kept.isCell zA) Sz27 (Kept.length zA) Z0 (Kept.length (by exact Kept.zero_ok)) zU ?_
       refine .a J J J (.nsr (.m J J J (.call4 J J J J J Body58 (r26_Read sl ds oM (fun d hd => by have := r2 d hd; omega)) (fun w h => Records_ext h J hWL) ?_)))
       rintro v149 out149 ⟨X149, ok149, rfl, h149⟩
       refine .m J J J (.eX J J J J (.eX J J J J (.alloc (cs := Kept.zero.cells) J Kept.zr J ?_)))
       intro n22 hn22 hf22
       refine .sA J J J J (Kept.isCell zA) Sz27 (Kept.length zA) Z0 (Kept.length (by exact Kept.zero_ok)) zU ?_
       refine .a J J J (.nsr (.lA J J J Y27.h J Sz27 mR (Kept.length zA) ?_))
       refine .call4 J J J J J Body12 (meets_know (kit_own_kept X Q hs3_23) own_know) (fun w h => hWX.ext h J) ?_
       rintro v154 out154 ⟨X154, ok154, rfl, l154, h154⟩
       refine .call4 J J J J J Body59 (keep_needed X154 Q ok154 (light_mid hs3_23) (by rw [← l154.1]; omega) (by rw [← l154.2.1]; omega) (by rw [← l154.2.2.1]; omega) (by rw [← l154.2.2.2]; omega)) (fun w h => h154 w (Lies.of h (by repeat (exact Aq)))) ?_
       rintro v155 out155 ⟨X155, ok155, rfl, h155⟩
       refine .m J J J (.eX J J J J (.eX J J J J (.alloc (cs := Kept.zero.cells) J Kept.zr J ?_)))
       intro n23 hn23 hf23
       refine .sA J J J J (Kept.isCell zA) Sz27 (Kept.length zA) Z0 (Kept.length (by exact Kept.zero_ok)) zU ?_
       refine .a J J J (.nsr (.lA J J J Y27.h J Sz27 mR (Kept.length zA) ?_))
       refine .call4 J J J J J Body60 (r26_Needed X Q rqB rqE rqC hX oM oM oM oM) (fun w h => ⟨hWX.ext h J, hqB.ext h J (fun r d k => k.ext h J), hqE.ext h J (fun r d k => k.ext h J), hqC.ext h J (fun r d k => k.ext h J)⟩) ?_
       rintro v160 out160 ⟨X160, ok160, rfl, h160⟩
       refine .m J J J (.eX J J J J (.eX J J J J (.alloc (cs := Kept.zero.cells) J Kept.zr J ?_)))
       intro n25 hn25 hf25
       refine .sA J J J J (Kept.isCell zA) Sz27 (Kept.length zA) Z0 (Kept.length (by exact Kept.zero_ok)) zU ?_
       refine .a J J J (.nsr (.lA J J J Y27.h J Sz27 mR (Kept.length zA) ?_))
       refine .call4 J J J J J Body12 (meets_know (kit_own_kept X Q hs3_23) own_know) (fun w h => hWX.ext h J) ?_
       rintro v165 out165 ⟨X165, ok165, rfl, l165, h165⟩
       refine .call4 J J J J J Body11 (keep_records X165 Q (by rw [← l165.1]; omega) (by rw [← l165.2.1]; omega) (by rw [← l165.2.2.1]; omega) (by rw [← l165.2.2.2]; omega)) (fun w h => h165 w (Lies.of h (by repeat (exact Aq)))) ?_
       rintro v166 out166 ⟨s166, rs166, rfl, n166, h166⟩
       refine .m J J J (.eX J J J J (.eX J J J J (.a J J J (.a J J J (.nsr (.lA J J J Y27.h J Sz27 mR (Kept.length zA) ?_))))))
       refine .call4 J J J J J Body61 (r26_Records X Q oM oM oM oM) (fun w h => hWX.ext h J) ?_
       rintro v171 out171 ⟨s171, rs171, rfl, n171, h171⟩
       refine .m J J J (.eX J J J J (.eX J J J J (.a J J J (.a J J J (.na (.seq (.draw [(1, 0), (1, 1), (3, 2), (0, 3), (0, 4), (0, 5), (0, 6), (0, 7), (0, 8), (1, 9), (1, 10), (3, 11), (0, 12), (0, 13), (0, 14), (0, 15), (0, 16), (0, 17), (0, 18), (0, 19), (0, 20), (3, 21), (0, 22), (0, 23), (0, 24), (0, 25), (0, 26), (0, 27), (0, 28), (1, 29), (1, 31), (3, 30), (3, 32), (0, 33), (0, 34), (0, 35), (1, 36), (0, 37), (1, 39), (0, 40), (3, 38), (3, 41), (3, 42), (0, 43), (0, 44), (0, 45), (0, 47), (3, 46), (3, 48), (0, 49), (0, 50), (0, 51), (1, 52), (1, 53), (1, 55), (1, 56), (3, 54), (3, 57), (0, 58), (0, 59), (0, 60), (1, 61), (1, 62), (3, 63), (0, 64), (0, 65)] Ba zK ?_)))))))
       have hsmR := keepRd_small (ds := ds) (fun d hd => by have := r2 d hd; omega)
       have hsmN := needed_small (light_mid hs3_23)
       have hsmX := light_small2 hs3_23
       have hlf : (Q.dVotes.filter (eqV h0)).length ≤ 12 := Nat.le_trans (List.length_filter_le _ _) g3
       refine .lA J J J Y27.h J Sz27 mR (Kept.length zA) ?_
       refine .lA J J J Y27.h J Sz27 mR (Kept.length zA) ?_
       refine .cV J J J J Body14 (kit_kept_same X144 X149 (keepRd ds).1 hsmR) (fun w h => ⟨h144 w (Lies.of h (by repeat (first | exact Aq | refine in_there ?_ | refine Ce ?_))), h149 w (Lies.of h (by repeat (first | exact Aq | refine in_there ?_ | refine Ce ?_)))⟩) ?_
       refine .m J J J (.m J J J (.m J J J (.eqi J J J J (decide_eq_true (rfl)) (.pick J J J J J J (.m J J J (.lA J J J Y27.h J Sz27 mR (Kept.length zA) ?_))))))
       refine .lA J J J Y27.h J Sz27 mR (Kept.length zA) ?_
       refine .cV J J J J Body14 (kit_kept_same X155 X160 (neededRd Q).1 hsmN) (fun w h => ⟨h155 w (Lies.of h (by repeat (first | exact Aq | refine in_there ?_ | refine Ce ?_))), h160 w (Lies.of h (by repeat (first | exact Aq | refine in_there ?_ | refine Ce ?_))) (fun i r d g1 g2 => (hqB.is i r d g1 g2).ext h J) (fun i r d g1 g2 => (hqE.is i r d g1 g2).ext h J) (fun i r d g1 g2 => (hqC.is i r d g1 g2).ext h J)⟩) ?_
       refine .pick J J J J J J (.m J J J (.m J J J (.m J J J (.eqi J J J J (decide_eq_true (rfl)) (.pick J J J J J J (.m J J J (.m J J J (.m J J J (.cV J J J J Body62 ((kit_records s166 s171 (recsRd Q).1 (recsRd Q).1).imp (fun w h => h) (fun v out h => by rwa [sameL_self sameR_self] at h)) (fun w h => ⟨⟨_, h166 w (Lies.of h (by repeat (first | exact Aq | refine Ce ?_)))⟩, ⟨_, h171 w (Lies.of h (by repeat (exact Aq)))⟩⟩) ?_)))))))))
       refine .pick J J J J J J (.m J J J (.m J J J (.m J J J (.eqi J J J J (decide_eq_true (rfl)) (.pick J J J J J J (.m J J J (.lA J J J Y27.h J Sz27 mR (Kept.length zA) ?_)))))))
       refine .lA J J J Y27.h J Sz27 mR (Kept.length zA) ?_
       refine .cV J J J J Body16 (keep_check X Q) (fun w h => hWX.ext h J) (.cV J J J J Body63 (r26_Check X Q) (fun w h => hWX.ext h J) (.eqi J J J J (decide_eq_true (rfl)) (.pick J J J J J J (.m J J J (.lA J J J Y27.h J Sz27 mR (Kept.length zA) ?_)))))
       refine .m J J J (.lA J J J Y27.h J Sz27 mR (Kept.length zA) ?_)
       refine .m J J J (.call J J J J Body64 (keep_said_all X hX Q.dVotes h0 oM) (SaidR.loose (fun d hd => hvo d (List.mem_filter.1 hd).1)) (fun w h => Cj h J hWX.fVotes) ?_)
       rintro v212 out212 ⟨s212, rs212, rfl, o212⟩
       refine .call J J J J Body65 (r26_Said X hX Q.dVotes h0 oM) (SaidR.loose (fun d hd => hvo d (List.mem_filter.1 hd).1)) (fun w h => Cj h J hWX.fVotes) ?_
       rintro v215 out215 ⟨s215, rs215, rfl, o215⟩
       refine .cV J J J J Body21 ((kit_votes s212 s215 (Q.dVotes.filter (eqV h0)) (Q.dVotes.filter (eqV h0))).imp (fun w h => h) (fun v out h => by rwa [sameL_self sameV_self] at h)) (fun w h => ⟨⟨_, o212.seq (Lies.of h (by repeat (first | exact Aq | refine Ce ?_))) (fun b hb => (by cases hb)) oM⟩, ⟨_, o215.seq (Lies.of h (by repeat (exact Aq))) (fun b hb => (by cases hb)) oM⟩⟩) ?_
       refine .pick J J J J J J (.m J J J (.m J J J (.m J J J (.cV J J J J Body18 (keep_size sl ds oM (fun d hd => by have := r2 d hd; omega)) (fun w h => Records_ext h J hWL) ?_))))
       refine .cV J J J J Body66 (r26_Size sl ds oM (fun d hd => by have := r2 d hd; omega)) (fun w h => Records_ext h J hWL) ?_
       refine .eqi J J J J (decide_eq_true (rfl)) (.pick J J J J J J (.m J J J (.lA J J J Y27.h J Sz27 mR (Kept.length zA) ?_)))
       refine .lA J J J Y27.h J Sz27 mR (Kept.length zA) ?_
       refine .lA J J J Y27.h J Sz27 mR (Kept.length zA) ?_
       refine .lA J J J Y27.h J Sz27 mR (Kept.length zA) ?_
       refine .cV J J J J Body67 (keep_sameK X Y Q P hsmX) (fun w h => ⟨hWX.ext h J, hWY.ext h J⟩) (.cV J J J J Body14 (kit_kept X Y Q P hsmX) (fun w h => ⟨hWX.ext h J, hWY.ext h J⟩) (.eqb (r := true) J J J J Y4 sP (.pick J J J J J J (.m J J J (.lA J J J Y27.h J Sz27 mR (Kept.length zA) ?_)))))
       refine .lA J J J Y27.h J Sz27 mR (Kept.length zA) ?_
       refine .cV J J J J Body67 ((keep_sameK X X Q Q hsmX).imp (fun w h => h) (fun v out h => by rwa [sameK_self] at h)) (fun w h => ⟨hWX.ext h J, hWX.ext h J⟩) ?_
       refine .pick J J J J J J (.a J J J (.na (.ret (en_r ?_))))
       refine ⟨_, [], Ad J J, sP, sP, ?_, rfl⟩
       rfl
      have hs3_28 := hs3_280
      refine .not J J J (.pick J J J J J J (.na (.cond_t J J (.sr (.a J J J (.na (.ret (at_r (en_r ?_)))))))))
      refine ⟨_, [], Ad J J, sP, sP, ?_, rfl⟩
      rfl
     have hs3_23 := hs3_230
     refine .not J J J (.pick J J J J J J (.m J J J (.skp J J (.skp J J (.skp J J (.pick J J J J J J (.na (.cond_t J J (.sr (.a J J J (.na (.ret (at_r (en_r ?_))))))))))))))
     refine ⟨_, [], Ad J J, sP, sP, ?_, rfl⟩
     rfl
    have hs3_18 := hs3_180
    refine .not J J J (.pick J J J J J J (.m J J J (.skp J J (.skp J J (.skp J J (.pick J J J J J J (.m J J J (.skp J J (.skp J J (.skp J J (.pick J J J J J J (.na (.cond_t J J (.sr (.a J J J (.na (.ret (at_r (en_r ?_)))))))))))))))))))
    refine ⟨_, [], Ad J J, sP, sP, ?_, rfl⟩
    rfl
   have hs3_13 := hs3_130
   refine .not J J J (.pick J J J J J J (.m J J J (.skp J J (.skp J J (.skp J J (.pick J J J J J J (.m J J J (.skp J J (.skp J J (.skp J J (.pick J J J J J J (.m J J J (.skp J J (.skp J J (.skp J J (.pick J J J J J J (.na (.cond_t J J (.sr (.a J J J (.na (.ret (at_r (en_r ?_))))))))))))))))))))))))
   refine ⟨_, [], Ad J J, sP, sP, ?_, rfl⟩
   rfl
  have hs3_7 := hs3_70
  refine .not J J J (.pick J J J J J J (.m J J J (.skp J J (.skp J J (.skp J J (.skp J J (.pick J J J J J J (.m J J J (.skp J J (.skp J J (.skp J J (.pick J J J J J J (.m J J J (.skp J J (.skp J J (.skp J J (.pick J J J J J J (.m J J J (.skp J J (.skp J J (.skp J J (.pick J J J J J J (.na (.cond_t J J (.sr (.a J J J (.na (.ret (at_r (en_r ?_))))))))))))))))))))))))))))))
  refine ⟨_, [], Ad J J, sP, sP, ?_, rfl⟩
  rfl
 have hs3_2 := hs3_20
 refine .not J J J (.m J J J (.skp J J (.skp J J (.skp J J (.skp J J (.pick J J J J J J (.m J J J (.skp J J (.skp J J (.skp J J (.skp J J (.pick J J J J J J (.m J J J (.skp J J (.skp J J (.skp J J (.pick J J J J J J (.m J J J (.skp J J (.skp J J (.skp J J (.pick J J J J J J (.m J J J (.skp J J (.skp J J (.skp J J (.pick J J J J J J (.na (.cond_t J J (.sr (.a J J J (.na (.ret (at_r (en_r ?_)))))))))))))))))))))))))))))))))))
 refine ⟨_, [], Ad J J, sP, sP, ?_, rfl⟩
 rfl
end Go.Proofs.YtdifpjmfabhpiaaGreat
end

section
namespace Go.Proofs.YtdifpjmfabhpiaaGreat
open Go Go.ChangeShapes Go.WideShapes Go.ChangeAt Go.RowKit

theorem ownKCl : ownKnob Tryz.prog.godebug = none := by kernel_rfl
theorem laidOutKCl : laidOutB Tryz.prog = true := by kernel_rfl

theorem openSqKClRecord {H : Type} {enc : TypeId × Value → H} {W : World} {base : Nat} {sp : Nat → Bool} {held : Bool} {k : TypeId} (hu : Tryz.prog.underlying k = some (.slice 91)) (hc : Tryz.prog.cellsOf 91 = 2) {r : Reach} {b0 : Nat} {v : Value} {d : DataW H} {ps : List MemPlace}
    (hval : Value.okWide Tryz.prog W r b0 k v) (hd : DataW.Trod enc Tryz.prog W base sp held k v d ps) : ∃ s l, v = Hw.Sl.v s ∧ RecordsAt W s l := by
  simp only [Value.okWide, hu, Cell.okWide] at hval
  obtain ⟨a1, len, cap, rfl⟩ : ∃ a1 len cap, v = .slice a1 len cap := by
    unfold Cell.ok at hval
    rw [hu] at hval
    split at hval <;> first | exact hval.elim | exact ⟨_, _, _, rfl⟩ | simp_all
  obtain ⟨fuel, hf⟩ := hd
  obtain ⟨s, l, h1, h2⟩ := Record.openS hu hc hf
  refine ⟨s, l, ?_, h2⟩
  simp [Value.cells] at h1
  exact h1

theorem walkKCl (w : World) (x0 : Block) (D0 : DB) (is0 : BlockIs w x0 D0) (x1 : Cert) (D1 : DCert) (is1 : CertIs w x1 D1) (x2 : Vote) (D2 : Vote) (is2 : VoteIs w x2 D2) (x3 : Cut) (D3 : DCut) (is3 : CutIs w x3 D3) (s4 : Hw.Sl) (l4 : List DRecord) (hs4 : RecordsAt w s4 l4) (x5 : Kept) (D5 : DKept) (is5 : KeptIs w x5 D5) (x6 : Kept) (D6 : DKept) (is6 : KeptIs w x6 D6) (x7 : UInt64) : Calls Tryz.prog 7 #[Hw.agg x0.cells, Hw.agg x1.cells, Hw.agg x2.cells, Hw.agg x3.cells, Hw.Sl.v s4, Hw.agg x5.cells, Hw.agg x6.cells, Hw.u64 x7] w fun e w' => e = .returned (.bool true) ∧ Below w.heap.size w w' :=
  by
  have fin : ∀ {us : Array Value}, Calls Tryz.prog 7 us w (fun e W' => ∃ v out, e = .returned v ∧ (v = .bool true ∧ out = []) ∧ Hw.Ret [] out w W') → Calls Tryz.prog 7 us w (fun e w' => e = .returned (.bool true) ∧ Below w.heap.size w w') :=
    fun h => h.mono fun e w' ⟨v, out, he, ⟨hv, ho⟩, hr⟩ => ⟨by rw [he, hv], Hw.Keeps.below hr.keeps⟩
  exact fin (law_keepcalls x0 D0 x1 D1 x2 D2 x3 D3 s4 l4 x5 D5 x6 D6 x7 w ⟨is0, is1, is2, is3, hs4, is5, is6⟩)

theorem liftedKCl (os : Os) (started : os.Started) (H : Type) (enc : TypeId × Value → H) :
    ReturnsInHanded {} Tryz.checked os 7 .any (Rows.keepCallsSpec.pre6 enc Tryz.prog Tryz.f7 Rows.keepCallsRow.domain false) (Rows.keepCallsSpec.post enc Tryz.prog Tryz.f7 false true false false) := by
  refine returnsInHanded_of_change (C := Tryz.checked) ownKCl started (by kernel_rfl) Tryz.func7
    (ChangeSpec.witness6 (enc := enc) (C := Tryz.checked) false ⟨#[], #[.agg (Array.replicate 32 (.int .u8 0) ++ #[.int .u64 0] ++ Array.replicate 32 (.int .u8 0) ++ #[.slice none 0 0, .slice none 0 0] ++ Array.replicate 64 (.int .u8 0)), .agg (#[.int .u64 0] ++ Array.replicate 32 (.int .u8 0) ++ #[.slice none 0 0, .slice none 0 0]), .agg (#[.int .u64 0, .int .u64 0, .int .i64 0] ++ Array.replicate 32 (.int .u8 0) ++ #[.int .u64 0] ++ Array.replicate 96 (.int .u8 0)), .agg (#[.int .u64 0] ++ Array.replicate 32 (.int .u8 0) ++ #[.slice none 0 0]), .slice none 0 0, .agg #[.slice none 0 0, .slice none 0 0, .slice none 0 0, .slice none 0 0], .agg #[.slice none 0 0, .slice none 0 0, .slice none 0 0, .slice none 0 0], .int .u64 0], []⟩ 8 (by kernel_rfl) (by kernel_rfl) (by kernel_rfl) (by kernel_rfl)) ?_
  intro W base args ds gs before hval0 hW hcnd _
  have hval : ∀ (j : Nat) t v, Tryz.f7.params[j]? = some t → args[j]? = some v → Value.okWide Tryz.prog W .any base t v := hval0
  have hW' := hW
  obtain ⟨p, q, hA0, hV, rfl, hfz, hnd⟩ := hW
  have hA : DataW.TrodAll enc Tryz.prog W 0 (fun _ => true) true Tryz.f7.params.toList args.toList ds p := hA0
  rw [Tryz.params7] at hA hval
  obtain ⟨v0, vs0, d0, ds0, p0, q0, hargs, rfl, rfl, h0, r0⟩ := trodAll_cons hA
  obtain ⟨v1, vs1, d1, ds1, p1, q1, rfl, rfl, rfl, h1, r1⟩ := trodAll_cons r0
  obtain ⟨v2, vs2, d2, ds2, p2, q2, rfl, rfl, rfl, h2, r2⟩ := trodAll_cons r1
  obtain ⟨v3, vs3, d3, ds3, p3, q3, rfl, rfl, rfl, h3, r3⟩ := trodAll_cons r2
  obtain ⟨v4, vs4, d4, ds4, p4, q4, rfl, rfl, rfl, h4, r4⟩ := trodAll_cons r3
  obtain ⟨v5, vs5, d5, ds5, p5, q5, rfl, rfl, rfl, h5, r5⟩ := trodAll_cons r4
  obtain ⟨v6, vs6, d6, ds6, p6, q6, rfl, rfl, rfl, h6, r6⟩ := trodAll_cons r5
  obtain ⟨v7, vs7, d7, ds7, p7, q7, rfl, rfl, rfl, h7, r7⟩ := trodAll_cons r6
  obtain ⟨rfl, rfl, rfl⟩ := trodAll_nil r7
  obtain rfl : args = #[v0, v1, v2, v3, v4, v5, v6, v7] := by cases args; simp_all
  obtain ⟨rfl, rfl⟩ := trodVars_none hV
  have k0 := h0
  have lt0 : ∀ x ∈ p0, x.block < W.heap.size := by obtain ⟨m, hm⟩ := k0; exact DataW.trod_lt m _ _ _ hm
  have k1 := h1
  have lt1 : ∀ x ∈ p1, x.block < W.heap.size := by obtain ⟨m, hm⟩ := k1; exact DataW.trod_lt m _ _ _ hm
  have k2 := h2
  have lt2 : ∀ x ∈ p2, x.block < W.heap.size := by obtain ⟨m, hm⟩ := k2; exact DataW.trod_lt m _ _ _ hm
  have k3 := h3
  have lt3 : ∀ x ∈ p3, x.block < W.heap.size := by obtain ⟨m, hm⟩ := k3; exact DataW.trod_lt m _ _ _ hm
  have k4 := h4
  have lt4 : ∀ x ∈ p4, x.block < W.heap.size := by obtain ⟨m, hm⟩ := k4; exact DataW.trod_lt m _ _ _ hm
  have k5 := h5
  have lt5 : ∀ x ∈ p5, x.block < W.heap.size := by obtain ⟨m, hm⟩ := k5; exact DataW.trod_lt m _ _ _ hm
  have k6 := h6
  have lt6 : ∀ x ∈ p6, x.block < W.heap.size := by obtain ⟨m, hm⟩ := k6; exact DataW.trod_lt m _ _ _ hm
  have k7 := h7
  have lt7 : ∀ x ∈ p7, x.block < W.heap.size := by obtain ⟨m, hm⟩ := k7; exact DataW.trod_lt m _ _ _ hm
  obtain ⟨x0, D0, rfl, is0⟩ := Block.openW (hval 0 79 v0 rfl rfl) h0
  obtain ⟨x1, D1, rfl, is1⟩ := Cert.openW (hval 1 55 v1 rfl rfl) h1
  obtain ⟨x2, D2, rfl, is2⟩ := Vote.openW (hval 2 81 v2 rfl rfl) h2
  obtain ⟨x3, D3, rfl, is3⟩ := Cut.openW (hval 3 53 v3 rfl rfl) h3
  obtain ⟨s4, l4, rfl, hs4⟩ := openSqKClRecord Tryz.underlying28 (by kernel_rfl) (hval 4 28 v4 rfl rfl) h4
  obtain ⟨x5, D5, rfl, is5⟩ := Kept.openW (hval 5 27 v5 rfl rfl) h5
  obtain ⟨x6, D6, rfl, is6⟩ := Kept.openW (hval 6 27 v6 rfl rfl) h6
  obtain ⟨a7, rfl, rfl, rfl, w7⟩ := open_int Tryz.underlying48 (hval 7 48 v7 rfl rfl) h7
  obtain ⟨x7, rfl⟩ := Hw.u64_back w7
  clear hA0 hval0
  refine (walkKCl W x0 D0 is0 x1 D1 is1 x2 D2 is2 x3 D3 is3 s4 l4 hs4 x5 D5 is5 x6 D6 is6 x7).mono fun e W' ⟨he, bel⟩ => ?_
  subst he
  exact ⟨_, rfl, _, _, _, [], _, [], hW', trodAll_mk1 (shut_bool Tryz.underlying4 _), (trodAll_cons_mk (Below.trod laidOutKCl (by kernel_rfl) (of_decide_eq_true (by kernel_rfl)) k0 bel lt0) (trodAll_cons_mk (Below.trod laidOutKCl (by kernel_rfl) (of_decide_eq_true (by kernel_rfl)) k1 bel lt1) (trodAll_cons_mk (Below.trod laidOutKCl (by kernel_rfl) (of_decide_eq_true (by kernel_rfl)) k2 bel lt2) (trodAll_cons_mk (Below.trod laidOutKCl (by kernel_rfl) (of_decide_eq_true (by kernel_rfl)) k3 bel lt3) (trodAll_cons_mk (Below.trod laidOutKCl (by kernel_rfl) (of_decide_eq_true (by kernel_rfl)) k4 bel lt4) (trodAll_cons_mk (Below.trod laidOutKCl (by kernel_rfl) (of_decide_eq_true (by kernel_rfl)) k5 bel lt5) (trodAll_cons_mk (Below.trod laidOutKCl (by kernel_rfl) (of_decide_eq_true (by kernel_rfl)) k6 bel lt6) (trodAll_cons_mk (Below.trod laidOutKCl (by kernel_rfl) (of_decide_eq_true (by kernel_rfl)) k7 bel lt7) trodAll_mk0)))))))), rfl, bel.frame _, fun h => by cases h⟩

theorem keepCalls_holds : Rows.KeepCallsSaid :=
  OpenClaim.holds_of_wide 7 Tryz.f7 rfl rfl rfl rfl rfl rfl rfl ⟨rfl, rfl, rfl, rfl, rfl⟩ rfl rfl rfl rfl rfl (by kernel_rfl) Tryz.func7 (by kernel_rfl)
    (of_decide_eq_true (by kernel_rfl)) (by unfold Func.isWrapper; first | (rw [if_pos (by decide +kernel)]; kernel_rfl) | (rw [if_neg (by decide +kernel)]; exact ⟨rfl, rfl⟩))
    (fun os started H enc _ => liftedKCl os started H enc)

end Go.Proofs.YtdifpjmfabhpiaaGreat
end
