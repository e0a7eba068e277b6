/- headwaterlaw16.DagNil returns true at every input, and all that it reads reads behind the call as before. Conditions: none beyond the given statement's own. -/
import Derived.WalkKit
import Derived.Orders
import Derived.Deep.LoopGhost
import Derived.IntWalk
import Derived.Laws.StructEq
import Derived.ArgAppend
import Derived.Deep.AppendSrc
import Derived.Lib.Bytealg
import Derived.Lib.BytesEntry
import Derived.Laws.IdiomStrings
import Derived.WideKeyArr2
import Derived.ProofKit
import Derived.OpenShut
import Derived.Deep.Slices
import Derived.Laws.Pointers
import Derived.Laws.Cover3
import Derived.LaidEqlPtr
import Derived.LoopN
import Derived.RangeFuncLeaves
import Derived.RangeFuncSeq
import Derived.OrdersIn
import Derived.Maps.Keyed
import Derived.Maps.RangeRun
import Derived.DeepKeys4
import Derived.Below
import Derived.Test.YtfcbgdkpagcbbaaGreatRows
import Derived.KernelRfl
import Derived.Laws.Externs
import Derived.Defers
import Derived.Laws.MathBits
import Derived.Shelf.SlSortCmp.WholeK
import Derived.Shelf.SlGeneric
import Derived.Test.YtfcbgdkpagcbbaaGreatProg
import Derived.Shelf.SlSortCmp.NoneTotal
import Derived.Deep.QuietTactic
import Derived.BigQuiet
import Derived.ScopeJumps
import Derived.DeepKeys3
import Derived.ChangeOld
import Derived.Test.YtfcbgdkpagcbbaaGreatDNilD5
set_option maxRecDepth 100000
set_option maxHeartbeats 8000000
set_option linter.unusedVariables false
set_option linter.unusedSimpArgs false
set_option linter.unusedSectionVars false
set_option linter.unnecessarySimpa false
section
namespace Go.Proofs.YtfcbgdkpagcbbaaGreat
open Go Hw

theorem judge_cases (P : List (List UInt8 × DB)) (D : DB) : judgeB P D = 0 ∨ judgeB P D = 1 ∨ judgeB P D = 2 := by
  unfold judgeB
  split
  · exact .inr (.inr rfl)
  · split
    · exact .inr (.inl rfl)
    · exact .inl rfl
theorem settle_go {x x2 : DD} {kk : List UInt8} {ob : BV} (hf : x.pl.first = some kk) (hob : Bm x.orp kk = some ob) (hj : judgeB x.P ob.2 = 1) (hp : x2.pl = (x.drop1 kk).pl.adm kk ob.2) (ho : x2.orp.length = (x.drop1 kk).orp.length) :
    PD.settle x.orp.length x.pl = ((PD.settle x2.orp.length x2.pl).1, kk :: (PD.settle x2.orp.length x2.pl).2) := by
  have h1 := mdel_one hob
  have h2 : x2.orp.length = (mdel x.orp kk).length := ho
  rw [← h1, settle_fit hf (by rw [x.getO, hob]; rfl) hj, h2, hp, drop1_pl]
theorem settle_no {x : DD} {kk : List UInt8} {ob : BV} (hf : x.pl.first = some kk) (hob : Bm x.orp kk = some ob) (hj : judgeB x.P ob.2 ≠ 1) : PD.settle x.orp.length x.pl = PD.settle (x.drop1 kk).orp.length (x.drop1 kk).pl := by
  have h1 := mdel_one hob
  have h2 : (x.drop1 kk).orp.length = (mdel x.orp kk).length := rfl
  rw [← h1, settle_wrong hf (by rw [x.getO, hob]; rfl) hj, h2, drop1_pl]
def SetR (x0 : DD) (p : Nat) (v : Value) (out : List Blk) : Prop := ∃ (x : DD) (s : Sl) (bl : List Blk) (l : List (List UInt8)), v = s.v ∧ out = x.blks p ++ bl ∧ x.ok ∧ Hw.Acc s bl (Bk l) 25 l.length 32 ∧ (∀ n ∈ l, n.length = 32) ∧ x.names.length + x.orp.length ≤ x0.names.length + x0.orp.length ∧ l.length ≤ x0.orp.length ∧ x.pl = (PD.settle x0.orp.length x0.pl).1 ∧ l = (PD.settle x0.orp.length x0.pl).2
theorem acc_one {s : Sl} {bl : List Blk} {l : List (List UInt8)} {k : List UInt8} {E : TypeId} {m : Nat} (h : Hw.Acc s bl (Bk l ++ Aa k) E (m + 1) 32) (hm : l.length = m) : Hw.Acc s bl (Bk (l ++ [k])) E (l ++ [k]).length 32 := by
  rw [List.length_append, List.length_singleton, flatB_append, hm]
  simpa [Bk] using h
theorem all_snoc {l : List (List UInt8)} {k : List UInt8} (h : ∀ n ∈ l, n.length = 32) (hk : k.length = 32) : ∀ n ∈ l ++ [k], n.length = 32 := fun n hn => by rcases List.mem_append.1 hn with h1 | h1; exact h n h1; rw [List.mem_singleton.1 h1]; exact hk

theorem dag_settle (x0 : DD) (hx0 : x0.ok) (p : Nat) : Meets Tryz.prog 39 [ptr p 0] ((x0.blks p).map (·.n)) (fun W => Lent (x0.blks p) W) (SetR x0 p) := by
 intro W hW
 have hbig0 := hx0.big
 refine calls_of (hp0 := (⟨p, [ptr p 0, x0.nm.v, .map (some x0.bE), .map (some x0.bH), .map (some x0.bO), .map (some x0.bP), .map (some x0.bW)], 75, 7⟩ :: (A8 x0.bE (Aw 32 evE) x0.ent :: (A8 x0.bH (Aw 32 evU) x0.hds :: (A8 x0.bO (Aw 32 evB) x0.orp :: (A8 x0.bP (placeT 32 evR) x0.pls :: (A8 x0.bW (Aw 32 evR) x0.wrs :: (x0.nb ++ (x0.cb ++ (rbl x0.pls ++ (rbl x0.wrs ++ []))))))))))) Tryz.func39 J 50 Tryz.ntmps39 J hW.rep (.sr (.a J J J (.nil (Am (.again (l := 0) (ι := DD × Sl × List Blk × List (List UInt8)) (fun i => ⟨[(0, ptr p 0), (3, i.2.1.v)], (⟨p, [ptr p 0, i.1.nm.v, .map (some i.1.bE), .map (some i.1.bH), .map (some i.1.bO), .map (some i.1.bP), .map (some i.1.bW)], 75, 7⟩ :: (A8 i.1.bE (Aw 32 evE) i.1.ent :: (A8 i.1.bH (Aw 32 evU) i.1.hds :: (A8 i.1.bO (Aw 32 evB) i.1.orp :: (A8 i.1.bP (placeT 32 evR) i.1.pls :: (A8 i.1.bW (Aw 32 evR) i.1.wrs :: (i.1.nb ++ (i.1.cb ++ (rbl i.1.pls ++ (rbl i.1.wrs ++ (i.2.2.1 ++ [])))))))))))⟩) (fun i => i.1.ok ∧ Hw.Acc i.2.1 i.2.2.1 (Bk i.2.2.2) 25 i.2.2.2.length 32 ∧ (∀ n ∈ i.2.2.2, n.length = 32) ∧ i.1.names.length + i.1.orp.length ≤ x0.names.length + x0.orp.length ∧ i.2.2.2.length + i.1.orp.length ≤ x0.orp.length ∧ (PD.settle i.1.orp.length i.1.pl).1 = (PD.settle x0.orp.length x0.pl).1 ∧ i.2.2.2 ++ (PD.settle i.1.orp.length i.1.pl).2 = (PD.settle x0.orp.length x0.pl).2) (fun i => i.1.orp.length) J ?_ ?_)))))
 ·
  refine .region (.a J J J (.nil (Am ?_)))
  exact ⟨(x0, Sl.nil, [], []), ⟨hx0, Acc.none, fun n (h : n ∈ ([] : List (List UInt8))) => (by cases h), Nat.le_refl _, (by show 0 + x0.orp.length ≤ _; omega), rfl, List.nil_append _⟩, Ax (wk1 rfl (wk1 rfl wk0)) (Ab rM (Ab rM (Ab rM (Ab rM (Ab rM (Ab rM (Aj sG (Aj sG (Aj sG (Aj sG (Aj sG Au)))))))))))⟩
 rintro ⟨x, s, bl, l⟩ hi
 simp only at hi ⊢
 obtain ⟨hx, hac3, h32l, hn1, hn2, hpl1, hpl2⟩ := hi
 have hbigx := hx.big
 have hls := hac3.num
 refine .seq (.sr (.m J J J (.nC J J J (.fld J J J Tryz.underlying75 J Sz71 dE _ J (.load1 J J J Y71 J mM (by first | rfl | exact A4 (by first | omega | (simp; omega)) | exact A4 (by first | omega | (simp; omega)) | exact A7 (by first | omega | (simp; done) | (simp; omega)) | exact Bh (by first | omega | (simp; done) | (simp; omega)) | exact B8 (by first | omega | (simp; done) | (simp; omega))) ?_)))))
 refine .call4 J J J J J Body43 (dag_sortedB MO x.bO x.orp (fun p hp => (hx.orp p hp).1) oM) (fun w h => h.cells _ mM) ?_
 rintro v11 out11 ⟨s11, ks, hkp, hks, rfl, hac⟩
 have hn11 := hac.num
 have hke : ks = isort (x.pl.orp.map (·.1)) := isort_eq (by rw [orp_keys]; exact hkp) hks
 have hrow : ∀ l ∈ ks, l.length = 32 := fun l hl => by obtain ⟨q, hq, rfl⟩ := List.mem_map.1 (hkp.mem_iff.1 hl); exact (hx.orp q hq).1
 refine .lenSl J J J Y26.h (.m J J J (.nil (Am (.block (.loop (ι := Nat) (fun k => ⟨[(0, ptr p 0), (3, s.v), (11, s11.v), (12, i64 (s11.n : Int)), (13, i64 (k : Int))], (⟨p, [ptr p 0, x.nm.v, .map (some x.bE), .map (some x.bH), .map (some x.bO), .map (some x.bP), .map (some x.bW)], 75, 7⟩ :: (A8 x.bE (Aw 32 evE) x.ent :: (A8 x.bH (Aw 32 evU) x.hds :: (A8 x.bO (Aw 32 evB) x.orp :: (A8 x.bP (placeT 32 evR) x.pls :: (A8 x.bW (Aw 32 evR) x.wrs :: (x.nb ++ (x.cb ++ (rbl x.pls ++ (rbl x.wrs ++ (bl ++ (out11 ++ []))))))))))))⟩) (fun k => k ≤ ks.length ∧ ∀ j, j < k → judgeB x.pl.P ((Bm x.pl.orp (ks.getD j [])).getD DB.zero) = 0) (fun k => ks.length - k) (0) ?_ ?_ ?_)))))
 · exact ⟨Nat.zero_le _, fun j hj => by omega⟩
 · exact Ax (wk1 rfl (wk1 rfl (wk1 rfl (wk1 rfl (wk1 rfl wk0))))) (Ab rM (Ab rM (Ab rM (Ab rM (Ab rM (Ab rM (Aj sG (Aj sG (Aj sG (Aj sG (Aj sG (Aj sG Au))))))))))))
 rintro k ⟨hk0, hall⟩
 refine .sr (.lss J J J J J (.nil (Am (.seq ?_))))
 first
  | refine Sat.condP rfl (fun hc0 => ?_) (fun hc0 => ?_)
  | refine Sat.condNP rfl (fun hc0 => ?_) (fun hc0 => ?_)
  | refine Sat.cond rfl (fun hc0 => ?_) (fun hc0 => ?_)
 ·
  refine .skip (Am (.seq (.block (.sr ?_))))
  have hk : k < ks.length := by omega
  have hkb : k ≤ 600000 := by have := hkp.length_eq; simp only [List.length_map] at this; omega
  rcases hac with ⟨_, _, _, h0⟩ | ⟨qr, cr, rfl, hnc, hfl, rfl⟩
  · exfalso; omega
  obtain ⟨kk, hkk⟩ : ∃ kk, kk = ks.getD k [] := ⟨_, rfl⟩
  have hkm : kk ∈ ks := by rw [hkk, List.getD_eq_getElem?_getD, List.getElem?_eq_getElem hk]; exact List.getElem_mem hk
  have h32k : kk.length = 32 := hrow _ hkm
  obtain ⟨ob, hob⟩ := mget_of_key (fs := x.orp) (hkp.mem_iff.1 hkm)
  have hheld := hx.orp _ (mget_mem hob)
  simp only at hheld
  have hgo : Bm x.pl.orp kk = some ob.2 := by rw [x.getO, hob]; rfl
  have hm1 := mdel_one hob
  refine .idxSlP 32 J J J J J Y26.h Sz25 k J oM (.loadSN (n := 32) (Aa kk) J J J Y25.h J Sz25 (by rw [Aa, List.length_map]; exact h32k) (fun w h => by rw [hkk]; simpa using sees_row hrow (Av h mM) hk) ?_)
  refine .alloc (cs := (Aa (List.replicate 32 0))) J Zr25 J ?_
  intro n5 hn5 hf5
  first
   | refine Tr.sA rfl rfl rfl rfl (by first | exact Aq _ | exact A3 _ | simp [isCell]) Sz25 lN mM lN uU ?_
   | refine Tr.storeN _ rfl rfl rfl rfl rfl (by first | exact Aq _ | exact A3 _ | simp [isCell]) Sz25 lN mM lN (by exact rfl) uU ?_
  refine .nil (Am (.seq (.draw [(0, 0), (0, 1), (0, 2), (1, 3), (1, 4), (1, 5), (2, 6), (4, 7)] As zK (.m J J J (.nC J J J (.fld J J J Tryz.underlying75 J Sz71 dE _ J (.load1 J J J Y71 J mM (by first | rfl | exact A4 (by first | omega | (simp; omega)) | exact A4 (by first | omega | (simp; omega)) | exact A7 (by first | omega | (simp; done) | (simp; omega)) | exact Bh (by first | omega | (simp; done) | (simp; omega)) | exact B8 (by first | omega | (simp; done) | (simp; omega))) ?_)))))))
  first
   | refine Tr.lA rfl rfl rfl Y25.h rfl Sz25 mM lN ?_
   | refine Tr.lN _ rfl rfl rfl Y25.h rfl Sz25 mM (by exact rfl) lN ?_
  refine .lookS evB MO hob J J J J h32k mM ?_
  refine .alloc (cs := Block.zero.cells) J Block.zr J ?_
  intro n6 hn6 hf6
  refine .sA J J J J (Block.isCell (by first | exact hheld.2.1.1.ok | exact oK | exact Point.zero_ok | exact wide.zero_ok | exact secrets.zero_ok | exact far.zero_ok | exact Cut.zero_ok | exact Cert.zero_ok | exact Msg.zero_ok | exact Inbox.zero_ok | exact Record.zero_ok | exact Kept.zero_ok | exact Rdr.zero_ok | exact DEnt.zero_ok | exact DPl.zero_ok )) Sz31 (Block.length (by first | exact hheld.2.1.1.ok | exact oK | exact Point.zero_ok | exact wide.zero_ok | exact secrets.zero_ok | exact far.zero_ok | exact Cut.zero_ok | exact Cert.zero_ok | exact Msg.zero_ok | exact Inbox.zero_ok | exact Record.zero_ok | exact Kept.zero_ok | exact Rdr.zero_ok | exact DEnt.zero_ok | exact DPl.zero_ok )) mM (Block.length (by first | exact hheld.2.1.1.ok | exact oK | exact Point.zero_ok | exact wide.zero_ok | exact secrets.zero_ok | exact far.zero_ok | exact Cut.zero_ok | exact Cert.zero_ok | exact Msg.zero_ok | exact Inbox.zero_ok | exact Record.zero_ok | exact Kept.zero_ok | exact Rdr.zero_ok | exact DEnt.zero_ok | exact DPl.zero_ok )) uU ?_
  refine .nil (Am (.sr (.m J J J (.lA J J J Y31.h J Sz31 mM (Block.length (by first | exact hheld.2.1.1.ok | exact oK | exact Point.zero_ok | exact wide.zero_ok | exact secrets.zero_ok | exact far.zero_ok | exact Cut.zero_ok | exact Cert.zero_ok | exact Msg.zero_ok | exact Inbox.zero_ok | exact Record.zero_ok | exact Kept.zero_ok | exact Rdr.zero_ok | exact DEnt.zero_ok | exact DPl.zero_ok )) ?_))))
  refine .cV J J J J Body36 (dag_judge x hx p ob.1 ob.2 hheld.2.1.1 oM) (fun w h => ⟨DagSee.of h mM mM, hheld.2.1.2 w (Lies.of h iN)⟩) ?_
  refine .nil (Am (.block (.sr (.eqi J J J J J (.a J J J (.nil (Am ?_)))))))
  first
   | refine Sat.condP rfl (fun hc1 => ?_) (fun hc1 => ?_)
   | refine Sat.condNP rfl (fun hc1 => ?_) (fun hc1 => ?_)
   | refine Sat.cond rfl (fun hc1 => ?_) (fun hc1 => ?_)
  ·
   refine .seq (.draw [(0, 0), (0, 1), (0, 2), (1, 3), (1, 4), (4, 5)] As zK (.m J J J (.nC J J J (.fld J J J Tryz.underlying75 J Sz71 dE _ J (.load1 J J J Y71 J mM (by first | rfl | exact A4 (by first | omega | (simp; omega)) | exact A4 (by first | omega | (simp; omega)) | exact A7 (by first | omega | (simp; done) | (simp; omega)) | exact Bh (by first | omega | (simp; done) | (simp; omega)) | exact B8 (by first | omega | (simp; done) | (simp; omega))) ?_)))))
   first
    | refine Tr.lA rfl rfl rfl Y25.h rfl Sz25 mM lN ?_
    | refine Tr.lN _ rfl rfl rfl Y25.h rfl Sz25 mM (by exact rfl) lN ?_
   refine .mapDel MO J J J J h32k rM ?_
   refine .nil (Am (.sr (.m J J J ?_)))
   first
    | refine Tr.lA rfl rfl rfl Y25.h rfl Sz25 mM lN ?_
    | refine Tr.lN _ rfl rfl rfl Y25.h rfl Sz25 mM (by exact rfl) lN ?_
   refine .lA J J J Y31.h J Sz31 mM (Block.length (by first | exact hheld.2.1.1.ok | exact oK | exact Point.zero_ok | exact wide.zero_ok | exact secrets.zero_ok | exact far.zero_ok | exact Cut.zero_ok | exact Cert.zero_ok | exact Msg.zero_ok | exact Inbox.zero_ok | exact Record.zero_ok | exact Kept.zero_ok | exact Rdr.zero_ok | exact DEnt.zero_ok | exact DPl.zero_ok )) ?_
   refine .callL (L := ((x.drop1 kk).blks p)) J J J J J Body38 (dag_admit2 (x.drop1 kk) (hx.drop1 kk) p kk h32k ob.1 ob.2 hheld.2.1 oM (by show x.names.length + (mdel x.orp kk).length < 20000; omega)) (Ab rM (Ab rM (Ab rM (Ab rM (Ab rM (Ab rM (Aj sG (Aj sG (Aj sG (Aj sG Au)))))))))) (lent_ok J) (fun w h => Lent.of h (Ab rM (Ab rM (Ab rM (Ab rM (Ab rM (Ab rM (Aj sG (Aj sG (Aj sG (Aj sG Au))))))))))) ?_
   rintro v36 out36 ⟨rfl, x2, rfl, hx2, hplx, hnlx, holx⟩
   simp only [DD.blks, List.cons_append, List.nil_append, List.append_assoc]
   refine .nil (Am (.sr (.m J J J ?_)))
   first
    | refine Tr.lA rfl rfl rfl Y25.h rfl Sz25 mM lN ?_
    | refine Tr.lN _ rfl rfl rfl Y25.h rfl Sz25 mM (by exact rfl) lN ?_
   refine .mkRow2 (z := agg (Aa (List.replicate 32 0))) [agg (Aa kk)] (Aa kk) J J Y26.h Sz25 Zr25 J J (by intro v hv; rw [List.mem_singleton.1 hv]; simp [Value.cells, agg, Aa, h32k]) dE (by simp [Value.cells, agg]) ?_
   intro q39
   refine .appendAcc (z := agg (Aa (List.replicate 32 0))) (by' := 32) (Aa kk) J J J J J Y26.h Y26.h Sz25 Zr25 (by unfold By; kernel_rfl) J hac3 sG (fun w h => SeesP.of (Av h mM)) (fun e => by cases e) (Aq _) oM oM (by rw [Aa, List.length_map, h32k]) ?_
   intro s40 bl40 hac40
   refine .a J J J (.nil (Am (.goto (bl_g (bl_g (at_g (at_g (bl_g (at_g (jm_g ?_))))))))))
   have hf : x.pl.first = some kk := by rw [hkk]; exact first_at hke hk hall (by rw [← hkk, hgo]; show judgeB x.P ob.2 ≠ 0; omega)
   have hst := settle_go (x2 := x2) hf hob hc1 hplx holx
   rw [hst] at hpl1 hpl2
   have hol2 : x2.orp.length = (mdel x.orp kk).length := holx
   have hnl2 : x2.names.length = x.names.length + 1 := hnlx
   exact ⟨(x2, s40, bl40, l ++ [kk]), ⟨hx2, acc_one hac40 rfl, all_snoc h32l h32k, by simp only; omega, by simp only [List.length_append, List.length_singleton]; omega, hpl1, by simp only [List.append_assoc, List.singleton_append]; exact hpl2⟩, by simp only; omega, Ax (wk1 rfl (wk1 rfl wk0)) (Ab rM (Ab rM (Ab rM (Ab rM (Ab rM (Ab rM (Aj sG (Aj sG (Aj sG (Aj sG (Aj sG Au)))))))))))⟩
  refine .sr (.eqi J J J J J (.a J J J (.nil (Am ?_))))
  first
   | refine Sat.condP rfl (fun hc2 => ?_) (fun hc2 => ?_)
   | refine Sat.condNP rfl (fun hc2 => ?_) (fun hc2 => ?_)
   | refine Sat.cond rfl (fun hc2 => ?_) (fun hc2 => ?_)
  ·
   refine .seq (.draw [(0, 0), (0, 1), (0, 2), (1, 3), (1, 4), (4, 5)] As zK (.m J J J (.nC J J J (.fld J J J Tryz.underlying75 J Sz71 dE _ J (.load1 J J J Y71 J mM (by first | rfl | exact A4 (by first | omega | (simp; omega)) | exact A4 (by first | omega | (simp; omega)) | exact A7 (by first | omega | (simp; done) | (simp; omega)) | exact Bh (by first | omega | (simp; done) | (simp; omega)) | exact B8 (by first | omega | (simp; done) | (simp; omega))) ?_)))))
   first
    | refine Tr.lA rfl rfl rfl Y25.h rfl Sz25 mM lN ?_
    | refine Tr.lN _ rfl rfl rfl Y25.h rfl Sz25 mM (by exact rfl) lN ?_
   refine .mapDel MO J J J J h32k rM ?_
   refine .nil (Am (.goto (bl_g (bl_g (at_g (at_g (bl_g (at_g (jm_g ?_)))))))))
   have hf : x.pl.first = some kk := by rw [hkk]; exact first_at hke hk hall (by rw [← hkk, hgo]; show judgeB x.P ob.2 ≠ 0; omega)
   have hst := settle_no hf hob oM
   rw [hst] at hpl1 hpl2
   have hol2 : (x.drop1 kk).orp.length = (mdel x.orp kk).length := rfl
   have hnl2 : (x.drop1 kk).names.length = x.names.length := rfl
   exact ⟨(x.drop1 kk, s, bl, l), ⟨hx.drop1 kk, hac3, h32l, by simp only; omega, by simp only; omega, hpl1, hpl2⟩, by simp only; omega, Ax (wk1 rfl (wk1 rfl wk0)) (Ab rM (Ab rM (Ab rM (Ab rM (Ab rM (Ab rM (Aj sG (Aj sG (Aj sG (Aj sG (Aj sG Au)))))))))))⟩
  refine .skip (B1 (B1 (Am (.region (.aI J J J J oM (.m J J J (.nil (Am ?_))))))))
  exact ⟨k + 1, ⟨hk, fun j hj => by rcases Nat.lt_or_eq_of_le (Nat.le_of_lt_succ hj) with h | h; exact hall j h; rw [h, ← hkk, hgo]; show judgeB x.P ob.2 = 0; rcases judge_cases x.P ob.2 with h9 | h9 | h9 <;> omega⟩, by omega, Ax (wk1 rfl (wk1 rfl (wk1 rfl (wk1 rfl (wk1 rfl wk0))))) (Ab rM (Ab rM (Ab rM (Ab rM (Ab rM (Ab rM (Aj sG (Aj sG (Aj sG (Aj sG (Aj sG (Aj sG Au))))))))))))⟩
 refine .exit (Bs (Bs (bl_h (Am (.sr (.m J J J (.a J J J (.nil (Am ?_)))))))))
 -- ret
 refine .ret (jm_r (A0 (Bi (out := (⟨p, [ptr p 0, x.nm.v, .map (some x.bE), .map (some x.bH), .map (some x.bO), .map (some x.bP), .map (some x.bW)], 75, 7⟩ :: (A8 x.bE (Aw 32 evE) x.ent :: (A8 x.bH (Aw 32 evU) x.hds :: (A8 x.bO (Aw 32 evB) x.orp :: (A8 x.bP (placeT 32 evR) x.pls :: (A8 x.bW (Aw 32 evR) x.wrs :: (x.nb ++ (x.cb ++ (rbl x.pls ++ (rbl x.wrs ++ (bl ++ [])))))))))))) (An J J) (Ab rM (Ab rM (Ab rM (Ab rM (Ab rM (Ab rM (Aj sG (Aj sG (Aj sG (Aj sG (Aj sG Au))))))))))) ?_)))
 rw [settle_done (first_none hke (by rw [show k = ks.length by omega] at hall; exact hall))] at hpl1 hpl2
 exact ⟨x, s, bl, l, rfl, (by simp only [DD.blks, List.cons_append, List.nil_append, List.append_nil, List.append_assoc]), hx, hac3, h32l, hn1, by omega, hpl1, by simpa using hpl2⟩

noncomputable def PD.add (X : PD) (D : DB) : PD × List (List UInt8) × Int :=
  if dgood D = 0 then
    (if ((Bm X.orp (Bo D)).isSome || (Bm X.P (Bo D)).isSome) = true then (X, [], 8)
     else if judgeB X.P D = 2 then (X, [], 4)
     else if judgeB X.P D = 0 then (if 64 ≤ X.orp.length then (X, [], 7) else ({ X with orp := Br X.orp (Bo D) D }, [], 0))
     else ((PD.settle (X.adm (Bo D) D).orp.length (X.adm (Bo D) D)).1, Bo D :: (PD.settle (X.adm (Bo D) D).orp.length (X.adm (Bo D) D)).2, 0))
  else (X, [], dgood D)
theorem add_bad {X : PD} {D : DB} (h : ¬ dgood D = 0) : X.add D = (X, [], dgood D) := if_neg h
theorem add_there {X : PD} {D : DB} (h : dgood D = 0) (h2 : ((Bm X.orp (Bo D)).isSome || (Bm X.P (Bo D)).isSome) = true) : X.add D = (X, [], 8) := by unfold PD.add; rw [if_pos h, if_pos h2]
theorem add_wrong {X : PD} {D : DB} (h : dgood D = 0) (h2 : ((Bm X.orp (Bo D)).isSome || (Bm X.P (Bo D)).isSome) = false) (h3 : judgeB X.P D = 2) : X.add D = (X, [], 4) := by unfold PD.add; rw [if_pos h, if_neg (by rw [h2]; decide), if_pos h3]
theorem add_full {X : PD} {D : DB} (h : dgood D = 0) (h2 : ((Bm X.orp (Bo D)).isSome || (Bm X.P (Bo D)).isSome) = false) (h3 : judgeB X.P D = 0) (h4 : 64 ≤ X.orp.length) : X.add D = (X, [], 7) := by unfold PD.add; rw [if_pos h, if_neg (by rw [h2]; decide), if_neg oM, if_pos h3, if_pos h4]
theorem add_keep {X : PD} {D : DB} (h : dgood D = 0) (h2 : ((Bm X.orp (Bo D)).isSome || (Bm X.P (Bo D)).isSome) = false) (h3 : judgeB X.P D = 0) (h4 : ¬ 64 ≤ X.orp.length) : X.add D = ({ X with orp := Br X.orp (Bo D) D }, [], 0) := by unfold PD.add; rw [if_pos h, if_neg (by rw [h2]; decide), if_neg oM, if_pos h3, if_neg h4]
theorem add_fits {X : PD} {D : DB} (h : dgood D = 0) (h2 : ((Bm X.orp (Bo D)).isSome || (Bm X.P (Bo D)).isSome) = false) (h3 : judgeB X.P D = 1) :
    X.add D = ((PD.settle (X.adm (Bo D) D).orp.length (X.adm (Bo D) D)).1, Bo D :: (PD.settle (X.adm (Bo D) D).orp.length (X.adm (Bo D) D)).2, 0) := by unfold PD.add; rw [if_pos h, if_neg (by rw [h2]; decide), if_neg oM, if_neg oM]
theorem good_check {D : DB} (h : dgood D = 0) : D.check = 0 := by
  unfold dgood at h
  split at h
  · assumption
  · exact h
def DD.hold (x : DD) (o : List Blk) : DD := { x with cb := x.cb ++ o }
theorem DD.ok.hold {x : DD} (h : x.ok) (o : List Blk) : (x.hold o).ok := { h with
  ent := fun p hp => ⟨(h.ent p hp).1, (h.ent p hp).2.1.more fun b hb => List.mem_append_left _ hb, (h.ent p hp).2.2⟩
  orp := fun p hp => ⟨(h.orp p hp).1, (h.orp p hp).2.1.more fun b hb => List.mem_append_left _ hb, (h.orp p hp).2.2⟩ }
def DD.wait (x : DD) (n : List UInt8) (B : Block) (D : DB) (o : List Blk) : DD := { x with orp := Br x.orp n (B, D), cb := x.cb ++ o }
theorem DD.ok.wait {x : DD} (h : x.ok) {n : List UInt8} {B : Block} {D : DB} {o : List Blk} (h32 : n.length = 32) (hB : SameB B D) (hi : ∀ W2, Lies o W2 → BlockIs W2 B D) (hl : D.ls.length ≤ 16) (hroom : x.names.length + x.orp.length < 20000) (hfew : ¬ 64 ≤ x.orp.length) : (x.wait n B D o).ok := { h with
  orpn := by
    have := mput_len x.orp n (B, D)
    show (Br x.orp n (B, D)).length ≤ 64
    omega
  big := by
    have := mput_len x.orp n (B, D)
    show x.names.length + (Br x.orp n (B, D)).length ≤ 20000
    omega
  ent := fun p hp => ⟨(h.ent p hp).1, (h.ent p hp).2.1.more fun b hb => List.mem_append_left _ hb, (h.ent p hp).2.2⟩
  orp := fun p hp => by
    rcases mput_mem hp with hp | rfl
    · exact ⟨(h.orp p hp).1, (h.orp p hp).2.1.more fun b hb => List.mem_append_left _ hb, (h.orp p hp).2.2⟩
    · exact ⟨h32, ⟨hB, fun W hW => hi W (hW.sub fun b hb => List.mem_append_right _ hb)⟩, hl⟩ }
theorem wait_pl (x : DD) (n : List UInt8) (B : Block) (D : DB) (o : List Blk) : (x.wait n B D o).pl = { x.pl with orp := Br x.pl.orp n D } := by
  unfold DD.pl DD.wait
  simp only
  rw [mput_map (fun b : BV => b.2)]
  rfl
def AddR (x : DD) (p : Nat) (D : DB) (al : List Blk) (v : Value) (out : List Blk) : Prop := ∃ (x' : DD) (s : Sl) (bl : List Blk), v = .tuple #[s.v, i64 (x.pl.add D).2.2] ∧ out = x'.blks p ++ (bl ++ al) ∧ x'.ok ∧ Hw.Acc s bl (Bk (x.pl.add D).2.1) 25 (x.pl.add D).2.1.length 32 ∧ (∀ n ∈ (x.pl.add D).2.1, n.length = 32) ∧ x'.pl = (x.pl.add D).1 ∧ x'.names.length + x'.orp.length ≤ x.names.length + x.orp.length + 1
def SetF (x0 : DD) (p : Nat) (s : Sl) (out : List Blk) : Prop := ∃ (x : DD) (bl : List Blk), out = x.blks p ++ bl ∧ x.ok ∧ Hw.Acc s bl (Bk (PD.settle x0.orp.length x0.pl).2) 25 (PD.settle x0.orp.length x0.pl).2.length 32 ∧ x.names.length + x.orp.length ≤ x0.names.length + x0.orp.length ∧ x.pl = (PD.settle x0.orp.length x0.pl).1
def SetL (x0 : DD) (p : Nat) (v : Value) (out : List Blk) : Prop := ∃ s : Sl, v = s.v ∧ s.n = (PD.settle x0.orp.length x0.pl).2.length ∧ (s.p = none → s.n = 0) ∧ (PD.settle x0.orp.length x0.pl).2.length ≤ 20000 ∧ (∀ n ∈ (PD.settle x0.orp.length x0.pl).2, n.length = 32) ∧ ∀ W2, Lies out W2 → SetF x0 p s out
theorem settle_len : ∀ (f : Nat) (X : PD), (PD.settle f X).2.length ≤ f
  | 0, X => Nat.le_refl _
  | f + 1, X => by
    unfold PD.settle
    cases X.first with
    | none => exact Nat.zero_le _
    | some n =>
      simp only
      split
      · simpa using settle_len f _
      · exact Nat.le_succ_of_le (settle_len f _)
theorem settle_32 : ∀ (f : Nat) (X : PD), (∀ p ∈ X.orp, p.1.length = 32) → ∀ n ∈ (PD.settle f X).2, n.length = 32
  | 0, X, _, n, h => by cases h
  | f + 1, X, hX, n, h => by
    unfold PD.settle at h
    cases hf : X.first with
    | none => rw [hf] at h; cases h
    | some m =>
      have hd : ∀ p ∈ (X.drop1 m).orp, p.1.length = 32 := fun p hp => hX p (mdel_mem hp)
      rw [hf] at h
      simp only at h
      split at h
      · rcases List.mem_cons.1 h with rfl | h
        · have := List.mem_of_find?_eq_some hf
          obtain ⟨q, hq, e⟩ := List.mem_map.1 ((isort_perm _).mem_iff.1 this)
          rw [← e]; exact hX q hq
        · exact settle_32 f _ (by exact hd) n h
      · exact settle_32 f _ hd n h
theorem there_eq (x : DD) (n : List UInt8) : ((Bm x.pl.orp n).isSome || (Bm x.pl.P n).isSome) = ((Bm x.orp n).isSome || (Bm x.ent n).isSome) := by
  rw [x.getO, show x.pl.P = x.P from rfl, x.getP, Option.isSome_map, Option.isSome_map]
theorem addR_err {x : DD} {p : Nat} {D : DB} {al : List Blk} {e : Int} (hx : x.ok) (h : x.pl.add D = (x.pl, [], e)) : AddR x p D al (.tuple #[.slice none 0 0, i64 e]) (x.blks p ++ al) := by
  unfold AddR
  rw [h]
  exact ⟨x, Sl.nil, [], rfl, rfl, hx, Acc.none, (fun n (h : n ∈ ([] : List (List UInt8))) => (by cases h)), rfl, Nat.le_succ _⟩
theorem addR_keep {x : DD} {p : Nat} {D : DB} {al o : List Blk} {B : Block} (hx : x.ok) (hB : SameB B D) (hi : ∀ W2, Lies o W2 → BlockIs W2 B D) (hl : D.ls.length ≤ 16) (hroom : x.names.length + x.orp.length < 20000) (hfew : ¬ 64 ≤ x.orp.length)
    (h : x.pl.add D = ({ x.pl with orp := Br x.pl.orp (Bo D) D }, [], 0)) : AddR x p D al (.tuple #[.slice none 0 0, i64 0]) ((x.wait (Bo D) B D o).blks p ++ al) := by
  unfold AddR
  rw [h]
  refine ⟨x.wait (Bo D) B D o, Sl.nil, [], rfl, rfl, hx.wait (nameD_length D) hB hi hl hroom hfew, Acc.none, (fun n (h : n ∈ ([] : List (List UInt8))) => (by cases h)), wait_pl .., ?_⟩
  have := mput_len x.orp (Bo D) (B, D)
  show x.names.length + (Br x.orp (Bo D) (B, D)).length ≤ _
  omega
theorem addR_fits {x x2 x3 : DD} {p : Nat} {D : DB} {al bl3 bl : List Blk} {s : Sl} (hplx : x2.pl = x.pl.adm (Bo D) D) (hol : x2.names.length + x2.orp.length = x.names.length + x.orp.length + 1) (hx2 : x2.ok) (hx3 : x3.ok) (hn3 : x3.names.length + x3.orp.length ≤ x2.names.length + x2.orp.length) (hpl3 : x3.pl = (PD.settle x2.orp.length x2.pl).1)
    (h32 : ∀ n ∈ (PD.settle x2.orp.length x2.pl).2, n.length = 32) (hac : Hw.Acc s bl (Aa (Bo D) ++ Bk (PD.settle x2.orp.length x2.pl).2) 25 (1 + (PD.settle x2.orp.length x2.pl).2.length) 32)
    (h : x.pl.add D = ((PD.settle (x.pl.adm (Bo D) D).orp.length (x.pl.adm (Bo D) D)).1, Bo D :: (PD.settle (x.pl.adm (Bo D) D).orp.length (x.pl.adm (Bo D) D)).2, 0)) : AddR x p D al (.tuple #[s.v, i64 0]) (x3.blks p ++ (bl ++ al)) := by
  have e : (x.pl.adm (Bo D) D).orp.length = x2.orp.length := by rw [← hplx]; show (x2.orp.map _).length = _; rw [List.length_map]
  rw [e, ← hplx] at h
  unfold AddR
  rw [h]
  refine ⟨x3, s, bl, rfl, rfl, hx3, ?_, ?_, hpl3, by omega⟩
  · show Hw.Acc s bl (Bk (Bo D :: _)) 25 (Bo D :: _).length 32
    rw [List.length_cons, Nat.add_comm]
    have e2 : ∀ l : List (List UInt8), Bk (Bo D :: l) = Aa (Bo D) ++ Bk l := fun l => by simp [Bk]
    rw [e2]; exact hac
  · intro n hn
    rcases List.mem_cons.1 hn with rfl | hn
    · exact nameD_length D
    · exact h32 n hn
theorem dag_settleL (x0 : DD) (hx0 : x0.ok) (p : Nat) : Meets Tryz.prog 39 [ptr p 0] ((x0.blks p).map (·.n)) (fun W => Lent (x0.blks p) W) (SetL x0 p) :=
  (dag_settle x0 hx0 p).imp (fun w h => h) fun v out ⟨x, s, bl, l, h1, h2, h3, h4, h5, h6, h7, h8, h9⟩ => by
    subst h9
    exact ⟨s, h1, h4.num, h4.nil, by have := hx0.big; omega, h5, fun W2 _ => ⟨x, bl, h2, h3, h4, h6, h8⟩⟩
theorem no_lieU {n : Nat} {w : World} (h : Lies [⟨n, [undef], 0, 0⟩] w) : False := by
  exact lie_none h
theorem SetL.loose (x0 : DD) (hx0 : x0.ok) (p : Nat) (lent : List Nat) : LooseL lent (SetL x0 p) := fun l hl _ => by
  obtain ⟨n, _, hn⟩ := fresh_is 0 l
  have h32 : ∀ q ∈ x0.pl.orp, q.1.length = 32 := fun q hq => by
    obtain ⟨r, hr, rfl⟩ := List.mem_map.1 hq
    exact (hx0.orp r hr).1
  refine ⟨_, [⟨n, [undef], 0, 0⟩], ⟨⟨some ⟨0, 0, none⟩, (PD.settle x0.orp.length x0.pl).2.length, 0⟩, rfl, rfl, (fun e => by cases e), by have := settle_len x0.orp.length x0.pl; have := hx0.big; omega, settle_32 _ _ h32, fun W2 h => (no_lieU h).elim⟩, ?_⟩
  simp only [List.singleton_append, List.map_cons, List.nodup_cons]
  exact ⟨fun h => by obtain ⟨b, hb, e⟩ := List.mem_map.1 h; exact hn b hb e, hl⟩

theorem dag_add (x : DD) (hx : x.ok) (p : Nat) (B : Block) (D : DB) (al : List Blk) (hB : Held al B D) (hroom : x.names.length + x.orp.length < 20000) : Meets Tryz.prog 10 [ptr p 0, agg B.cells] ((x.blks p ++ al).map (·.n)) (fun W => Lent (x.blks p ++ al) W) (AddR x p D al) := by
 intro W hW
 have hbig := hx.big
 have hbd := hB.2 W (hW.1.sub (fun b hb => List.mem_append_right _ hb))
 have hn32 := nameD_length D
 generalize hlt : (x.blks p ++ al).map (·.n) = lt
 have AGR : AddR x p D al = AddR x p D al := rfl
 refine calls_of (hp0 := (x.blks p ++ al)) Tryz.func10 J 65 Tryz.ntmps10 J (hlt ▸ hW.rep) (.sr ?_)
 simp only [DD.blks, List.cons_append, List.nil_append, List.append_assoc]
 refine .boxA J J ?_
 intro n3 hn3 hf3
 refine .a J J J (.a J J J (.nil (Am (.seq (.sr (.m J J J (.cV J J J J Body33 (dag_valid x p) (fun w h => DagSee.of h mM mM) ?_)))))))
 refine .not J J J (.nil (Am (.cond_f J J (.skip (Am (.seq (.sr (.lA J J J Y31.h J Sz31 mM (Block.length (by first | exact hB.1.ok | exact hx.orpOk hg | exact oK | exact Point.zero_ok | exact wide.zero_ok | exact secrets.zero_ok | exact far.zero_ok | exact Cut.zero_ok | exact Cert.zero_ok | exact Msg.zero_ok | exact Inbox.zero_ok | exact Record.zero_ok | exact Kept.zero_ok | exact Rdr.zero_ok | exact DEnt.zero_ok | exact DPl.zero_ok )) ?_))))))))
 refine .cV J J J J Body34 (db_good B D hB.1.ok) (fun w h => hB.2 w (Lies.of h iN)) ?_
 refine .a J J J (.nil (Am (.sr (.m J J J (.nei J J J J J (.nil (Am ?_)))))))
 first
  | refine Sat.condP rfl (fun hc1 => ?_) (fun hc1 => ?_)
  | refine Sat.condNP rfl (fun hc1 => ?_) (fun hc1 => ?_)
  | refine Sat.cond rfl (fun hc1 => ?_) (fun hc1 => ?_)
 ·
  refine .sr (.m J J J (.a J J J (.a J J J (.nil (Am ?_)))))
  skip
  refine .ret (at_r (A0 (Bi (out := (⟨p, [ptr p 0, x.nm.v, .map (some x.bE), .map (some x.bH), .map (some x.bO), .map (some x.bP), .map (some x.bW)], 75, 7⟩ :: (A8 x.bE (Aw 32 evE) x.ent :: (A8 x.bH (Aw 32 evU) x.hds :: (A8 x.bO (Aw 32 evB) x.orp :: (A8 x.bP (placeT 32 evR) x.pls :: (A8 x.bW (Aw 32 evR) x.wrs :: (x.nb ++ (x.cb ++ (rbl x.pls ++ (rbl x.wrs ++ (al ++ [])))))))))))) (res_tmp2 J J J) (Ab rM (Ab rM (Ab rM (Ab rM (Ab rM (Ab rM (Aj sG (Aj sG (Aj sG (Aj sG (Aj sG Au))))))))))) ?_)))
  have h9 := addR_err (p := p) (al := al) hx (add_bad hc1)
  simp only [DD.blks, DD.wait, List.cons_append, List.nil_append, List.append_nil, List.append_assoc] at h9 ⊢
  exact h9
 have hgd : dgood D = 0 := by omega
 have hck := good_check hgd
 obtain ⟨hs1, hs2⟩ := D.head_small hck
 refine .skip (Am (.sr (.lA J J J Y31.h J Sz31 mM (Block.length (by first | exact hB.1.ok | exact hx.orpOk hg | exact oK | exact Point.zero_ok | exact wide.zero_ok | exact secrets.zero_ok | exact far.zero_ok | exact Cut.zero_ok | exact Cert.zero_ok | exact Msg.zero_ok | exact Inbox.zero_ok | exact Record.zero_ok | exact Kept.zero_ok | exact Rdr.zero_ok | exact DEnt.zero_ok | exact DPl.zero_ok )) ?_)))
 refine .cV J J J J Body35 (db_name B D) (fun w h => hB.2 w (Lies.of h iN)) ?_
 refine .alloc (cs := (Aa (List.replicate 32 0))) J Zr25 J ?_
 intro n7 hn7 hf7
 first
  | refine Tr.sA rfl rfl rfl rfl (by first | exact Aq _ | exact A3 _ | simp [isCell]) Sz25 lN mM lN uU ?_
  | refine Tr.storeN _ rfl rfl rfl rfl rfl (by first | exact Aq _ | exact A3 _ | simp [isCell]) Sz25 lN mM lN (by exact rfl) uU ?_
 refine .nil (Am (.seq (.seq (.draw [(0, 0), (0, 1), (0, 2), (1, 3), (1, 4), (1, 5), (0, 6), (0, 7), (0, 8), (2, 9), (4, 10), (0, 11)] As zK (.m J J J (.nC J J J (.fld J J J Tryz.underlying75 J Sz71 dE _ J (.load1 J J J Y71 J mM (by first | rfl | exact A4 (by first | omega | (simp; omega)) | exact A4 (by first | omega | (simp; omega)) | exact A7 (by first | omega | (simp; done) | (simp; omega)) | exact Bh (by first | omega | (simp; done) | (simp; omega)) | exact B8 (by first | omega | (simp; done) | (simp; omega))) ?_))))))))
 first
  | refine Tr.lA rfl rfl rfl Y25.h rfl Sz25 mM lN ?_
  | refine Tr.lN _ rfl rfl rfl Y25.h rfl Sz25 mM (by exact rfl) lN ?_
 refine .lookF evB MO J J J J hn32 mM (fun hg => ?_) (fun e hg => ?_)
 ·
  skip
  refine .m J J J (.eX J J J J (.eX J J J J (.alloc (cs := Block.zero.cells) J Block.zr J ?_)))
  intro n8 hn8 hf8
  refine .sA J J J J (Block.isCell (by first | exact hB.1.ok | exact hx.orpOk hg | exact oK | exact Point.zero_ok | exact wide.zero_ok | exact secrets.zero_ok | exact far.zero_ok | exact Cut.zero_ok | exact Cert.zero_ok | exact Msg.zero_ok | exact Inbox.zero_ok | exact Record.zero_ok | exact Kept.zero_ok | exact Rdr.zero_ok | exact DEnt.zero_ok | exact DPl.zero_ok )) Sz31 (Block.length (by first | exact hB.1.ok | exact hx.orpOk hg | exact oK | exact Point.zero_ok | exact wide.zero_ok | exact secrets.zero_ok | exact far.zero_ok | exact Cut.zero_ok | exact Cert.zero_ok | exact Msg.zero_ok | exact Inbox.zero_ok | exact Record.zero_ok | exact Kept.zero_ok | exact Rdr.zero_ok | exact DEnt.zero_ok | exact DPl.zero_ok )) mM (Block.length (by first | exact hB.1.ok | exact hx.orpOk hg | exact oK | exact Point.zero_ok | exact wide.zero_ok | exact secrets.zero_ok | exact far.zero_ok | exact Cut.zero_ok | exact Cert.zero_ok | exact Msg.zero_ok | exact Inbox.zero_ok | exact Record.zero_ok | exact Kept.zero_ok | exact Rdr.zero_ok | exact DEnt.zero_ok | exact DPl.zero_ok )) uU ?_
  refine .a J J J (.nil (Am (.sr (.m J J J (.m J J J (.m J J J ?_))))))
  first
   | refine Tr.lA rfl rfl rfl Y25.h rfl Sz25 mM lN ?_
   | refine Tr.lN _ rfl rfl rfl Y25.h rfl Sz25 mM (by exact rfl) lN ?_
  refine .cV J J J J Body13 (dag_has x hx p (Bo D) hn32) (fun w h => DagSee.of h mM mM) ?_
  refine .pick J J J J J J (.nil (Am ?_))
  first
   | refine Sat.condP rfl (fun hc2 => ?_) (fun hc2 => ?_)
   | refine Sat.condNP rfl (fun hc2 => ?_) (fun hc2 => ?_)
   | refine Sat.cond rfl (fun hc2 => ?_) (fun hc2 => ?_)
  ·
   refine .sr (.a J J J (.a J J J (.nil (Am ?_))))
   skip
   refine .ret (at_r (A0 (Bi (out := (⟨p, [ptr p 0, x.nm.v, .map (some x.bE), .map (some x.bH), .map (some x.bO), .map (some x.bP), .map (some x.bW)], 75, 7⟩ :: (A8 x.bE (Aw 32 evE) x.ent :: (A8 x.bH (Aw 32 evU) x.hds :: (A8 x.bO (Aw 32 evB) x.orp :: (A8 x.bP (placeT 32 evR) x.pls :: (A8 x.bW (Aw 32 evR) x.wrs :: (x.nb ++ (x.cb ++ (rbl x.pls ++ (rbl x.wrs ++ (al ++ [])))))))))))) (res_tmp2 J J J) (Ab rM (Ab rM (Ab rM (Ab rM (Ab rM (Ab rM (Aj sG (Aj sG (Aj sG (Aj sG (Aj sG Au))))))))))) ?_)))
   have h9 := addR_err (p := p) (al := al) hx (add_there hgd (by rw [there_eq, hg, hc2]; rfl))
   simp only [DD.blks, DD.wait, List.cons_append, List.nil_append, List.append_nil, List.append_assoc] at h9 ⊢
   exact h9
  refine .skip (Am (.seq (.sr (.m J J J (.lA J J J Y31.h J Sz31 mM (Block.length (by first | exact hB.1.ok | exact hx.orpOk hg | exact oK | exact Point.zero_ok | exact wide.zero_ok | exact secrets.zero_ok | exact far.zero_ok | exact Cut.zero_ok | exact Cert.zero_ok | exact Msg.zero_ok | exact Inbox.zero_ok | exact Record.zero_ok | exact Kept.zero_ok | exact Rdr.zero_ok | exact DEnt.zero_ok | exact DPl.zero_ok )) ?_)))))
  refine .cV J J J J Body36 (dag_judge x hx p B D hB.1 oM) (fun w h => ⟨DagSee.of h mM mM, hB.2 w (Lies.of h iN)⟩) ?_
  refine .nil (Am (.block (.sr (.eqi J J J J J (.a J J J (.nil (Am ?_)))))))
  first
   | refine Sat.condP rfl (fun hc3 => ?_) (fun hc3 => ?_)
   | refine Sat.condNP rfl (fun hc3 => ?_) (fun hc3 => ?_)
   | refine Sat.cond rfl (fun hc3 => ?_) (fun hc3 => ?_)
  ·
   refine .sr (.a J J J (.a J J J (.nil (Am ?_))))
   skip
   refine .ret (bl_r (at_r (A0 (Bi (out := (⟨p, [ptr p 0, x.nm.v, .map (some x.bE), .map (some x.bH), .map (some x.bO), .map (some x.bP), .map (some x.bW)], 75, 7⟩ :: (A8 x.bE (Aw 32 evE) x.ent :: (A8 x.bH (Aw 32 evU) x.hds :: (A8 x.bO (Aw 32 evB) x.orp :: (A8 x.bP (placeT 32 evR) x.pls :: (A8 x.bW (Aw 32 evR) x.wrs :: (x.nb ++ (x.cb ++ (rbl x.pls ++ (rbl x.wrs ++ (al ++ [])))))))))))) (res_tmp2 J J J) (Ab rM (Ab rM (Ab rM (Ab rM (Ab rM (Ab rM (Aj sG (Aj sG (Aj sG (Aj sG (Aj sG Au))))))))))) ?_))))
   have h9 := addR_err (p := p) (al := al) hx (add_wrong hgd (by rw [there_eq, hg, hc2]; rfl) hc3)
   simp only [DD.blks, DD.wait, List.cons_append, List.nil_append, List.append_nil, List.append_assoc] at h9 ⊢
   exact h9
  refine .sr (.eqi J J J J J (.a J J J (.nil (Am ?_))))
  first
   | refine Sat.condP rfl (fun hc4 => ?_) (fun hc4 => ?_)
   | refine Sat.condNP rfl (fun hc4 => ?_) (fun hc4 => ?_)
   | refine Sat.cond rfl (fun hc4 => ?_) (fun hc4 => ?_)
  ·
   refine .seq (.sr (.m J J J (.nC J J J (.fld J J J Tryz.underlying75 J Sz71 dE _ J (.load1 J J J Y71 J mM (by first | rfl | exact A4 (by first | omega | (simp; omega)) | exact A4 (by first | omega | (simp; omega)) | exact A7 (by first | omega | (simp; done) | (simp; omega)) | exact Bh (by first | omega | (simp; done) | (simp; omega)) | exact B8 (by first | omega | (simp; done) | (simp; omega))) ?_)))))
   refine .lenMap Y71 J J J mM ?_
   refine .geq J J J J J (.nil (Am ?_))
   first
    | refine Sat.condP rfl (fun hc5 => ?_) (fun hc5 => ?_)
    | refine Sat.condNP rfl (fun hc5 => ?_) (fun hc5 => ?_)
    | refine Sat.cond rfl (fun hc5 => ?_) (fun hc5 => ?_)
   ·
    refine .sr (.a J J J (.a J J J (.nil (Am ?_))))
    skip
    refine .ret (at_r (bl_r (at_r (A0 (Bi (out := (⟨p, [ptr p 0, x.nm.v, .map (some x.bE), .map (some x.bH), .map (some x.bO), .map (some x.bP), .map (some x.bW)], 75, 7⟩ :: (A8 x.bE (Aw 32 evE) x.ent :: (A8 x.bH (Aw 32 evU) x.hds :: (A8 x.bO (Aw 32 evB) x.orp :: (A8 x.bP (placeT 32 evR) x.pls :: (A8 x.bW (Aw 32 evR) x.wrs :: (x.nb ++ (x.cb ++ (rbl x.pls ++ (rbl x.wrs ++ (al ++ [])))))))))))) (res_tmp2 J J J) (Ab rM (Ab rM (Ab rM (Ab rM (Ab rM (Ab rM (Aj sG (Aj sG (Aj sG (Aj sG (Aj sG Au))))))))))) ?_)))))
    have h9 := addR_err (p := p) (al := al) hx (add_full hgd (by rw [there_eq, hg, hc2]; rfl) hc4 (by show 64 ≤ (x.orp.map _).length; rw [List.length_map]; omega))
    simp only [DD.blks, DD.wait, List.cons_append, List.nil_append, List.append_nil, List.append_assoc] at h9 ⊢
    exact h9
   refine .skip (Am (.seq (.draw [(0, 0), (0, 1), (0, 2), (1, 3), (1, 4), (1, 5), (3, 6), (4, 7)] As zK (.m J J J (.nC J J J (.fld J J J Tryz.underlying75 J Sz71 dE _ J (.load1 J J J Y71 J mM (by first | rfl | exact A4 (by first | omega | (simp; omega)) | exact A4 (by first | omega | (simp; omega)) | exact A7 (by first | omega | (simp; done) | (simp; omega)) | exact Bh (by first | omega | (simp; done) | (simp; omega)) | exact B8 (by first | omega | (simp; done) | (simp; omega))) ?_)))))))
   first
    | refine Tr.lA rfl rfl rfl Y25.h rfl Sz25 mM lN ?_
    | refine Tr.lN _ rfl rfl rfl Y25.h rfl Sz25 mM (by exact rfl) lN ?_
   refine .lA J J J Y31.h J Sz31 mM (Block.length (by first | exact hB.1.ok | exact hx.orpOk hg | exact oK | exact Point.zero_ok | exact wide.zero_ok | exact secrets.zero_ok | exact far.zero_ok | exact Cut.zero_ok | exact Cert.zero_ok | exact Msg.zero_ok | exact Inbox.zero_ok | exact Record.zero_ok | exact Kept.zero_ok | exact Rdr.zero_ok | exact DEnt.zero_ok | exact DPl.zero_ok )) ?_
   refine .call J J J J Body37 (dag_clone B D hB.1 oM oM) (BlkV.loose D hbd.dok) (fun w h => hB.2 w (Lies.of h iN)) ?_
   rintro v54 out54 ⟨B2, hB2, rfl, hbi⟩
   refine .mapPut (v := ((B2, D) : BV)) MO J J J J J hn32 rM ?_
   refine .nil (Am (.sr (.a J J J (.a J J J (.nil (Am ?_))))))
   skip
   refine .ret (bl_r (at_r (A0 (Bi (out := (⟨p, [ptr p 0, x.nm.v, .map (some x.bE), .map (some x.bH), .map (some x.bO), .map (some x.bP), .map (some x.bW)], 75, 7⟩ :: (A8 x.bE (Aw 32 evE) x.ent :: (A8 x.bH (Aw 32 evU) x.hds :: (A8 x.bO (Aw 32 evB) (Br x.orp (Bo D) (B2, D)) :: (A8 x.bP (placeT 32 evR) x.pls :: (A8 x.bW (Aw 32 evR) x.wrs :: (x.nb ++ (x.cb ++ (out54 ++ (rbl x.pls ++ (rbl x.wrs ++ (al ++ []))))))))))))) (res_tmp2 J J J) (Ab rM (Ab rM (Ab rM (Ab rM (Ab rM (Ab rM (Aj sG (Aj sG (Aj sG (Aj sG (Aj sG (Aj sG Au)))))))))))) ?_))))
   have h9 := addR_keep (p := p) (al := al) hx hB2 hbi oM hroom oM (add_keep hgd (by rw [there_eq, hg, hc2]; rfl) hc4 (by show ¬ 64 ≤ (x.orp.map _).length; rw [List.length_map]; omega))
   simp only [DD.blks, DD.wait, List.cons_append, List.nil_append, List.append_nil, List.append_assoc] at h9 ⊢
   exact h9
  refine .skip (B1 (Am (.join (ι := Unit × DD) (fun j => ⟨[(0, ptr p 0), (7, ptr n7 0)], (⟨n7, Aa (Bo D), 25, 32⟩ :: (⟨p, [ptr p 0, j.2.nm.v, .map (some j.2.bE), .map (some j.2.bH), .map (some j.2.bO), .map (some j.2.bP), .map (some j.2.bW)], 75, 7⟩ :: (A8 j.2.bE (Aw 32 evE) j.2.ent :: (A8 j.2.bH (Aw 32 evU) j.2.hds :: (A8 j.2.bO (Aw 32 evB) j.2.orp :: (A8 j.2.bP (placeT 32 evR) j.2.pls :: (A8 j.2.bW (Aw 32 evR) j.2.wrs :: (j.2.nb ++ (j.2.cb ++ (rbl j.2.pls ++ (rbl j.2.wrs ++ (al ++ []))))))))))))⟩) (fun j => j.2.ok ∧ j.2.pl = x.pl.adm (Bo D) D ∧ j.2.names.length = x.names.length + 1 ∧ j.2.orp.length = x.orp.length) ?_ ?_)))
  ·
   refine .draw [(0, 0), (1, 1), (1, 2), (3, 3), (4, 4)] As zK (.m J J J ?_)
   first
    | refine Tr.lA rfl rfl rfl Y25.h rfl Sz25 mM lN ?_
    | refine Tr.lN _ rfl rfl rfl Y25.h rfl Sz25 mM (by exact rfl) lN ?_
   refine .lA J J J Y31.h J Sz31 mM (Block.length (by first | exact hB.1.ok | exact hx.orpOk hg | exact oK | exact Point.zero_ok | exact wide.zero_ok | exact secrets.zero_ok | exact far.zero_ok | exact Cut.zero_ok | exact Cert.zero_ok | exact Msg.zero_ok | exact Inbox.zero_ok | exact Record.zero_ok | exact Kept.zero_ok | exact Rdr.zero_ok | exact DEnt.zero_ok | exact DPl.zero_ok )) ?_
   refine .call J J J J Body37 (dag_clone B D hB.1 oM oM) (BlkV.loose D hbd.dok) (fun w h => hB.2 w (Lies.of h iN)) ?_
   rintro v58 out58 ⟨B2, hB2, rfl, hbi⟩
   refine .callL (L := ((x.hold out58).blks p)) J J J J J Body38 (dag_admit2 (x.hold out58) (hx.hold out58) p (Bo D) hn32 B2 D ⟨hB2, fun W hW => hbi W (hW.sub fun b hb => List.mem_append_right _ hb)⟩ oM hroom) (Ab rM (Ab rM (Ab rM (Ab rM (Ab rM (Ab rM (Aj sG (pm_two (Aj sG (Aj sG (Aj sG (Aj sG Au)))))))))))) (lent_ok J) (fun w h => Lent.of h (Ab rM (Ab rM (Ab rM (Ab rM (Ab rM (Ab rM (Aj sG (pm_two (Aj sG (Aj sG (Aj sG (Aj sG Au))))))))))))) ?_
   rintro v59 out59 ⟨rfl, x2, rfl, hx2, hplx, hnlx, holx⟩
   simp only [DD.blks, List.cons_append, List.nil_append, List.append_assoc]
   refine .nil (Am ?_)
   exact ⟨((), x2), ⟨hx2, hplx, hnlx, holx⟩, Ax (wk1 rfl (wk1 rfl wk0)) (Ab rM (Ab rM (Ab rM (Ab rM (Ab rM (Ab rM (Ab rM (Aj sG (Aj sG (Aj sG (Aj sG (Aj sG Au))))))))))))⟩
  intro j hj
  obtain ⟨j0, x2⟩ := j
  simp only at hj ⊢
  obtain ⟨hx2, hplx, hnlx, holx⟩ := hj
  refine .seq (.withK (sp_k (sp_v (sp_v (sp_v (sp_v (sp_v (sp_v (sp_x (sp_x (sp_x (sp_x (sp_x sp_n)))))))))))) J (.draw [(0, 0), (0, 2), (5, 3), (2, 1), (4, 4), (0, 5), (0, 6)] As zK ?_))
  first
   | refine Tr.kloadAll rfl rfl rfl Y25.h rfl Sz25 mM lN ?_
   | refine Tr.kloadN _ rfl rfl rfl Y25.h rfl Sz25 mM (by exact rfl) lN ?_
  refine .m J J J (.callL5 (L := (x2.blks p)) J J J J J Body39 (dag_settleL x2 hx2 p) (SetL.loose x2 hx2 p _) (Ab rM (Ab rM (Ab rM (Ab rM (Ab rM (Ab rM (Aj sG (Aj sG (Aj sG (Aj sG Au)))))))))) (lent_ok J) (fun w h => Lent.of h (Ab rM (Ab rM (Ab rM (Ab rM (Ab rM (Ab rM (Aj sG (Aj sG (Aj sG (Aj sG Au))))))))))) ?_)
  rintro v63 out63 ⟨⟨p63, n63, c63⟩, rfl, hn63, hnil63, hle63, h3263, hsf⟩
  refine .mkRow2 (z := agg (Aa (List.replicate 32 0))) [agg (Aa (Bo D))] (Aa (Bo D)) J J Y26.h Sz25 Zr25 J J (by intro v hv; rw [List.mem_singleton.1 hv]; simp [Value.cells, agg, Aa, hn32]) dE (by simp [Value.cells, agg]) ?_
  intro q61
  refine .appendAcc (n := 1) (z := agg (Aa (List.replicate 32 0))) (by' := 32) (Bk (PD.settle x2.orp.length x2.pl).2) J J J J J Y26.h Y26.h Sz25 Zr25 (by unfold By; kernel_rfl) J (Acc.some (cells := Aa (Bo D)) (Nat.le_refl 1) (by rw [Aa, List.length_map, hn32])) (pm_consE rM J (by rw [Aa, List.length_map, hn32]) Au) (fun w h => by have hL : Lies out63 w := Lies.of h iN; obtain ⟨x3, bl3, e3, hx3, hac3, hr3⟩ := hsf w hL; exact hac3.see (hL.sub (fun b hb => by rw [e3]; exact List.mem_append_right _ hb))) hnil63 (flatB_cell _) oM oM (by rw [Bu h3263, ← hn63]) ?_
  intro s64 bl64 hac64
  refine .a J J J (.a J J J (.nil (Am ?_)))
  simp only [List.cons_append, List.nil_append, List.append_nil, List.append_assoc]
  refine .know (fun w h => hsf w (Lies.of h iN)) (fun hF => ?_)
  obtain ⟨x3, bl3, rfl, hx3, hac3, hr3, hpl3⟩ := hF
  simp only [DD.blks, List.cons_append, List.nil_append, List.append_assoc]
  refine .ret (A0 (Bi (out := (⟨p, [ptr p 0, x3.nm.v, .map (some x3.bE), .map (some x3.bH), .map (some x3.bO), .map (some x3.bP), .map (some x3.bW)], 75, 7⟩ :: (A8 x3.bE (Aw 32 evE) x3.ent :: (A8 x3.bH (Aw 32 evU) x3.hds :: (A8 x3.bO (Aw 32 evB) x3.orp :: (A8 x3.bP (placeT 32 evR) x3.pls :: (A8 x3.bW (Aw 32 evR) x3.wrs :: (x3.nb ++ (x3.cb ++ (rbl x3.pls ++ (rbl x3.wrs ++ (bl64 ++ (al ++ []))))))))))))) (res_tmp2 J J J) (Ab rM (Ab rM (Ab rM (Ab rM (Ab rM (Ab rM (Aj sG (Aj sG (Aj sG (Aj sG (Aj sG (Aj sG Au)))))))))))) ?_))
  have h9 := addR_fits (p := p) (al := al) (bl3 := bl3) hplx oM hx2 hx3 hr3 hpl3 h3263 (by rw [← hn63]; exact hac64) (add_fits hgd (by rw [there_eq, hg, hc2]; rfl) (by rcases judge_cases x.P D with h8 | h8 | h8 <;> first | exact h8 | exact absurd h8 zA))
  simp only [DD.blks, DD.wait, List.cons_append, List.nil_append, List.append_nil, List.append_assoc] at h9 ⊢
  exact h9
 skip
 refine .m J J J (.eX J J J J (.eX J J J J (.alloc (cs := Block.zero.cells) J Block.zr J ?_)))
 intro n8 hn8 hf8
 refine .sA J J J J (Block.isCell (by first | exact hB.1.ok | exact hx.orpOk hg | exact oK | exact Point.zero_ok | exact wide.zero_ok | exact secrets.zero_ok | exact far.zero_ok | exact Cut.zero_ok | exact Cert.zero_ok | exact Msg.zero_ok | exact Inbox.zero_ok | exact Record.zero_ok | exact Kept.zero_ok | exact Rdr.zero_ok | exact DEnt.zero_ok | exact DPl.zero_ok )) Sz31 (Block.length (by first | exact hB.1.ok | exact hx.orpOk hg | exact oK | exact Point.zero_ok | exact wide.zero_ok | exact secrets.zero_ok | exact far.zero_ok | exact Cut.zero_ok | exact Cert.zero_ok | exact Msg.zero_ok | exact Inbox.zero_ok | exact Record.zero_ok | exact Kept.zero_ok | exact Rdr.zero_ok | exact DEnt.zero_ok | exact DPl.zero_ok )) mM (Block.length (by first | exact hB.1.ok | exact hx.orpOk hg | exact oK | exact Point.zero_ok | exact wide.zero_ok | exact secrets.zero_ok | exact far.zero_ok | exact Cut.zero_ok | exact Cert.zero_ok | exact Msg.zero_ok | exact Inbox.zero_ok | exact Record.zero_ok | exact Kept.zero_ok | exact Rdr.zero_ok | exact DEnt.zero_ok | exact DPl.zero_ok )) uU ?_
 refine .a J J J (.nil (Am (.sr (.m J J J (.m J J J (.skp J J (.skp J J (.skp J J (.pick J J J J J J (.nil (Am (.cond_t J J (.sr (.a J J J (.a J J J (.nil (Am ?_)))))))))))))))))
 skip
 refine .ret (at_r (A0 (Bi (out := (⟨p, [ptr p 0, x.nm.v, .map (some x.bE), .map (some x.bH), .map (some x.bO), .map (some x.bP), .map (some x.bW)], 75, 7⟩ :: (A8 x.bE (Aw 32 evE) x.ent :: (A8 x.bH (Aw 32 evU) x.hds :: (A8 x.bO (Aw 32 evB) x.orp :: (A8 x.bP (placeT 32 evR) x.pls :: (A8 x.bW (Aw 32 evR) x.wrs :: (x.nb ++ (x.cb ++ (rbl x.pls ++ (rbl x.wrs ++ (al ++ [])))))))))))) (res_tmp2 J J J) (Ab rM (Ab rM (Ab rM (Ab rM (Ab rM (Ab rM (Aj sG (Aj sG (Aj sG (Aj sG (Aj sG Au))))))))))) ?_)))
 have h9 := addR_err (p := p) (al := al) hx (add_there hgd (by rw [there_eq, hg]; rfl))
 simp only [DD.blks, DD.wait, List.cons_append, List.nil_append, List.append_nil, List.append_assoc] at h9 ⊢
 exact h9

theorem DD.m0 (x : DD) (p : Nat) : (⟨p, [ptr p 0, x.nm.v, .map (some x.bE), .map (some x.bH), .map (some x.bO), .map (some x.bP), .map (some x.bW)], 75, 7⟩ : Blk) ∈ x.blks p := by unfold DD.blks; exact List.mem_cons_self
theorem DD.mE (x : DD) (p : Nat) : A8 x.bE (Aw 32 evE) x.ent ∈ x.blks p := by unfold DD.blks; exact mem1
theorem DD.mO (x : DD) (p : Nat) : A8 x.bO (Aw 32 evB) x.orp ∈ x.blks p := by unfold DD.blks; exact mem3
theorem DD.mcb (x : DD) (p : Nat) : ∀ b ∈ x.cb, b ∈ x.blks p := by unfold DD.blks; exact iN
theorem DagSee.lies {x : DD} {p : Nat} {W : World} (h : Lies (x.blks p) W) : DagSee x p W := ⟨h _ (x.m0 p), h _ (x.mE p)⟩
theorem lies_keep {C : Cx} {hp L : List Blk} {w : World} (h : Lies L C.W0) (hh : HRep C hp w) (hl : C.lent = [] := by rfl) : Lies L w := fun b hb => mblk_keep (h b hb) hh hl
def ddp (l : List (List UInt8)) : List (List UInt8) := l.foldr (fun a acc => if a ∈ acc then acc else a :: acc) []
theorem mem_ddp {a : List UInt8} : ∀ {l : List (List UInt8)}, a ∈ ddp l ↔ a ∈ l
  | [] => Iff.rfl
  | b :: l => by
    have ih := @mem_ddp a l
    show a ∈ (if b ∈ ddp l then ddp l else b :: ddp l) ↔ _
    split
    · rename_i h
      rw [ih, List.mem_cons]
      exact ⟨.inr, fun h2 => by rcases h2 with rfl | h2; exact ih.1 h; exact h2⟩
    · rw [List.mem_cons, List.mem_cons, ih]
theorem ddp_nodup : ∀ l, (ddp l).Nodup
  | [] => List.nodup_nil
  | b :: l => by
    show (if b ∈ ddp l then ddp l else b :: ddp l).Nodup
    split
    · exact ddp_nodup l
    · rename_i h; exact List.nodup_cons.2 ⟨h, ddp_nodup l⟩
def PD.lacks (X : PD) (n : List UInt8) : Bool := !(Bm X.orp n).isSome && !(Bm X.P n).isSome
def PD.missing (X : PD) : List (List UInt8) := isort (ddp (((X.orp.map fun p => parL p.2).flatten).filter X.lacks))
def PD.orphans (X : PD) : List (List UInt8) := isort (X.orp.map (·.1))
theorem keys_put {ν : Type} (fs : List (List UInt8 × ν)) (k : List UInt8) (v : ν) (n : List UInt8) : n ∈ (Br fs k v).map (·.1) ↔ n ∈ fs.map (·.1) ∨ n = k := by
  have key : ∀ j, midx fs k = some j → (fs.set j (k, v)).map (·.1) = fs.map (·.1) ∧ k ∈ fs.map (·.1) := fun j h => by
    unfold midx at h
    rw [List.findIdx?_eq_some_iff_getElem] at h
    obtain ⟨hl, he, _⟩ := h
    have e : fs[j].1 = k := by simpa using he
    refine ⟨?_, List.mem_map.2 ⟨fs[j], List.getElem_mem hl, e⟩⟩
    rw [List.map_set]
    refine List.ext_getElem? fun i => ?_
    rw [List.getElem?_set]
    split
    · rename_i hij
      subst hij
      rw [if_pos (by simpa using hl), List.getElem?_map, List.getElem?_eq_getElem hl]
      simp [e]
    · rfl
  unfold Br
  cases h : midx fs k with
  | some j =>
    simp only
    rw [(key j h).1]
    exact ⟨.inl, fun h2 => by rcases h2 with h2 | rfl; exact h2; exact (key j h).2⟩
  | none => simp only [List.map_append, List.map_cons, List.map_nil, List.mem_append, List.mem_singleton]
structure MissI (x : DD) (done todo : List (List UInt8 × BV)) (ms : List (List UInt8 × Unit)) : Prop where
  perm : (done ++ todo).Perm x.orp
  r32 : ∀ q ∈ ms, q.1.length = 32
  nd : (ms.map (·.1)).Nodup
  len : ms.length + 17 * todo.length ≤ 17 * x.orp.length
  keys : ∀ n, n ∈ ms.map (·.1) ↔ ∃ q ∈ done, n ∈ parL q.2.2 ∧ x.pl.lacks n = true
structure MissJ (x : DD) (L : List (List UInt8)) (k : Nat) (ms ms2 : List (List UInt8 × Unit)) : Prop where
  r32 : ∀ q ∈ ms2, q.1.length = 32
  nd : (ms2.map (·.1)).Nodup
  len : ms2.length ≤ ms.length + k
  keys : ∀ n, n ∈ ms2.map (·.1) ↔ n ∈ ms.map (·.1) ∨ (n ∈ L.take k ∧ x.pl.lacks n = true)
theorem lacks_eq (x : DD) (n : List UInt8) : x.pl.lacks n = (!(Bm x.orp n).isSome && !(Bm x.ent n).isSome) := by
  unfold PD.lacks
  rw [x.getO, show x.pl.P = x.P from rfl, x.getP, Option.isSome_map, Option.isSome_map]
theorem MissJ.yes {x : DD} {L : List (List UInt8)} {k : Nat} {ms ms2 : List (List UInt8 × Unit)} {kk : List UInt8} (h : MissJ x L k ms ms2) (hk : k < L.length) (hkk : kk = L.getD k []) (h32 : kk.length = 32) (hl : x.pl.lacks kk = true) : MissJ x L (k + 1) ms (Br ms2 kk ()) where
  r32 := fun q hq => by rcases mput_mem hq with hq | rfl; exact h.r32 q hq; exact h32
  nd := mput_nodup h.nd kk ()
  len := by have := mput_len ms2 kk (); have := h.len; omega
  keys := fun n => by
    rw [keys_put, h.keys, take_one hk hkk, List.mem_append, List.mem_singleton]
    constructor
    · rintro ((h1 | h1) | rfl)
      · exact .inl h1
      · exact .inr ⟨.inl h1.1, h1.2⟩
      · exact .inr ⟨.inr rfl, hl⟩
    · rintro (h1 | ⟨h1 | rfl, h2⟩)
      · exact .inl (.inl h1)
      · exact .inl (.inr ⟨h1, h2⟩)
      · exact .inr rfl
theorem MissJ.no {x : DD} {L : List (List UInt8)} {k : Nat} {ms ms2 : List (List UInt8 × Unit)} {kk : List UInt8} (h : MissJ x L k ms ms2) (hk : k < L.length) (hkk : kk = L.getD k []) (hl : x.pl.lacks kk = false) : MissJ x L (k + 1) ms ms2 where
  r32 := h.r32
  nd := h.nd
  len := by have := h.len; omega
  keys := fun n => by
    rw [h.keys, take_one hk hkk, List.mem_append, List.mem_singleton]
    constructor
    · rintro (h1 | h1)
      · exact .inl h1
      · exact .inr ⟨.inl h1.1, h1.2⟩
    · rintro (h1 | ⟨h1 | rfl, h2⟩)
      · exact .inl h1
      · exact .inr ⟨h1, h2⟩
      · rw [hl] at h2; cases h2
theorem MissI.next {x : DD} {done todo : List (List UInt8 × BV)} {ms ms2 : List (List UInt8 × Unit)} {j : Nat} {q : List UInt8 × BV} (h : MissI x done todo ms) (hj : todo[j]? = some q) (hJ : MissJ x (parL q.2.2) (parL q.2.2).length ms ms2) (hl : (parL q.2.2).length ≤ 17) : MissI x (done ++ [q]) (todo.eraseIdx j) ms2 where
  perm := perm_step h.perm hj
  r32 := hJ.r32
  nd := hJ.nd
  len := by
    have h1 := hJ.len
    have h2 := h.len
    have h3 := (List.getElem?_eq_some_iff.1 hj).1
    rw [List.length_eraseIdx, if_pos h3]
    omega
  keys := fun n => by
    rw [hJ.keys, h.keys, List.take_length]
    constructor
    · rintro (⟨r, hr, h1⟩ | h1)
      · exact ⟨r, List.mem_append_left _ hr, h1⟩
      · exact ⟨q, List.mem_append_right _ (List.mem_singleton.2 rfl), h1⟩
    · rintro ⟨r, hr, h1⟩
      rcases List.mem_append.1 hr with hr | hr
      · exact .inl ⟨r, hr, h1⟩
      · rw [List.mem_singleton.1 hr] at h1; exact .inr h1
theorem MissI.fin {x : DD} {done : List (List UInt8 × BV)} {ms : List (List UInt8 × Unit)} {ks : List (List UInt8)} (h : MissI x done [] ms) (hp : ks.Perm (ms.map (·.1))) (hs : SortB ks) : ks = x.pl.missing := by
  unfold PD.missing
  refine isort_eq (hp.trans ((List.perm_ext_iff_of_nodup h.nd (ddp_nodup _)).2 fun n => ?_)) hs
  rw [mem_ddp, h.keys, List.mem_filter, List.mem_flatten]
  have hm : ∀ q, q ∈ done ↔ q ∈ x.orp := fun q => by have := h.perm.mem_iff (a := q); rwa [List.append_nil] at this
  constructor
  · rintro ⟨q, hq, h1, h2⟩
    exact ⟨⟨parL q.2.2, List.mem_map.2 ⟨(q.1, q.2.2), List.mem_map.2 ⟨q, (hm q).1 hq, rfl⟩, rfl⟩, h1⟩, h2⟩
  · rintro ⟨⟨l, hl, h1⟩, h2⟩
    obtain ⟨r, hr, rfl⟩ := List.mem_map.1 hl
    obtain ⟨q, hq, rfl⟩ := List.mem_map.1 hr
    exact ⟨q, (hm q).2 hq, h1, h2⟩

theorem dag_orphans (x : DD) (hx : x.ok) (p : Nat) : Meets Tryz.prog 16 [ptr p 0] [] (fun W => Lies (x.blks p) W) (RowA x.pl.orphans) := by
 intro W hW
 refine Ad Tryz.func16 J 11 Tryz.ntmps16 J (.sr (.a J J J (.na (.seq (.sr (.m J J J (.cV J J J J Body33 (dag_valid x p) (fun w h => DagSee.ext h (DagSee.lies hW)) (.not J J J (.na (.cond_f J J (.skip (Am (.sr (.m J J J (.nC J J J (.fld J J J Tryz.underlying75 J Sz71 dE _ J (.loadE J J J Y71 J (by first | (simp; done) | (simp; exact hW.2.2) | (simp [Cx.with]; done) | (simp [Cx.with]; omega)) ((DagSee.lies hW).at (o := 4) J) ?_)))))))))))))))))
 refine .call4 J J J J J Body43 (dag_sortedB MO x.bO x.orp (fun p hp => (hx.orp p hp).1) (by have := hx.big; omega)) (fun w h => mblk_keep (hW _ (x.mO p)) h) ?_
 rintro v10 out10 ⟨s10, ks, hkp, hks, rfl, hac⟩
 obtain rfl : ks = x.pl.orphans := isort_eq (by rw [orp_keys]; exact hkp) hks
 refine .a J J J (.na ?_)
 -- ret
 refine .ret (A0 (Bi (out := (out10 ++ [])) (An J J) (Aj sG Au) ?_))
 exact ⟨s10, rfl, by simpa using hac⟩

theorem dag_missing (x : DD) (hx : x.ok) (p : Nat) : Meets Tryz.prog 17 [ptr p 0] [] (fun W => Lies (x.blks p) W) (RowA x.pl.missing) := by
 intro W hW
 obtain ⟨es, clock, hb, F⟩ := (hW _ (x.mO p)).map
 have hbig := hx.orpn
 refine Ad Tryz.func17 J 53 Tryz.ntmps17 J (.sr (.a J J J (.na (.seq (.sr (.m J J J (.cV J J J J Body33 (dag_valid x p) (fun w h => DagSee.ext h (DagSee.lies hW)) (.not J J J (.na (.cond_f J J (.skip (Am (.sr (.mkMap (Aw 32 evU) J J ?_))))))))))))))
 intro m3
 refine .a J J J (.na (.seq (.sr (.m J J J (.nC J J J (.fld J J J Tryz.underlying75 J Sz71 dE _ J (.loadE J J J Y71 J (by first | (simp; done) | (simp; exact hW.2.2) | (simp [Cx.with]; done) | (simp [Cx.with]; omega)) ((DagSee.lies hW).at (o := 4) J) ?_)))))))
 refine .rangeMapC Y71 hb sP J J J J ?_
 intro q18
 refine .na (.block (.loop (ι := Array Nat × List (List UInt8 × BV) × List (List UInt8 × BV) × List (List UInt8 × Unit)) (fun q => ⟨[(0, ptr p 0), (3, .map (some m3)), (18, ptr q18 0)], [iblk q18 x.bO clock q.1, A8 m3 (Aw 32 evU) q.2.2.2]⟩) (fun q => ItOk (Aw 32 evB) es q.1 q.2.2.1 ∧ MissI x q.2.1 q.2.2.1 q.2.2.2) (fun q => q.2.2.1.length) ((#[], [], x.orp, [])) ?_ ?_ ?_))
 · exact ⟨ItOk.start F, ⟨List.Perm.refl _, fun q h => (by cases h), List.nodup_nil, by simp, fun n => by simp⟩⟩
 · exact Ax (wk1 rfl (wk1 rfl (wk1 rfl wk0))) (Ab rM (Ab rM Au))
 rintro q ⟨hi, hI⟩
 refine .sr (.nextMapC F hi hb sP J J J J rM ?_ ?_)
 ·
  intro htd
  refine .eX J J J J (.na (.seq (.cond_f J J (.exit (Bs (Bs (bl_h (Am (.sr ?_)))))))))
  rw [htd] at hI
  have hj9 := hI
  refine .m J J J (.call4 J J J J J Body40 (dag_sortedU MH m3 q.2.2.2 hj9.r32 (by have := hj9.len; omega)) (fun w h => h.cells _ mM) ?_)
  rintro v52 out52 ⟨s52, ks, hkp, hks, rfl, hac⟩
  obtain rfl := hj9.fin hkp hks
  refine .a J J J (.na ?_)
  -- ret
  refine .ret (A0 (Bi (out := (out52 ++ [])) (An J J) (Aj sG Au) ?_))
  exact ⟨s52, rfl, by simpa using hac⟩
 intro j k0 v seen2 hj hit hat
 have hmem : (k0, v) ∈ x.orp := hI.perm.mem_iff.1 (List.mem_append_right _ (List.mem_of_getElem? hj))
 have hvo := hx.orp _ hmem
 simp only at hvo
 have hrow := parL_row (hvo.2.1.2 W (hW.sub (x.mcb p))).dok
 refine .eX J J J J (.na (.seq (.cond_t J J (.skip (Am (.block (.sr (.entryMapC F hat hb sP J J J mM ?_))))))))
 refine .eX J J J J (.alloc (cs := Block.zero.cells) J Block.zr J ?_)
 intro n5 hn5 hf5
 refine .sA J J J J (Block.isCell (by first | exact hvo.2.1.1.ok | exact hx.orpOk hg | exact oK | exact Point.zero_ok | exact wide.zero_ok | exact secrets.zero_ok | exact far.zero_ok | exact Cut.zero_ok | exact Cert.zero_ok | exact Msg.zero_ok | exact Inbox.zero_ok | exact Record.zero_ok | exact Kept.zero_ok | exact Rdr.zero_ok | exact DEnt.zero_ok | exact DPl.zero_ok )) Sz31 (Block.length (by first | exact hvo.2.1.1.ok | exact hx.orpOk hg | exact oK | exact Point.zero_ok | exact wide.zero_ok | exact secrets.zero_ok | exact far.zero_ok | exact Cut.zero_ok | exact Cert.zero_ok | exact Msg.zero_ok | exact Inbox.zero_ok | exact Record.zero_ok | exact Kept.zero_ok | exact Rdr.zero_ok | exact DEnt.zero_ok | exact DPl.zero_ok )) mM (Block.length (by first | exact hvo.2.1.1.ok | exact hx.orpOk hg | exact oK | exact Point.zero_ok | exact wide.zero_ok | exact secrets.zero_ok | exact far.zero_ok | exact Cut.zero_ok | exact Cert.zero_ok | exact Msg.zero_ok | exact Inbox.zero_ok | exact Record.zero_ok | exact Kept.zero_ok | exact Rdr.zero_ok | exact DEnt.zero_ok | exact DPl.zero_ok )) uU ?_
 refine .nsr (.lA J J J Y31.h J Sz31 mM (Block.length (by first | exact hvo.2.1.1.ok | exact hx.orpOk hg | exact oK | exact Point.zero_ok | exact wide.zero_ok | exact secrets.zero_ok | exact far.zero_ok | exact Cut.zero_ok | exact Cert.zero_ok | exact Msg.zero_ok | exact Inbox.zero_ok | exact Record.zero_ok | exact Kept.zero_ok | exact Rdr.zero_ok | exact DEnt.zero_ok | exact DPl.zero_ok )) ?_)
 refine .call4 J J J J J Body44 (db_parA v.1 v.2 oM) (fun w h => hvo.2.1.2 w ((lies_keep hW h).sub (x.mcb p))) ?_
 rintro v24 out24 ⟨s24, rfl, hac⟩
 have hn24 : s24.n = (parL v.2).length := hac.num
 have hp17 : (parL v.2).length ≤ 17 := by have := parL_len v.2; omega
 refine .lenSl J J J Y26.h (.m J J J (.na (.block (.loop (ι := Nat × List (List UInt8 × Unit)) (fun r => ⟨[(0, ptr p 0), (3, .map (some m3)), (18, ptr q18 0), (24, s24.v), (25, i64 (s24.n : Int)), (26, i64 (r.1 : Int))], (iblk q18 x.bO clock seen2 :: (A8 m3 (Aw 32 evU) r.2 :: (out24 ++ [])))⟩) (fun r => r.1 ≤ (parL v.2).length ∧ MissJ x (parL v.2) r.1 q.2.2.2 r.2) (fun r => (parL v.2).length - r.1) ((0, q.2.2.2)) ?_ ?_ ?_))))
 · exact ⟨Nat.zero_le _, ⟨hI.r32, hI.nd, Nat.le_refl _, fun n => by simp⟩⟩
 · exact Ax (wk1 rfl (wk1 rfl (wk1 rfl (wk1 rfl (wk1 rfl (wk1 rfl wk0)))))) (Ab rM (Ab rM (Aj sG Au)))
 rintro ⟨k, ms2⟩ ⟨hk0, hJ⟩
 simp only at hk0 hJ ⊢
 refine .sr (.lss J J J J J (.na (.seq ?_)))
 first
  | refine Sat.condP rfl (fun hc2 => ?_) (fun hc2 => ?_)
  | refine Sat.condNP rfl (fun hc2 => ?_) (fun hc2 => ?_)
  | refine Sat.cond rfl (fun hc2 => ?_) (fun hc2 => ?_)
 ·
  refine .skip (Am (.seq (.block (.sr ?_))))
  have hk : k < (parL v.2).length := by omega
  have hkb : k ≤ 600000 := by omega
  rcases hac with ⟨_, _, _, h0⟩ | ⟨qr, cr, rfl, hnc, hfl, rfl⟩
  · exfalso; omega
  obtain ⟨kk, hkk⟩ : ∃ kk, kk = (parL v.2).getD k [] := ⟨_, rfl⟩
  have h32k : kk.length = 32 := by rw [hkk, List.getD_eq_getElem?_getD, List.getElem?_eq_getElem hk]; exact hrow _ (List.getElem_mem hk)
  refine .idxSlP 32 J J J J J Y26.h Sz25 k J oM (.loadSN (n := 32) (Aa kk) J J J Y25.h J Sz25 (by rw [Aa, List.length_map]; exact h32k) (fun w h => by rw [hkk]; simpa using sees_row hrow (Av h mM) hk) ?_)
  refine .alloc (cs := (Aa (List.replicate 32 0))) J Zr25 J ?_
  intro n7 hn7 hf7
  first
   | refine Tr.sA rfl rfl rfl rfl (by first | exact Aq _ | exact A3 _ | simp [isCell]) Sz25 lN mM lN uU ?_
   | refine Tr.storeN _ rfl rfl rfl rfl rfl (by first | exact Aq _ | exact A3 _ | simp [isCell]) Sz25 lN mM lN (by exact rfl) uU ?_
  refine .na (.seq (.draw [(0, 0), (0, 1), (0, 2), (1, 3), (1, 4), (1, 5), (0, 6), (0, 7), (0, 8), (2, 9), (4, 10), (0, 11)] As zK (.m J J J (.nC J J J (.fld J J J Tryz.underlying75 J Sz71 dE _ J (.loadE J J J Y71 J (by first | (simp; done) | (simp; exact hW.2.2) | (simp [Cx.with]; done) | (simp [Cx.with]; omega)) ((DagSee.lies hW).at (o := 4) J) ?_))))))
  first
   | refine Tr.lA rfl rfl rfl Y25.h rfl Sz25 mM lN ?_
   | refine Tr.lN _ rfl rfl rfl Y25.h rfl Sz25 mM (by exact rfl) lN ?_
  refine .lookFC evB MO (hW _ (x.mO p)) sP J J J J h32k (fun hg => ?_) (fun e hg => ?_)
  ·
   skip
   refine .m J J J (.eX J J J J (.eX J J J J (.alloc (cs := Block.zero.cells) J Block.zr J ?_)))
   intro n8 hn8 hf8
   refine .sA J J J J (Block.isCell (by first | exact hvo.2.1.1.ok | exact hx.orpOk hg | exact oK | exact Point.zero_ok | exact wide.zero_ok | exact secrets.zero_ok | exact far.zero_ok | exact Cut.zero_ok | exact Cert.zero_ok | exact Msg.zero_ok | exact Inbox.zero_ok | exact Record.zero_ok | exact Kept.zero_ok | exact Rdr.zero_ok | exact DEnt.zero_ok | exact DPl.zero_ok )) Sz31 (Block.length (by first | exact hvo.2.1.1.ok | exact hx.orpOk hg | exact oK | exact Point.zero_ok | exact wide.zero_ok | exact secrets.zero_ok | exact far.zero_ok | exact Cut.zero_ok | exact Cert.zero_ok | exact Msg.zero_ok | exact Inbox.zero_ok | exact Record.zero_ok | exact Kept.zero_ok | exact Rdr.zero_ok | exact DEnt.zero_ok | exact DPl.zero_ok )) mM (Block.length (by first | exact hvo.2.1.1.ok | exact hx.orpOk hg | exact oK | exact Point.zero_ok | exact wide.zero_ok | exact secrets.zero_ok | exact far.zero_ok | exact Cut.zero_ok | exact Cert.zero_ok | exact Msg.zero_ok | exact Inbox.zero_ok | exact Record.zero_ok | exact Kept.zero_ok | exact Rdr.zero_ok | exact DEnt.zero_ok | exact DPl.zero_ok )) uU ?_
   refine .a J J J (.nsr (.m J J J (.not J J J (.m J J J (.m J J J ?_)))))
   first
    | refine Tr.lA rfl rfl rfl Y25.h rfl Sz25 mM lN ?_
    | refine Tr.lN _ rfl rfl rfl Y25.h rfl Sz25 mM (by exact rfl) lN ?_
   refine .cV J J J J Body13 (dag_has x hx p kk h32k) (fun w h => DagSee.ext h (DagSee.lies hW)) (.not J J J (.pick J J J J J J (.na (.cond J (fun hc3 => ?_) (fun hc3 => ?_)))))
   ·
    refine .region (.m J J J ?_)
    first
     | refine Tr.lA rfl rfl rfl Y25.h rfl Sz25 mM lN ?_
     | refine Tr.lN _ rfl rfl rfl Y25.h rfl Sz25 mM (by exact rfl) lN ?_
    refine .build (cs := []) J J J (fun w => by kernel_rfl) ?_
    refine .mapPut (v := ()) MH J J J J J h32k rM ?_
    refine .nil (B1 (Am (.region (.aI J J J J oM (.m J J J (.na ?_))))))
    exact ⟨(k + 1, Br ms2 kk ()), ⟨hk, hJ.yes hk hkk h32k (by rw [lacks_eq, hg]; simpa using hc3)⟩, by simp only; omega, Ax (wk1 rfl (wk1 rfl (wk1 rfl (wk1 rfl (wk1 rfl (wk1 rfl wk0)))))) (Ab rM (Ab rM (Aj sG Au)))⟩
   refine .skip (B1 (Am (.region (.aI J J J J oM (.m J J J (.na ?_))))))
   exact ⟨(k + 1, ms2), ⟨hk, hJ.no hk hkk (by rw [lacks_eq, hg]; simpa using hc3)⟩, by simp only; omega, Ax (wk1 rfl (wk1 rfl (wk1 rfl (wk1 rfl (wk1 rfl (wk1 rfl wk0)))))) (Ab rM (Ab rM (Aj sG Au)))⟩
  skip
  refine .m J J J (.eX J J J J (.eX J J J J (.alloc (cs := Block.zero.cells) J Block.zr J ?_)))
  intro n8 hn8 hf8
  refine .sA J J J J (Block.isCell (by first | exact hvo.2.1.1.ok | exact hx.orpOk hg | exact oK | exact Point.zero_ok | exact wide.zero_ok | exact secrets.zero_ok | exact far.zero_ok | exact Cut.zero_ok | exact Cert.zero_ok | exact Msg.zero_ok | exact Inbox.zero_ok | exact Record.zero_ok | exact Kept.zero_ok | exact Rdr.zero_ok | exact DEnt.zero_ok | exact DPl.zero_ok )) Sz31 (Block.length (by first | exact hvo.2.1.1.ok | exact hx.orpOk hg | exact oK | exact Point.zero_ok | exact wide.zero_ok | exact secrets.zero_ok | exact far.zero_ok | exact Cut.zero_ok | exact Cert.zero_ok | exact Msg.zero_ok | exact Inbox.zero_ok | exact Record.zero_ok | exact Kept.zero_ok | exact Rdr.zero_ok | exact DEnt.zero_ok | exact DPl.zero_ok )) mM (Block.length (by first | exact hvo.2.1.1.ok | exact hx.orpOk hg | exact oK | exact Point.zero_ok | exact wide.zero_ok | exact secrets.zero_ok | exact far.zero_ok | exact Cut.zero_ok | exact Cert.zero_ok | exact Msg.zero_ok | exact Inbox.zero_ok | exact Record.zero_ok | exact Kept.zero_ok | exact Rdr.zero_ok | exact DEnt.zero_ok | exact DPl.zero_ok )) uU ?_
  refine .a J J J (.nsr (.m J J J (.not J J J (.m J J J (.skp J J (.skp J J (.skp J J (.skp J J (.pick J J J J J J (.na (.cond_f J J (.skip (B1 (Am (.region (.aI J J J J oM (.m J J J (.na ?_))))))))))))))))))
  exact ⟨(k + 1, ms2), ⟨hk, hJ.no hk hkk (by rw [lacks_eq, hg]; rfl)⟩, by simp only; omega, Ax (wk1 rfl (wk1 rfl (wk1 rfl (wk1 rfl (wk1 rfl (wk1 rfl wk0)))))) (Ab rM (Ab rM (Aj sG Au)))⟩
 refine .exit (Bs (Bs (bl_h (B1 (Am ?_)))))
 exact ⟨(seen2, q.2.1 ++ [(k0, v)], q.2.2.1.eraseIdx j, ms2), ⟨hit, hI.next hj (by rw [show (parL v.2).length = k by omega]; exact hJ) hp17⟩, by have h8 := (List.getElem?_eq_some_iff.1 hj).1; simp only [List.length_eraseIdx, h8, if_true]; omega, Ax (wk1 rfl (wk1 rfl (wk1 rfl wk0))) (Ab rM (Ab rM Au))⟩
theorem dag_Orphans_nil  : Meets Tryz.prog 16 [.pointer none] [] (fun _ => True) (fun v out => v = .slice none 0 0 ∧ out = []) := by
 intro W hW
 refine Ad Tryz.func16 J 11 Tryz.ntmps16 J (.sr (.a J J J (.na (.seq (.sr (.m J J J (.cV J J J J Body33 (Cq) tV (.not J J J (.na (.cond_t J J (.sr (.a J J J (.na ?_)))))))))))))
 -- ret
 refine .ret (at_r (A0 ?_))
 refine ⟨_, [], An J J, sP, sP, ?_, rfl⟩
 rfl

theorem dag_Missing_nil  : Meets Tryz.prog 17 [.pointer none] [] (fun _ => True) (fun v out => v = .slice none 0 0 ∧ out = []) := by
 intro W hW
 refine Ad Tryz.func17 J 53 Tryz.ntmps17 J (.sr (.a J J J (.na (.seq (.sr (.m J J J (.cV J J J J Body33 (Cq) tV (.not J J J (.na (.cond_t J J (.sr (.a J J J (.na ?_)))))))))))))
 -- ret
 refine .ret (at_r (A0 ?_))
 refine ⟨_, [], An J J, sP, sP, ?_, rfl⟩
 rfl

theorem dag_Heads_nil  : Meets Tryz.prog 15 [.pointer none] [] (fun _ => True) (fun v out => v = .slice none 0 0 ∧ out = []) := by
 intro W hW
 refine Ad Tryz.func15 J 11 Tryz.ntmps15 J (.sr (.a J J J (.na (.seq (.sr (.m J J J (.cV J J J J Body33 (Cq) tV (.not J J J (.na (.cond_t J J (.sr (.a J J J (.na ?_)))))))))))))
 -- ret
 refine .ret (at_r (A0 ?_))
 refine ⟨_, [], An J J, sP, sP, ?_, rfl⟩
 rfl

theorem dag_Names_nil  : Meets Tryz.prog 14 [.pointer none] [] (fun _ => True) (fun v out => v = .slice none 0 0 ∧ out = []) := by
 intro W hW
 refine Ad Tryz.func14 J 11 Tryz.ntmps14 J (.sr (.a J J J (.na (.seq (.sr (.m J J J (.cV J J J J Body33 (Cq) tV (.not J J J (.na (.cond_t J J (.sr (.a J J J (.na ?_)))))))))))))
 -- ret
 refine .ret (at_r (A0 ?_))
 refine ⟨_, [], An J J, sP, sP, ?_, rfl⟩
 rfl

theorem dag_Forks_nil  : Meets Tryz.prog 18 [.pointer none] [] (fun _ => True) (fun v out => v = .slice none 0 0 ∧ out = []) := by
 intro W hW
 refine Ad Tryz.func18 J 52 Tryz.ntmps18 J (.sr (.a J J J (.na (.seq (.sr (.m J J J (.cV J J J J Body33 (Cq) tV (.not J J J (.na (.cond_t J J (.sr (.a J J J (.na ?_)))))))))))))
 -- ret
 refine .ret (at_r (A0 ?_))
 refine ⟨_, [], An J J, sP, sP, ?_, rfl⟩
 rfl

theorem dag_Drop_nil  : Meets Tryz.prog 21 [.pointer none] [] (fun _ => True) (fun v out => v = i64 0 ∧ out = []) := by
 intro W hW
 refine Ad Tryz.func21 J 17 Tryz.ntmps21 J (.sr (.a J J J (.na (.seq (.sr (.m J J J (.cV J J J J Body33 (Cq) tV (.not J J J (.na (.cond_t J J (.sr (.a J J J (.na ?_)))))))))))))
 -- ret
 refine .ret (at_r (A0 ?_))
 refine ⟨_, [], An J J, sP, sP, ?_, rfl⟩
 rfl

theorem dag_Of_nil (k : List UInt8) (h32 : k.length = 32) : Meets Tryz.prog 19 [.pointer none, agg (Aa k)] [] (fun _ => True) (fun v out => v = .slice none 0 0 ∧ out = []) := by
 intro W hW
 refine Ad Tryz.func19 J 20 Tryz.ntmps19 J (.sr (.box1 J J J ?_))
 intro n2 hn2 hf2
 refine .boxA J J ?_
 intro n3 hn3 hf3
 refine .a J J J (.na (.seq (.sr (.load1 J J J Tryz.underlying35 J mM (by first | rfl | exact A4 (by first | omega | (simp [h32]; omega)) | exact A4 (by first | omega | (simp [h32]; omega)) | exact A7 (by first | omega | (simp [h32]; done) | (simp [h32]; omega)) | exact Bh (by first | omega | (simp [h32]; done) | (simp [h32]; omega)) | exact B8 (by first | omega | (simp [h32]; done) | (simp [h32]; omega))) ?_))))
 refine .cV J J J J Body33 (Cq) tV (.not J J J (.na (.cond_t J J (.sr (.a J J J (.na ?_))))))
 -- ret
 refine .ret (at_r (A0 ?_))
 refine ⟨_, [], An J J, sP, sP, ?_, rfl⟩
 rfl

theorem dag_Closure_nil (s : Sl) : Meets Tryz.prog 12 [.pointer none, s.v] [] (fun _ => True) (fun v out => v = .tuple #[.slice none 0 0, i64 1] ∧ out = []) := by
 intro W hW
 refine Ad Tryz.func12 J 26 Tryz.ntmps12 J (.sr (.a J J J (.a J J J (.na (.seq (.sr (.m J J J (.cV J J J J Body33 (Cq) tV (.not J J J (.na (.cond_t J J (.sr (.a J J J (.a J J J (.na ?_)))))))))))))))
 -- ret
 refine .ret (at_r (A0 ?_))
 refine ⟨_, [], res_tmp2 J J J, sP, sP, ?_, rfl⟩
 rfl

theorem dag_Add_nil (B : Block) (hB : B.ok) : Meets Tryz.prog 10 [.pointer none, agg B.cells] [] (fun _ => True) (fun v out => v = .tuple #[.slice none 0 0, i64 1] ∧ out = []) := by
 intro W hW
 refine Ad Tryz.func10 J 65 Tryz.ntmps10 J (.sr (.boxA J J ?_))
 intro n3 hn3 hf3
 refine .a J J J (.a J J J (.na (.seq (.sr (.m J J J (.cV J J J J Body33 (Cq) tV (.not J J J (.na (.cond_t J J (.sr (.a J J J (.a J J J (.na ?_)))))))))))))
 -- ret
 refine .ret (at_r (A0 ?_))
 refine ⟨_, [], res_tmp2 J J J, sP, sP, ?_, rfl⟩
 rfl

theorem dag_Get_nil (k : List UInt8) (h32 : k.length = 32) : Meets Tryz.prog 11 [.pointer none, agg (Aa k)] [] (fun _ => True) (fun v out => v = .tuple #[agg Block.zero.cells, i64 1] ∧ out = []) := by
 intro W hW
 refine Ad Tryz.func11 J 27 Tryz.ntmps11 J (.sr (.boxA J J ?_))
 intro n3 hn3 hf3
 refine .alloc (cs := Block.zero.cells) J Block.zr J ?_
 intro n4 hn4 hf4
 refine .a J J J (.na (.seq (.sr (.m J J J (.cV J J J J Body33 (Cq) tV (.not J J J (.na (.cond_t J J (.sr (.build (cs := Block.zero.cells) J J J (fun w => by kernel_rfl) ?_))))))))))
 refine .sA J J J J (Block.isCell (by first | (simp [h32]; done) | exact oK | exact Point.zero_ok | exact wide.zero_ok | exact secrets.zero_ok | exact far.zero_ok | exact Cut.zero_ok | exact Cert.zero_ok | exact Msg.zero_ok | exact Inbox.zero_ok | exact Record.zero_ok | exact Kept.zero_ok | exact Rdr.zero_ok | exact DEnt.zero_ok | exact DPl.zero_ok )) Sz31 (Block.length (by first | (simp [h32]; done) | exact oK | exact Point.zero_ok | exact wide.zero_ok | exact secrets.zero_ok | exact far.zero_ok | exact Cut.zero_ok | exact Cert.zero_ok | exact Msg.zero_ok | exact Inbox.zero_ok | exact Record.zero_ok | exact Kept.zero_ok | exact Rdr.zero_ok | exact DEnt.zero_ok | exact DPl.zero_ok )) mM (Block.length (by first | (simp [h32]; done) | exact oK | exact Point.zero_ok | exact wide.zero_ok | exact secrets.zero_ok | exact far.zero_ok | exact Cut.zero_ok | exact Cert.zero_ok | exact Msg.zero_ok | exact Inbox.zero_ok | exact Record.zero_ok | exact Kept.zero_ok | exact Rdr.zero_ok | exact DEnt.zero_ok | exact DPl.zero_ok )) uU ?_
 refine .a J J J (.na ?_)
 -- ret
 refine .ret (at_r (A0 ?_))
 refine ⟨_, [], Bt J J J Y31.h J Sz31 mM (by first | (simp [h32]; done) | exact Block.length (by first | (simp [h32]; done) | exact oK | exact Point.zero_ok | exact wide.zero_ok | exact secrets.zero_ok | exact far.zero_ok | exact Cut.zero_ok | exact Cert.zero_ok | exact Msg.zero_ok | exact Inbox.zero_ok | exact Record.zero_ok | exact Kept.zero_ok | exact Rdr.zero_ok | exact DEnt.zero_ok | exact DPl.zero_ok )), sP, sP, ?_, rfl⟩
 rfl

theorem dag_Leads_nil (a b : List UInt8) (ha : a.length = 32) (hb : b.length = 32) : Meets Tryz.prog 20 [.pointer none, agg (Aa a), agg (Aa b)] [] (fun _ => True) (fun v out => v = .bool false ∧ out = []) := by
 intro W hW
 refine Ad Tryz.func20 J 37 Tryz.ntmps20 J (.sr (.boxA J J ?_))
 intro n4 hn4 hf4
 refine .boxA J J ?_
 intro n5 hn5 hf5
 refine .a J J J (.na (.seq (.sr (.m J J J ?_))))
 first
  | refine Tr.lA rfl rfl rfl Y25.h rfl Sz25 mM (by first | (simp [ha, hb]; done) | assumption | (rw [Aa, List.length_map]; assumption)) ?_
  | refine Tr.lN _ rfl rfl rfl Y25.h rfl Sz25 mM (by exact rfl) (by first | (simp [ha, hb]; done) | assumption | (rw [Aa, List.length_map]; assumption)) ?_
 refine .cV J J J J Body13 (dag_has_nil a ha) tV (.not J J J (.m J J J (.skp J J (.skp J J (.skp J J (.skp J J (.pick J J J J J J (.na (.cond_t J J (.sr (.a J J J (.na ?_))))))))))))
 -- ret
 refine .ret (at_r (A0 ?_))
 refine ⟨_, [], An J J, sP, sP, ?_, rfl⟩
 rfl

end Go.Proofs.YtfcbgdkpagcbbaaGreat
end

section
namespace Go.Proofs.YtfcbgdkpagcbbaaGreat
open Go Hw Ed
def affX (n : Nat) : Nat := force (fastN n) fun s => ux s * pwm PF 256 (uz s % PF) (PF - 2) % PF
def affY (n : Nat) : Nat := force (fastN n) fun s => uy s * pwm PF 256 (uz s % PF) (PF - 2) % PF
theorem fast_at {n X Y : Nat} (hn : n < 2 ^ 256) (hx : affX n = X) (hy : affY n = Y) : cv.mul n bP = ⟨fe X, fe Y⟩ := by
  refine fastN_pt hn ?_ ?_
  · rw [← hx, affX, force_eq, fe_mod, fe_mul]; rfl
  · rw [← hy, affY, force_eq, fe_mod, fe_mul]; rfl
end Go.Proofs.YtfcbgdkpagcbbaaGreat
end

section
namespace Go.Proofs.YtfcbgdkpagcbbaaGreat
open Go Hw Ed
def seB : List UInt8 := [1, 0, 0, 0, 0, 0, 0, 0, 0, 0, 0, 0, 0, 0, 0, 0, 0, 0, 0, 0, 0, 0, 0, 0, 0, 0, 0, 0, 0, 0, 0, 77]
def seH : List UInt8 := [87, 159, 104, 236, 80, 14, 38, 174, 240, 0, 164, 75, 108, 245, 33, 87, 115, 113, 131, 28, 237, 105, 185, 222, 57, 145, 233, 242, 112, 190, 170, 213, 35, 11, 137, 144, 70, 23, 17, 214, 148, 220, 86, 67, 25, 124, 131, 91, 42, 247, 30, 195, 63, 213, 16, 142, 181, 57, 199, 82, 96, 7, 203, 83]
def seN : List UInt8 := [80, 159, 104, 236, 80, 14, 38, 174, 240, 0, 164, 75, 108, 245, 33, 87, 115, 113, 131, 28, 237, 105, 185, 222, 57, 145, 233, 242, 112, 190, 170, 85]
def seK : List UInt8 := [96, 107, 246, 169, 182, 86, 212, 252, 106, 138, 137, 108, 60, 10, 195, 142, 100, 120, 65, 80, 61, 64, 193, 87, 241, 248, 221, 83, 126, 228, 255, 164]
theorem se_h : Cs seB = seH := by kernel_rfl
theorem se_n : clampB (seH.take 32) = seN := by kernel_rfl
theorem se_n1 : le seN = 38748270507491543869280182973643753799655646515636239770492563660028217171792 := by kernel_rfl
theorem se_kp : cv.mul 38748270507491543869280182973643753799655646515636239770492563660028217171792 bP = ⟨fe 28707919823945954948053480135173306747324634050804968349977642706858962874917, fe 16735385554468660665858041024650955505467194536748309173234908357429617388384⟩ := fast_at dE zK zK
theorem se_kb : pb ⟨fe 28707919823945954948053480135173306747324634050804968349977642706858962874917, fe 16735385554468660665858041024650955505467194536748309173234908357429617388384⟩ = seK := by kernel_rfl
theorem se_k : sgK seH = seK := by rw [sgK, se_n, se_n1, se_kp, se_kb]
end Go.Proofs.YtfcbgdkpagcbbaaGreat
end

section
namespace Go.Proofs.YtfcbgdkpagcbbaaGreat
open Go Hw Ed
def caT : List UInt8 := [98, 108, 111, 99, 107, 96, 107, 246, 169, 182, 86, 212, 252, 106, 138, 137, 108, 60, 10, 195, 142, 100, 120, 65, 80, 61, 64, 193, 87, 241, 248, 221, 83, 126, 228, 255, 164, 0, 0, 0, 0, 0, 0, 0, 0, 0, 0, 0, 0, 0, 0, 0, 0, 0, 0, 0, 0, 0, 0, 0, 0, 0, 0, 0, 0, 0, 0, 0, 0, 0, 0, 0]
def caH1 : List UInt8 := [175, 245, 139, 51, 122, 16, 147, 33, 38, 39, 224, 157, 222, 105, 232, 188, 152, 149, 109, 97, 216, 125, 234, 179, 159, 81, 122, 195, 242, 72, 74, 119, 53, 216, 210, 42, 46, 223, 69, 11, 135, 148, 195, 158, 63, 50, 252, 208, 249, 136, 161, 26, 50, 44, 85, 195, 247, 211, 139, 14, 82, 224, 120, 42]
def caH2 : List UInt8 := [94, 68, 37, 235, 75, 3, 179, 227, 182, 168, 24, 97, 151, 39, 145, 159, 85, 188, 197, 58, 181, 59, 46, 167, 161, 148, 253, 26, 77, 111, 57, 247, 223, 4, 85, 65, 115, 67, 54, 205, 150, 114, 139, 244, 13, 183, 50, 14, 182, 243, 250, 185, 18, 161, 221, 142, 41, 60, 249, 199, 226, 150, 120, 220]
def caF : List UInt8 := [168, 217, 184, 90, 171, 153, 102, 32, 85, 221, 230, 215, 79, 168, 176, 196, 238, 161, 142, 119, 27, 171, 182, 97, 56, 89, 7, 177, 97, 96, 106, 222]
def caS : List UInt8 := [168, 217, 184, 90, 171, 153, 102, 32, 85, 221, 230, 215, 79, 168, 176, 196, 238, 161, 142, 119, 27, 171, 182, 97, 56, 89, 7, 177, 97, 96, 106, 222, 147, 245, 169, 6, 87, 234, 48, 223, 156, 70, 165, 238, 89, 18, 170, 116, 162, 60, 219, 161, 170, 149, 137, 114, 121, 52, 200, 59, 2, 8, 234, 7]
def caBy : List UInt8 := [96, 107, 246, 169, 182, 86, 212, 252, 106, 138, 137, 108, 60, 10, 195, 142, 100, 120, 65, 80, 61, 64, 193, 87, 241, 248, 221, 83, 126, 228, 255, 164, 0, 0, 0, 0, 0, 0, 0, 0, 0, 0, 0, 0, 0, 0, 0, 0, 0, 0, 0, 0, 0, 0, 0, 0, 0, 0, 0, 0, 0, 0, 0, 0, 0, 0, 0, 168, 217, 184, 90, 171, 153, 102, 32, 85, 221, 230, 215, 79, 168, 176, 196, 238, 161, 142, 119, 27, 171, 182, 97, 56, 89, 7, 177, 97, 96, 106, 222, 147, 245, 169, 6, 87, 234, 48, 223, 156, 70, 165, 238, 89, 18, 170, 116, 162, 60, 219, 161, 170, 149, 137, 114, 121, 52, 200, 59, 2, 8, 234, 7]
def caN : List UInt8 := [245, 128, 166, 236, 115, 103, 218, 171, 156, 152, 104, 209, 8, 35, 100, 255, 250, 6, 117, 248, 138, 242, 55, 247, 9, 42, 190, 105, 223, 108, 180, 214]
theorem ca_h1 : Cs (seH.drop 32 ++ caT) = caH1 := by kernel_rfl
theorem ca_r1 : le (sgR caH1) = 565907765622320541399421425701583650488762096448569470237382742425803974514 := by kernel_rfl
theorem ca_fp : cv.mul 565907765622320541399421425701583650488762096448569470237382742425803974514 bP = ⟨fe 18245592651785512595255292360529423542044015622478525998739077956776277608981, fe 42705358757100966483473454035153470381756883780899493976395842344226991430056⟩ := fast_at dE zK zK
theorem ca_fb : pb ⟨fe 18245592651785512595255292360529423542044015622478525998739077956776277608981, fe 42705358757100966483473454035153470381756883780899493976395842344226991430056⟩ = caF := by kernel_rfl
theorem ca_f : sgF caH1 = caF := by rw [sgF, ca_r1, ca_fp, ca_fb]
theorem ca_h2 : Cs (caF ++ (seK ++ caT)) = caH2 := by kernel_rfl
theorem ca_s1 : caF ++ sgS seH caH1 caH2 = caS := by kernel_rfl
theorem ca_s : sgF caH1 ++ sgS seH caH1 caH2 = caS := by rw [ca_f, ca_s1]
theorem ca_h2' : Cs (sgF caH1 ++ (sgK seH ++ caT)) = caH2 := by rw [ca_f, se_k, ca_h2]
theorem ca_good : goodB seK caT caS = true := by
  have h := good_self seH caH1 caT ca_h2'
  rwa [ca_s, se_k] at h
theorem ca_n : sha256 caBy = caN := by kernel_rfl
def cbT : List UInt8 := [98, 108, 111, 99, 107, 96, 107, 246, 169, 182, 86, 212, 252, 106, 138, 137, 108, 60, 10, 195, 142, 100, 120, 65, 80, 61, 64, 193, 87, 241, 248, 221, 83, 126, 228, 255, 164, 1, 245, 128, 166, 236, 115, 103, 218, 171, 156, 152, 104, 209, 8, 35, 100, 255, 250, 6, 117, 248, 138, 242, 55, 247, 9, 42, 190, 105, 223, 108, 180, 214, 0, 0]
def cbH1 : List UInt8 := [196, 73, 168, 87, 171, 43, 90, 194, 135, 153, 214, 166, 91, 130, 87, 83, 242, 50, 206, 135, 18, 65, 8, 143, 242, 112, 25, 184, 169, 110, 105, 32, 190, 46, 237, 148, 70, 102, 122, 113, 239, 245, 136, 1, 131, 151, 134, 231, 11, 7, 209, 170, 44, 2, 235, 117, 140, 65, 168, 109, 134, 117, 29, 166]
def cbH2 : List UInt8 := [124, 134, 186, 26, 147, 86, 203, 33, 170, 107, 23, 245, 118, 24, 203, 227, 5, 156, 2, 79, 18, 244, 180, 18, 8, 90, 50, 54, 201, 37, 175, 214, 96, 120, 151, 90, 93, 212, 114, 61, 209, 242, 90, 73, 32, 87, 208, 81, 139, 106, 219, 229, 91, 171, 202, 119, 237, 83, 242, 87, 178, 30, 10, 30]
def cbF : List UInt8 := [243, 120, 3, 82, 236, 210, 11, 7, 232, 87, 94, 184, 218, 48, 247, 84, 134, 241, 240, 121, 131, 106, 27, 57, 114, 211, 64, 247, 135, 107, 125, 145]
def cbS : List UInt8 := [243, 120, 3, 82, 236, 210, 11, 7, 232, 87, 94, 184, 218, 48, 247, 84, 134, 241, 240, 121, 131, 106, 27, 57, 114, 211, 64, 247, 135, 107, 125, 145, 164, 5, 140, 165, 50, 216, 79, 85, 199, 86, 81, 76, 89, 78, 250, 62, 4, 128, 30, 192, 136, 209, 82, 233, 192, 68, 44, 83, 251, 25, 240, 15]
def cbBy : List UInt8 := [96, 107, 246, 169, 182, 86, 212, 252, 106, 138, 137, 108, 60, 10, 195, 142, 100, 120, 65, 80, 61, 64, 193, 87, 241, 248, 221, 83, 126, 228, 255, 164, 1, 245, 128, 166, 236, 115, 103, 218, 171, 156, 152, 104, 209, 8, 35, 100, 255, 250, 6, 117, 248, 138, 242, 55, 247, 9, 42, 190, 105, 223, 108, 180, 214, 0, 0, 243, 120, 3, 82, 236, 210, 11, 7, 232, 87, 94, 184, 218, 48, 247, 84, 134, 241, 240, 121, 131, 106, 27, 57, 114, 211, 64, 247, 135, 107, 125, 145, 164, 5, 140, 165, 50, 216, 79, 85, 199, 86, 81, 76, 89, 78, 250, 62, 4, 128, 30, 192, 136, 209, 82, 233, 192, 68, 44, 83, 251, 25, 240, 15]
def cbN : List UInt8 := [245, 56, 56, 94, 136, 118, 14, 12, 106, 47, 72, 229, 131, 0, 228, 9, 165, 106, 181, 17, 1, 42, 218, 115, 48, 50, 158, 110, 139, 100, 212, 101]
theorem cb_h1 : Cs (seH.drop 32 ++ cbT) = cbH1 := by kernel_rfl
theorem cb_r1 : le (sgR cbH1) = 1042854690461855033549293643297295419211154182590953024946931292553013138148 := by kernel_rfl
theorem cb_fp : cv.mul 1042854690461855033549293643297295419211154182590953024946931292553013138148 bP = ⟨fe 31504235370280623203979679539904128444430040929016018108543993433498125859967, fe 7910916461503537195174013472796533390692371390526138762380987721455419750643⟩ := fast_at dE zK zK
theorem cb_fb : pb ⟨fe 31504235370280623203979679539904128444430040929016018108543993433498125859967, fe 7910916461503537195174013472796533390692371390526138762380987721455419750643⟩ = cbF := by kernel_rfl
theorem cb_f : sgF cbH1 = cbF := by rw [sgF, cb_r1, cb_fp, cb_fb]
theorem cb_h2 : Cs (cbF ++ (seK ++ cbT)) = cbH2 := by kernel_rfl
theorem cb_s1 : cbF ++ sgS seH cbH1 cbH2 = cbS := by kernel_rfl
theorem cb_s : sgF cbH1 ++ sgS seH cbH1 cbH2 = cbS := by rw [cb_f, cb_s1]
theorem cb_h2' : Cs (sgF cbH1 ++ (sgK seH ++ cbT)) = cbH2 := by rw [cb_f, se_k, cb_h2]
theorem cb_good : goodB seK cbT cbS = true := by
  have h := good_self seH cbH1 cbT cb_h2'
  rwa [cb_s, se_k] at h
theorem cb_n : sha256 cbBy = cbN := by kernel_rfl
def ccT : List UInt8 := [98, 108, 111, 99, 107, 96, 107, 246, 169, 182, 86, 212, 252, 106, 138, 137, 108, 60, 10, 195, 142, 100, 120, 65, 80, 61, 64, 193, 87, 241, 248, 221, 83, 126, 228, 255, 164, 2, 245, 56, 56, 94, 136, 118, 14, 12, 106, 47, 72, 229, 131, 0, 228, 9, 165, 106, 181, 17, 1, 42, 218, 115, 48, 50, 158, 110, 139, 100, 212, 101, 0, 0]
def ccH1 : List UInt8 := [142, 5, 57, 247, 165, 189, 239, 219, 100, 209, 68, 204, 233, 255, 175, 153, 170, 230, 62, 248, 195, 235, 81, 130, 129, 5, 190, 152, 154, 253, 247, 107, 200, 192, 28, 179, 197, 5, 11, 163, 28, 66, 130, 33, 163, 234, 139, 43, 189, 106, 176, 241, 102, 94, 32, 224, 243, 171, 186, 136, 141, 227, 67, 213]
def ccH2 : List UInt8 := [255, 41, 48, 1, 72, 2, 158, 48, 48, 11, 244, 35, 227, 176, 216, 97, 189, 190, 185, 100, 205, 14, 242, 104, 247, 24, 216, 61, 79, 101, 221, 182, 90, 124, 203, 51, 114, 20, 55, 230, 201, 93, 70, 16, 43, 39, 50, 140, 53, 70, 1, 71, 239, 142, 56, 157, 159, 17, 70, 53, 108, 158, 120, 147]
def ccF : List UInt8 := [33, 233, 228, 76, 114, 18, 211, 171, 214, 17, 235, 80, 53, 103, 34, 80, 15, 20, 0, 70, 233, 236, 182, 246, 117, 12, 240, 153, 87, 118, 173, 26]
def ccS : List UInt8 := [33, 233, 228, 76, 114, 18, 211, 171, 214, 17, 235, 80, 53, 103, 34, 80, 15, 20, 0, 70, 233, 236, 182, 246, 117, 12, 240, 153, 87, 118, 173, 26, 122, 12, 43, 32, 238, 16, 54, 16, 32, 19, 206, 83, 139, 255, 255, 233, 77, 78, 50, 219, 150, 51, 217, 91, 128, 101, 113, 73, 252, 76, 73, 5]
def ccBy : List UInt8 := [96, 107, 246, 169, 182, 86, 212, 252, 106, 138, 137, 108, 60, 10, 195, 142, 100, 120, 65, 80, 61, 64, 193, 87, 241, 248, 221, 83, 126, 228, 255, 164, 2, 245, 56, 56, 94, 136, 118, 14, 12, 106, 47, 72, 229, 131, 0, 228, 9, 165, 106, 181, 17, 1, 42, 218, 115, 48, 50, 158, 110, 139, 100, 212, 101, 0, 0, 33, 233, 228, 76, 114, 18, 211, 171, 214, 17, 235, 80, 53, 103, 34, 80, 15, 20, 0, 70, 233, 236, 182, 246, 117, 12, 240, 153, 87, 118, 173, 26, 122, 12, 43, 32, 238, 16, 54, 16, 32, 19, 206, 83, 139, 255, 255, 233, 77, 78, 50, 219, 150, 51, 217, 91, 128, 101, 113, 73, 252, 76, 73, 5]
def ccN : List UInt8 := [212, 62, 189, 158, 35, 18, 49, 93, 224, 51, 147, 160, 235, 224, 219, 57, 188, 215, 67, 150, 52, 134, 93, 210, 253, 141, 208, 11, 140, 224, 9, 192]
theorem cc_h1 : Cs (seH.drop 32 ++ ccT) = ccH1 := by kernel_rfl
theorem cc_r1 : le (sgR ccH1) = 4918219388157574454008950300951600336261496714867819213746146962254068804302 := by kernel_rfl
theorem cc_fp : cv.mul 4918219388157574454008950300951600336261496714867819213746146962254068804302 bP = ⟨fe 31473630399167731649095412638876055820990104693738438102576263511153593068624, fe 12066615373167398837812297369869085678792139161754506735642922152132469909793⟩ := fast_at dE zK zK
theorem cc_fb : pb ⟨fe 31473630399167731649095412638876055820990104693738438102576263511153593068624, fe 12066615373167398837812297369869085678792139161754506735642922152132469909793⟩ = ccF := by kernel_rfl
theorem cc_f : sgF ccH1 = ccF := by rw [sgF, cc_r1, cc_fp, cc_fb]
theorem cc_h2 : Cs (ccF ++ (seK ++ ccT)) = ccH2 := by kernel_rfl
theorem cc_s1 : ccF ++ sgS seH ccH1 ccH2 = ccS := by kernel_rfl
theorem cc_s : sgF ccH1 ++ sgS seH ccH1 ccH2 = ccS := by rw [cc_f, cc_s1]
theorem cc_h2' : Cs (sgF ccH1 ++ (sgK seH ++ ccT)) = ccH2 := by rw [cc_f, se_k, cc_h2]
theorem cc_good : goodB seK ccT ccS = true := by
  have h := good_self seH ccH1 ccT cc_h2'
  rwa [cc_s, se_k] at h
theorem cc_n : sha256 ccBy = ccN := by kernel_rfl
end Go.Proofs.YtfcbgdkpagcbbaaGreat
end

section
namespace Go.Proofs.YtfcbgdkpagcbbaaGreat
open Go Hw

open Ed

theorem seB_length : seB.length = 32 := rfl
theorem kit_seed1  : Meets Tryz.prog 57 [i64 1] [] (fun _ => True) (fun v out => v = agg (Aa seB) ∧ out = []) := by
 intro W hW
 refine Ad Tryz.func57 J 9 Tryz.ntmps57 J (.sr (.alloc (cs := (Aa (List.replicate 32 0))) J Zr22 J ?_))
 intro n2 hn2 hf2
 refine .nsr (.m J J J (.conv J J J Y3.h Y5.h (show Value.int .u8 (IntKind.u8.wrap 1) = u8 1 from rfl) (.m J J J (.shrN 1 8 J J J J J dE (.conv J J J Y3.h Y5.h (show Value.int .u8 (IntKind.u8.wrap ((1 / 2 ^ 8 : Nat) : Int)) = u8 0 from rfl) (.build (cs := Aa seB) J J J (fun w => by kernel_rfl) ?_))))))
 refine .sA J J J J zE Sz22 (by (simp [seB_length]; done)) Z0 sP zU ?_
 refine .na ?_
 -- ret
 refine .ret (A0 ?_)
 refine ⟨_, [], Ap J J Y22 J Sz22 Z0 (by simp [seB_length]), sP, sP, ?_, rfl⟩
 rfl

def ca0 : DB := { DB.zero with seq := 0, prev := List.replicate 32 0 }
def caD : DB := bsg ca0 seK caS
theorem caD_ok : caD.ok := ⟨rfl, by rfl, by kernel_rfl, fun l hl => by cases hl⟩
theorem ca_txt0 : btxt { ca0 with w := seK } = caT := by kernel_rfl
theorem ca_txt : btxt caD = caT := by kernel_rfl
theorem ca_chk0 : (ca0).check = 0 := by kernel_rfl
theorem ca_chk : (caD).check = 0 := by kernel_rfl
theorem ca_g : dgood caD = 0 := by
  unfold dgood
  rw [if_pos ca_chk, ca_txt]
  exact if_pos ca_good
theorem ca_by : (caD).bytes = caBy := by kernel_rfl
theorem ca_nm : Bo caD = caN := by
  unfold Bo
  rw [if_pos ca_chk, ca_by, ca_n]
theorem ca_sign (B : Block) (hB : B.ok) : Meets Tryz.prog 56 [agg (Aa seB), agg B.cells] [] (fun W => BlockIs W B ca0) (BlkR 0 caD) := by
  have hT : btxt { ca0 with w := sgK seH } = caT := by rw [se_k]; exact ca_txt0
  have cS := r15_Sign B ca0 hB (Nat.zero_le _) (Nat.zero_le _) seB rfl seH caH1 caH2 ⟨se_h⟩ ⟨by rw [hT]; exact ca_h1⟩ ⟨by rw [hT]; exact ca_h2'⟩ ca_chk0
  rw [ca_s, se_k] at cS
  exact cS
def cb0 : DB := { DB.zero with seq := 1, prev := caN }
def cbD : DB := bsg cb0 seK cbS
theorem cbD_ok : cbD.ok := ⟨rfl, by rfl, by kernel_rfl, fun l hl => by cases hl⟩
theorem cb_txt0 : btxt { cb0 with w := seK } = cbT := by kernel_rfl
theorem cb_txt : btxt cbD = cbT := by kernel_rfl
theorem cb_chk0 : (cb0).check = 0 := by kernel_rfl
theorem cb_chk : (cbD).check = 0 := by kernel_rfl
theorem cb_g : dgood cbD = 0 := by
  unfold dgood
  rw [if_pos cb_chk, cb_txt]
  exact if_pos cb_good
theorem cb_by : (cbD).bytes = cbBy := by kernel_rfl
theorem cb_nm : Bo cbD = cbN := by
  unfold Bo
  rw [if_pos cb_chk, cb_by, cb_n]
theorem cb_sign (B : Block) (hB : B.ok) : Meets Tryz.prog 56 [agg (Aa seB), agg B.cells] [] (fun W => BlockIs W B cb0) (BlkR 0 cbD) := by
  have hT : btxt { cb0 with w := sgK seH } = cbT := by rw [se_k]; exact cb_txt0
  have cS := r15_Sign B cb0 hB (Nat.zero_le _) (Nat.zero_le _) seB rfl seH cbH1 cbH2 ⟨se_h⟩ ⟨by rw [hT]; exact cb_h1⟩ ⟨by rw [hT]; exact cb_h2'⟩ cb_chk0
  rw [cb_s, se_k] at cS
  exact cS
def cc0 : DB := { DB.zero with seq := 2, prev := cbN }
def ccD : DB := bsg cc0 seK ccS
theorem ccD_ok : ccD.ok := ⟨rfl, by rfl, by kernel_rfl, fun l hl => by cases hl⟩
theorem cc_txt0 : btxt { cc0 with w := seK } = ccT := by kernel_rfl
theorem cc_txt : btxt ccD = ccT := by kernel_rfl
theorem cc_chk0 : (cc0).check = 0 := by kernel_rfl
theorem cc_chk : (ccD).check = 0 := by kernel_rfl
theorem cc_g : dgood ccD = 0 := by
  unfold dgood
  rw [if_pos cc_chk, cc_txt]
  exact if_pos cc_good
theorem cc_by : (ccD).bytes = ccBy := by kernel_rfl
theorem cc_nm : Bo ccD = ccN := by
  unfold Bo
  rw [if_pos cc_chk, cc_by, cc_n]
theorem cc_sign (B : Block) (hB : B.ok) : Meets Tryz.prog 56 [agg (Aa seB), agg B.cells] [] (fun W => BlockIs W B cc0) (BlkR 0 ccD) := by
  have hT : btxt { cc0 with w := sgK seH } = ccT := by rw [se_k]; exact cc_txt0
  have cS := r15_Sign B cc0 hB (Nat.zero_le _) (Nat.zero_le _) seB rfl seH ccH1 ccH2 ⟨se_h⟩ ⟨by rw [hT]; exact cc_h1⟩ ⟨by rw [hT]; exact cc_h2'⟩ cc_chk0
  rw [cc_s, se_k] at cS
  exact cS

theorem law16_signed (n : Int) (seed : List UInt8) (h32 : seed.length = 32) (B : Block) (hB : B.ok) (D D1 : DB) (hD1 : D1.ok) (cSeed : Meets Tryz.prog 57 [i64 n] [] (fun _ => True) (fun v out => v = agg (Aa seed) ∧ out = [])) (cS : ∀ B : Block, B.ok → Meets Tryz.prog 56 [agg (Aa seed), agg B.cells] [] (fun W => BlockIs W B D) (BlkR 0 D1)) : Meets Tryz.prog 25 [i64 n, agg B.cells] [] (fun W => BlockIs W B D) (BlkV D1) := by
 intro W hW
 refine Ad Tryz.func25 J 15 Tryz.ntmps25 J (.sr (.boxA J J ?_))
 intro n3 hn3 hf3
 refine .alloc (cs := Block.zero.cells) J Block.zr J ?_
 intro n4 hn4 hf4
 refine .na (.seq (.draw [(0, 0), (1, 2), (3, 1), (3, 3), (0, 4), (0, 5), (0, 6), (2, 7), (4, 8), (0, 9)] As zK (.m J J J (.lA J J J Y31.h J Sz31 mM (Block.length (by first | exact hB | exact h11.ok | (simp [h32]; done) | exact oK | exact Point.zero_ok | exact wide.zero_ok | exact secrets.zero_ok | exact far.zero_ok | exact Cut.zero_ok | exact Cert.zero_ok | exact Msg.zero_ok | exact Inbox.zero_ok | exact Record.zero_ok | exact Kept.zero_ok | exact Rdr.zero_ok | exact DEnt.zero_ok | exact DPl.zero_ok )) ?_))))
 refine .cV J J J J Body57 (cSeed) tV (.call J J J J Body56 (cS B hB) (BlkR.loose 0 D1 hD1) (fun w h => hW.ext h J) ?_)
 rintro v11 out11 ⟨B11, h11, rfl, ho11⟩
 refine .m J J J (.eX J J J J (.eX J J J J (.alloc (cs := Block.zero.cells) J Block.zr J ?_)))
 intro n5 hn5 hf5
 refine .sA J J J J (Block.isCell (by first | exact hB | exact h11.ok | (simp [h32]; done) | exact oK | exact Point.zero_ok | exact wide.zero_ok | exact secrets.zero_ok | exact far.zero_ok | exact Cut.zero_ok | exact Cert.zero_ok | exact Msg.zero_ok | exact Inbox.zero_ok | exact Record.zero_ok | exact Kept.zero_ok | exact Rdr.zero_ok | exact DEnt.zero_ok | exact DPl.zero_ok )) Sz31 (Block.length (by first | exact hB | exact h11.ok | (simp [h32]; done) | exact oK | exact Point.zero_ok | exact wide.zero_ok | exact secrets.zero_ok | exact far.zero_ok | exact Cut.zero_ok | exact Cert.zero_ok | exact Msg.zero_ok | exact Inbox.zero_ok | exact Record.zero_ok | exact Kept.zero_ok | exact Rdr.zero_ok | exact DEnt.zero_ok | exact DPl.zero_ok )) mM (Block.length (by first | exact hB | exact h11.ok | (simp [h32]; done) | exact oK | exact Point.zero_ok | exact wide.zero_ok | exact secrets.zero_ok | exact far.zero_ok | exact Cut.zero_ok | exact Cert.zero_ok | exact Msg.zero_ok | exact Inbox.zero_ok | exact Record.zero_ok | exact Kept.zero_ok | exact Rdr.zero_ok | exact DEnt.zero_ok | exact DPl.zero_ok )) uU ?_
 refine .a J J J (.nsr (.lA J J J Y31.h J Sz31 mM (Block.length (by first | exact hB | exact h11.ok | (simp [h32]; done) | exact oK | exact Point.zero_ok | exact wide.zero_ok | exact secrets.zero_ok | exact far.zero_ok | exact Cut.zero_ok | exact Cert.zero_ok | exact Msg.zero_ok | exact Inbox.zero_ok | exact Record.zero_ok | exact Kept.zero_ok | exact Rdr.zero_ok | exact DEnt.zero_ok | exact DPl.zero_ok )) ?_))
 refine .sA J J J J (Block.isCell (by first | exact hB | exact h11.ok | (simp [h32]; done) | exact oK | exact Point.zero_ok | exact wide.zero_ok | exact secrets.zero_ok | exact far.zero_ok | exact Cut.zero_ok | exact Cert.zero_ok | exact Msg.zero_ok | exact Inbox.zero_ok | exact Record.zero_ok | exact Kept.zero_ok | exact Rdr.zero_ok | exact DEnt.zero_ok | exact DPl.zero_ok )) Sz31 (Block.length (by first | exact hB | exact h11.ok | (simp [h32]; done) | exact oK | exact Point.zero_ok | exact wide.zero_ok | exact secrets.zero_ok | exact far.zero_ok | exact Cut.zero_ok | exact Cert.zero_ok | exact Msg.zero_ok | exact Inbox.zero_ok | exact Record.zero_ok | exact Kept.zero_ok | exact Rdr.zero_ok | exact DEnt.zero_ok | exact DPl.zero_ok )) mM (Block.length (by first | exact hB | exact h11.ok | (simp [h32]; done) | exact oK | exact Point.zero_ok | exact wide.zero_ok | exact secrets.zero_ok | exact far.zero_ok | exact Cut.zero_ok | exact Cert.zero_ok | exact Msg.zero_ok | exact Inbox.zero_ok | exact Record.zero_ok | exact Kept.zero_ok | exact Rdr.zero_ok | exact DEnt.zero_ok | exact DPl.zero_ok )) uU ?_
 refine .na ?_
 -- ret
 refine .ret (A0 (Bi (out := (out11 ++ [])) (Ap J J Y31.h J Sz31 mM (by first | (simp [h32]; done) | exact Block.length (by first | exact hB | exact h11.ok | (simp [h32]; done) | exact oK | exact Point.zero_ok | exact wide.zero_ok | exact secrets.zero_ok | exact far.zero_ok | exact Cut.zero_ok | exact Cert.zero_ok | exact Msg.zero_ok | exact Inbox.zero_ok | exact Record.zero_ok | exact Kept.zero_ok | exact Rdr.zero_ok | exact DEnt.zero_ok | exact DPl.zero_ok ))) (Aj sG Au) ?_))
 exact ⟨B11, h11, rfl, by simpa using ho11⟩

def PD.new : PD := ⟨[], [], [], [], [], [], []⟩
def chX1 : PD := { PD.new with orp := [(ccN, ccD)] }
def chX2 : PD := chX1.adm caN caD
def chX3 : PD := ((chX2.adm cbN cbD).drop1 ccN).adm ccN ccD
theorem ch_add1 : PD.new.add ccD = (chX1, [], 0) := by
  have h := add_keep (X := PD.new) cc_g zK zK dE
  rw [cc_nm] at h
  exact h
theorem ch_add2 : chX1.add caD = (chX2, [caN], 0) := by
  have h := add_fits (X := chX1) ca_g (by rw [ca_nm]; kernel_rfl) zK
  rw [ca_nm] at h
  have e : PD.settle (chX1.adm caN caD).orp.length (chX1.adm caN caD) = (chX2, []) := by kernel_rfl
  rw [h, e]
theorem ch_add3 : chX2.add cbD = (chX3, [cbN, ccN], 0) := by
  have h := add_fits (X := chX2) cb_g (by rw [cb_nm]; kernel_rfl) zK
  rw [cb_nm] at h
  have e : PD.settle (chX2.adm cbN cbD).orp.length (chX2.adm cbN cbD) = (chX3, [ccN]) := by kernel_rfl
  rw [h, e]
theorem ch_orp : chX2.orphans = [ccN] := by kernel_rfl
theorem ch_mis : chX2.missing = [cbN] := by kernel_rfl
theorem chain_facts : ∃ (Da Db Dc : DB) (na nb nc : List UInt8) (X1 X2 X3 : PD), (Da.ok ∧ Db.ok ∧ Dc.ok) ∧ (na.length = 32 ∧ nb.length = 32 ∧ nc.length = 32) ∧ (Bo Da = na ∧ Bo Db = nb ∧ Bo Dc = nc)
    ∧ (∀ B : Block, B.ok → Meets Tryz.prog 56 [agg (Aa seB), agg B.cells] [] (fun W => BlockIs W B DB.zero) (BlkR 0 Da))
    ∧ (∀ B : Block, B.ok → Meets Tryz.prog 56 [agg (Aa seB), agg B.cells] [] (fun W => BlockIs W B { DB.zero with seq := 1, prev := na }) (BlkR 0 Db))
    ∧ (∀ B : Block, B.ok → Meets Tryz.prog 56 [agg (Aa seB), agg B.cells] [] (fun W => BlockIs W B { DB.zero with seq := 2, prev := nb }) (BlkR 0 Dc))
    ∧ PD.new.add Dc = (X1, [], 0) ∧ X1.add Da = (X2, [na], 0) ∧ X2.orphans = [nc] ∧ X2.missing = [nb] ∧ X2.add Db = (X3, [nb, nc], 0) :=
  ⟨caD, cbD, ccD, caN, cbN, ccN, chX1, chX2, chX3, ⟨caD_ok, cbD_ok, ccD_ok⟩, ⟨rfl, rfl, rfl⟩, ⟨ca_nm, cb_nm, cc_nm⟩, ca_sign, cb_sign, cc_sign, ch_add1, ch_add2, ch_orp, ch_mis, ch_add3⟩

end Go.Proofs.YtfcbgdkpagcbbaaGreat
end

section
namespace Go.Proofs.YtfcbgdkpagcbbaaGreat
open Go Hw

theorem cons_of {α : Type} {l : List α} {n : Nat} (h : l.length = n + 1) : ∃ a t, l = a :: t ∧ t.length = n := by
  cases l with
  | nil => cases h
  | cons a t => exact ⟨a, t, rfl, by simpa using h⟩
theorem build_sp (s : UInt64) (prev : List UInt8) (h : prev.length = 32) (w : World) : (Instr.build 31 #[(1, u64 s), (2, agg (Aa prev))]).run Tryz.prog w = .ok (agg ({ Block.zero with fSeq := s, fPrev := prev } : Block).cells) w := by
  iterate 32 (obtain ⟨a, l, e, h2⟩ := cons_of h; clear h; subst e; have h := h2; clear h2)
  obtain rfl := List.eq_nil_of_length_eq_zero h
  first
    | (refine Eq.trans ?_ rfl; kernel_rfl)
    | rfl
def tri (a b c : Block) : List Value := a.cells ++ (b.cells ++ (c.cells ++ []))
theorem tri_len {a b c : Block} (ha : a.ok) (hb : b.ok) (hc : c.ok) : (tri a b c).length = 393 := by simp [tri, Block.length ha, Block.length hb, Block.length hc]
theorem tri_cell {a b c : Block} (ha : a.ok) (hb : b.ok) (hc : c.ok) : ∀ u ∈ tri a b c, isCell u = true := fun u hu => by
  simp only [tri, List.append_nil, List.mem_append] at hu
  rcases hu with h | h | h
  · exact Block.isCell ha u h
  · exact Block.isCell hb u h
  · exact Block.isCell hc u h
theorem tri_0 {a b c : Block} (ha : a.ok) : ((tri a b c).drop 0).take 131 = a.cells := by
  rw [tri, List.drop_zero, List.take_append_of_le_length (by rw [Block.length ha]; omega), List.take_of_length_le (by rw [Block.length ha]; omega)]
theorem tri_1 {a b c : Block} (ha : a.ok) (hb : b.ok) : ((tri a b c).drop 131).take 131 = b.cells := by
  have h1 := Block.length ha
  rw [tri, List.drop_append_of_le_length oM, List.drop_of_length_le oM, List.nil_append, List.take_append_of_le_length (by rw [Block.length hb]; omega), List.take_of_length_le (by rw [Block.length hb]; omega)]
theorem tri_2 {a b c : Block} (ha : a.ok) (hb : b.ok) (hc : c.ok) : ((tri a b c).drop 262).take 131 = c.cells := by
  have h1 := Block.length ha
  have h2 := Block.length hb
  have e : (tri a b c) = (a.cells ++ b.cells) ++ (c.cells ++ []) := by rw [tri, List.append_assoc]
  rw [e, List.drop_append_of_le_length (by rw [List.length_append]; omega), List.drop_of_length_le (by rw [List.length_append]; omega), List.nil_append, List.append_nil, List.take_of_length_le (by rw [Block.length hc]; omega)]
def ChainR (Da Db Dc : DB) (v : Value) (out : List Blk) : Prop := ∃ Ba Bb Bc : Block, SameB Ba Da ∧ SameB Bb Db ∧ SameB Bc Dc ∧ v = agg (tri Ba Bb Bc) ∧ ∀ W2, Lies out W2 → BlockIs W2 Ba Da ∧ BlockIs W2 Bb Db ∧ BlockIs W2 Bc Dc
theorem sp_is (W : World) (s : UInt64) {prev : List UInt8} (h : prev.length = 32) : BlockIs W ({ Block.zero with fSeq := s, fPrev := prev } : Block) { DB.zero with seq := s, prev := prev } := ⟨⟨rfl, h, rfl⟩, rfl, rfl, rfl, (zero_is W).ls, (zero_is W).ds, rfl⟩
theorem sp_ok (s : UInt64) {prev : List UInt8} (h : prev.length = 32) : ({ Block.zero with fSeq := s, fPrev := prev } : Block).ok := ⟨rfl, h, rfl⟩
theorem new_ok (bE bH bO bP bW : Nat) : (⟨Sl.nil, [], [], [], [], [], [], [], [], bE, bH, bO, bP, bW⟩ : DD).ok := ⟨Acc.none, fun l h => (by cases h), Nat.zero_le _, Nat.zero_le _, fun p h => (by cases h), Nat.zero_le _, fun p h => (by cases h), Nat.zero_le _, fun p h => (by cases h), fun p h => (by cases h), fun p h => (by cases h)⟩
theorem dag_new2 : Meets Tryz.prog 23 [] [] (fun _ => True) (fun v out => ∃ (p : Nat) (x : DD), v = ptr p 0 ∧ out = x.blks p ∧ x.ok ∧ x.pl = PD.new ∧ x.names.length + x.orp.length = 0) :=
  dag_new.imp (fun w h => h) fun v out ⟨p, bE, bH, bO, bP, bW, h1, h2⟩ => ⟨p, _, h1, h2, new_ok .., rfl, rfl⟩
theorem dig_same (p q : Option Addr) (n c1 c2 : Nat) (xs : List (List UInt8)) (hx : ∀ l ∈ xs, l.length = 32) (h1 : xs.length = n) (hn : n ≤ 1000000) : Meets Tryz.prog 29 [.slice p n c1, .slice q n c2] [] (fun W => SeesP W p (Bk xs) ∧ SeesP W q (Bk xs)) (fun v out => v = .bool true ∧ out = []) :=
  (digests_eq p q n c1 c2 xs xs hx hx h1 h1 hn).imp (fun w h => h) fun v out h => by rwa [decide_eq_true rfl] at h
theorem one_32 {n : List UInt8} (h : n.length = 32) : ∀ l ∈ [n], l.length = 32 := fun l hl => by rw [List.mem_singleton.1 hl]; exact h
theorem two_32 {n m : List UInt8} (h : n.length = 32) (h2 : m.length = 32) : ∀ l ∈ [n, m], l.length = 32 := fun l hl => by rcases List.mem_cons.1 hl with rfl | hl; exact h; exact one_32 h2 l hl

theorem law16_chain (Da Db Dc : DB) (na nb : List UInt8) (hDa : Da.ok) (hDb : Db.ok) (hDc : Dc.ok) (lna : na.length = 32) (lnb : nb.length = 32) (hna : Bo Da = na) (hnb : Bo Db = nb) (cSa : ∀ B : Block, B.ok → Meets Tryz.prog 56 [agg (Aa seB), agg B.cells] [] (fun W => BlockIs W B DB.zero) (BlkR 0 Da)) (cSb : ∀ B : Block, B.ok → Meets Tryz.prog 56 [agg (Aa seB), agg B.cells] [] (fun W => BlockIs W B { DB.zero with seq := 1, prev := na }) (BlkR 0 Db)) (cSc : ∀ B : Block, B.ok → Meets Tryz.prog 56 [agg (Aa seB), agg B.cells] [] (fun W => BlockIs W B { DB.zero with seq := 2, prev := nb }) (BlkR 0 Dc)) : Meets Tryz.prog 22 [] [] (fun _ => True) (ChainR Da Db Dc) := by
 intro W hW
 refine Ad Tryz.func22 J 16 Tryz.ntmps22 J (.sr (.alloc (cs := (List.replicate 3 ((Aa (List.replicate 32 0)) ++ [u64 0] ++ (Aa (List.replicate 32 0)) ++ [.slice none 0 0] ++ [.slice none 0 0] ++ (Aa (List.replicate 64 0)))).flatten) J Zr50 J ?_))
 intro n0 hn0 hf0
 refine .nsr (.build (cs := Block.zero.cells) J J J (fun w => by kernel_rfl) ?_)
 refine .call4 J J J J J Body25 (law16_signed 1 seB J Block.zero Block.zero_ok DB.zero Da hDa kit_seed1 cSa) (fun w h => zero_is w) ?_
 rintro v4 out4 ⟨Ba, ha, rfl, hoa⟩
 have cNa := r15_Name Ba Da ha.ok
 rw [hna] at cNa
 refine .alloc (cs := Block.zero.cells) J Block.zr J ?_
 intro n1 hn1 hf1
 refine .sA J J J J (Block.isCell (by first | (simp [lna, lnb]; done) | exact oK | exact Point.zero_ok | exact wide.zero_ok | exact secrets.zero_ok | exact far.zero_ok | exact Cut.zero_ok | exact Cert.zero_ok | exact Msg.zero_ok | exact Inbox.zero_ok | exact Record.zero_ok | exact Kept.zero_ok | exact Rdr.zero_ok | exact DEnt.zero_ok | exact DPl.zero_ok  | exact ha.ok | exact hb.ok | exact hc.ok | exact sp_ok _ lna | exact sp_ok _ lnb)) Sz31 (Block.length (by first | (simp [lna, lnb]; done) | exact oK | exact Point.zero_ok | exact wide.zero_ok | exact secrets.zero_ok | exact far.zero_ok | exact Cut.zero_ok | exact Cert.zero_ok | exact Msg.zero_ok | exact Inbox.zero_ok | exact Record.zero_ok | exact Kept.zero_ok | exact Rdr.zero_ok | exact DEnt.zero_ok | exact DPl.zero_ok  | exact ha.ok | exact hb.ok | exact hc.ok | exact sp_ok _ lna | exact sp_ok _ lnb)) mM (Block.length (by first | (simp [lna, lnb]; done) | exact oK | exact Point.zero_ok | exact wide.zero_ok | exact secrets.zero_ok | exact far.zero_ok | exact Cut.zero_ok | exact Cert.zero_ok | exact Msg.zero_ok | exact Inbox.zero_ok | exact Record.zero_ok | exact Kept.zero_ok | exact Rdr.zero_ok | exact DEnt.zero_ok | exact DPl.zero_ok  | exact ha.ok | exact hb.ok | exact hc.ok | exact sp_ok _ lna | exact sp_ok _ lnb)) uU ?_
 refine .nsr (.lA J J J Y31.h J Sz31 mM (Block.length (by first | (simp [lna, lnb]; done) | exact oK | exact Point.zero_ok | exact wide.zero_ok | exact secrets.zero_ok | exact far.zero_ok | exact Cut.zero_ok | exact Cert.zero_ok | exact Msg.zero_ok | exact Inbox.zero_ok | exact Record.zero_ok | exact Kept.zero_ok | exact Rdr.zero_ok | exact DEnt.zero_ok | exact DPl.zero_ok  | exact ha.ok | exact hb.ok | exact hc.ok | exact sp_ok _ lna | exact sp_ok _ lnb)) ?_)
 refine .cV J J J J Body26 (cNa) (fun w h => hoa w (Lies.of h iN)) ?_
 refine .build (cs := ({ Block.zero with fSeq := 1, fPrev := na } : Block).cells) J J J (fun w => build_sp 1 na lna w) (.call4 J J J J J Body25 (law16_signed 1 seB J _ (sp_ok 1 lna) _ Db hDb kit_seed1 cSb) (fun w h => sp_is w 1 lna) ?_)
 rintro v8 out8 ⟨Bb, hb, rfl, hob⟩
 have cNb := r15_Name Bb Db hb.ok
 rw [hnb] at cNb
 refine .alloc (cs := Block.zero.cells) J Block.zr J ?_
 intro n2 hn2 hf2
 refine .sA J J J J (Block.isCell (by first | (simp [lna, lnb]; done) | exact oK | exact Point.zero_ok | exact wide.zero_ok | exact secrets.zero_ok | exact far.zero_ok | exact Cut.zero_ok | exact Cert.zero_ok | exact Msg.zero_ok | exact Inbox.zero_ok | exact Record.zero_ok | exact Kept.zero_ok | exact Rdr.zero_ok | exact DEnt.zero_ok | exact DPl.zero_ok  | exact ha.ok | exact hb.ok | exact hc.ok | exact sp_ok _ lna | exact sp_ok _ lnb)) Sz31 (Block.length (by first | (simp [lna, lnb]; done) | exact oK | exact Point.zero_ok | exact wide.zero_ok | exact secrets.zero_ok | exact far.zero_ok | exact Cut.zero_ok | exact Cert.zero_ok | exact Msg.zero_ok | exact Inbox.zero_ok | exact Record.zero_ok | exact Kept.zero_ok | exact Rdr.zero_ok | exact DEnt.zero_ok | exact DPl.zero_ok  | exact ha.ok | exact hb.ok | exact hc.ok | exact sp_ok _ lna | exact sp_ok _ lnb)) mM (Block.length (by first | (simp [lna, lnb]; done) | exact oK | exact Point.zero_ok | exact wide.zero_ok | exact secrets.zero_ok | exact far.zero_ok | exact Cut.zero_ok | exact Cert.zero_ok | exact Msg.zero_ok | exact Inbox.zero_ok | exact Record.zero_ok | exact Kept.zero_ok | exact Rdr.zero_ok | exact DEnt.zero_ok | exact DPl.zero_ok  | exact ha.ok | exact hb.ok | exact hc.ok | exact sp_ok _ lna | exact sp_ok _ lnb)) uU ?_
 refine .na (.seq (.draw [(1, 0), (1, 1), (1, 2), (3, 3), (0, 4), (3, 5), (0, 6), (4, 7)] As zK (.lA J J J Y31.h J Sz31 mM (Block.length (by first | (simp [lna, lnb]; done) | exact oK | exact Point.zero_ok | exact wide.zero_ok | exact secrets.zero_ok | exact far.zero_ok | exact Cut.zero_ok | exact Cert.zero_ok | exact Msg.zero_ok | exact Inbox.zero_ok | exact Record.zero_ok | exact Kept.zero_ok | exact Rdr.zero_ok | exact DEnt.zero_ok | exact DPl.zero_ok  | exact ha.ok | exact hb.ok | exact hc.ok | exact sp_ok _ lna | exact sp_ok _ lnb)) ?_)))
 refine .lA J J J Y31.h J Sz31 mM (Block.length (by first | (simp [lna, lnb]; done) | exact oK | exact Point.zero_ok | exact wide.zero_ok | exact secrets.zero_ok | exact far.zero_ok | exact Cut.zero_ok | exact Cert.zero_ok | exact Msg.zero_ok | exact Inbox.zero_ok | exact Record.zero_ok | exact Kept.zero_ok | exact Rdr.zero_ok | exact DEnt.zero_ok | exact DPl.zero_ok  | exact ha.ok | exact hb.ok | exact hc.ok | exact sp_ok _ lna | exact sp_ok _ lnb)) ?_
 refine .lA J J J Y31.h J Sz31 mM (Block.length (by first | (simp [lna, lnb]; done) | exact oK | exact Point.zero_ok | exact wide.zero_ok | exact secrets.zero_ok | exact far.zero_ok | exact Cut.zero_ok | exact Cert.zero_ok | exact Msg.zero_ok | exact Inbox.zero_ok | exact Record.zero_ok | exact Kept.zero_ok | exact Rdr.zero_ok | exact DEnt.zero_ok | exact DPl.zero_ok  | exact ha.ok | exact hb.ok | exact hc.ok | exact sp_ok _ lna | exact sp_ok _ lnb)) ?_
 refine .cV J J J J Body26 (cNb) (fun w h => hob w (Lies.of h iN)) ?_
 refine .build (cs := ({ Block.zero with fSeq := 2, fPrev := nb } : Block).cells) J J J (fun w => build_sp 2 nb lnb w) (.call J J J J Body25 (law16_signed 1 seB J _ (sp_ok 2 lnb) _ Dc hDc kit_seed1 cSc) (BlkV.loose Dc hDc) (fun w h => sp_is w 2 lnb) ?_)
 rintro v14 out14 ⟨Bc, hc, rfl, hoc⟩
 refine .build (cs := tri Ba Bb Bc) J J J (fun w => run_buildA [agg Ba.cells, agg Bb.cells, agg Bc.cells] Zr50 Y50 Sz31 (fun v hv => by simp only [List.mem_cons, List.not_mem_nil, or_false] at hv; rcases hv with rfl | rfl | rfl <;> simp [agg, Value.cells, Block.length ha.ok, Block.length hb.ok, Block.length hc.ok]) zK w) ?_
 refine .sA J J J J (tri_cell ha.ok hb.ok hc.ok) Sz50 (tri_len ha.ok hb.ok hc.ok) mM zK uU ?_
 refine .na ?_
 -- ret
 refine .ret (A0 (Bi (out := (out4 ++ (out8 ++ (out14 ++ [])))) (Ap J J Y50 J Sz50 mM (tri_len ha.ok hb.ok hc.ok)) (Aj sG (Aj sG (Aj sG Au))) ?_))
 exact ⟨Ba, Bb, Bc, ha, hb, hc, rfl, fun W2 hl => ⟨hoa W2 (hl.sub iN), hob W2 (hl.sub iN), hoc W2 (hl.sub iN)⟩⟩

theorem law16_lives  : Meets Tryz.prog 8 [] [] (fun _ => True) (fun v out => v = .bool true ∧ out = []) := by
 intro W hW
 obtain ⟨Da, Db, Dc, na, nb, nc, X1, X2, X3, ⟨hDa, hDb, hDc⟩, ⟨lna, lnb, lnc⟩, ⟨hna, hnb, hnc⟩, cSa, cSb, cSc, hadd1, hadd2, horp, hmis, hadd3⟩ := chain_facts
 refine Ad Tryz.func8 J 92 Tryz.ntmps8 J (.sr (.a J J J (.nsr (.call4 J J J J J Body22 (law16_chain Da Db Dc na nb hDa hDb hDc lna lnb hna hnb cSa cSb cSc) tV ?_))))
 rintro v14 out14 ⟨Ba, Bb, Bc, ha, hb, hc, rfl, hch⟩
 have cNa := r15_Name Ba Da ha.ok
 have cNb := r15_Name Bb Db hb.ok
 have cNc := r15_Name Bc Dc hc.ok
 rw [hna] at cNa
 rw [hnb] at cNb
 rw [hnc] at cNc
 refine .alloc (cs := (List.replicate 3 ((Aa (List.replicate 32 0)) ++ [u64 0] ++ (Aa (List.replicate 32 0)) ++ [.slice none 0 0] ++ [.slice none 0 0] ++ (Aa (List.replicate 64 0)))).flatten) J Zr50 J ?_
 intro n1 hn1 hf1
 refine .sA J J J J (tri_cell ha.ok hb.ok hc.ok) Sz50 (tri_len ha.ok hb.ok hc.ok) mM zK uU ?_
 refine .nsr (.call4 J J J J J Body23 (dag_new2) tV ?_)
 rintro v15 out15 ⟨p, x0, rfl, rfl, hx0, hplx0, hnx0⟩
 refine .a J J J (.na (.seq (.sr (.m J J J (.eqNilP J J J J Tryz.underlying35 (.na (.cond_f J J (.skip (Am (.sr (.m J J J ?_)))))))))))
 first
  | refine Tr.idxArr 131 rfl rfl rfl rfl Y50 Sz31 2 rfl dE ?_
 refine .lN (Bc.cells) J J J Y31.h J Sz31 mM (tri_2 ha.ok hb.ok hc.ok) (Block.length hc.ok) ?_
 refine .callL (L := (x0.blks p ++ out14)) J J J J J Body10 (dag_add x0 hx0 p Bc Dc out14 ⟨hc, fun W hW => (hch W hW).2.2⟩ oM) (sg_two sG sG) (lent_ok J) (fun w h => Lent.of h (sg_two sG sG)) ?_
 rintro v22 out22 ⟨x1, ⟨p22, n22, c22⟩, bl22, rfl, rfl, hx1, hac22, h3222, hplx1, hnx1⟩
 rw [hplx0, hadd1] at hac22 h3222 hplx1 ⊢
 simp only [List.append_assoc] at hac22 h3222 hplx1 ⊢
 obtain rfl : n22 = 0 := hac22.num
 refine .m J J J (.eX J J J J (.eX J J J J (.a J J J (.a J J J (.nsr (.m J J J ?_))))))
 first
  | refine Tr.idxArr 131 rfl rfl rfl rfl Y50 Sz31 0 rfl dE ?_
 refine .lN (Ba.cells) J J J Y31.h J Sz31 mM (tri_0 ha.ok) (Block.length ha.ok) ?_
 refine .callL (L := (x1.blks p ++ out14)) J J J J J Body10 (dag_add x1 hx1 p Ba Da out14 ⟨ha, fun W hW => (hch W hW).1⟩ oM) (sg_two sG sG) (lent_ok J) (fun w h => Lent.of h (sg_two sG sG)) ?_
 rintro v29 out29 ⟨x2, ⟨p29, n29, c29⟩, bl29, rfl, rfl, hx2, hac29, h3229, hplx2, hnx2⟩
 rw [hplx1, hadd2] at hac29 h3229 hplx2 ⊢
 simp only [List.append_assoc] at hac29 h3229 hplx2 ⊢
 obtain rfl : n29 = 1 := hac29.num
 refine .m J J J (.eX J J J J (.eX J J J J (.a J J J (.a J J J (.nsr (.m J J J (.call4 J J J J J Body16 (dag_orphans x2 hx2 p) (fun w h => Lies.of h iN) ?_)))))))
 rintro v33 out33 ⟨⟨p33, n33, c33⟩, rfl, hac33⟩
 rw [hplx2, horp] at hac33
 obtain rfl : n33 = 1 := hac33.num
 refine .m J J J (.call4 J J J J J Body17 (dag_missing x2 hx2 p) (fun w h => Lies.of h iN) ?_)
 rintro v35 out35 ⟨⟨p35, n35, c35⟩, rfl, hac35⟩
 rw [hplx2, hmis] at hac35
 obtain rfl : n35 = 1 := hac35.num
 refine .a J J J (.a J J J (.nsr (.m J J J ?_)))
 first
  | refine Tr.idxArr 131 rfl rfl rfl rfl Y50 Sz31 1 rfl dE ?_
 refine .lN (Bb.cells) J J J Y31.h J Sz31 mM (tri_1 ha.ok hb.ok) (Block.length hb.ok) ?_
 refine .callL (L := (x2.blks p ++ out14)) J J J J J Body10 (dag_add x2 hx2 p Bb Db out14 ⟨hb, fun W hW => (hch W hW).2.1⟩ oM) (sg_two sG sG) (lent_ok J) (fun w h => Lent.of h (sg_two sG sG)) ?_
 rintro v40 out40 ⟨x3, ⟨p40, n40, c40⟩, bl40, rfl, rfl, hx3, hac40, h3240, hplx3, hnx3⟩
 rw [hplx2, hadd3] at hac40 h3240 hplx3 ⊢
 simp only [List.append_assoc] at hac40 h3240 hplx3 ⊢
 obtain rfl : n40 = 2 := hac40.num
 refine .m J J J (.eX J J J J (.eX J J J J (.a J J J (.a J J J (.na (.seq (.draw [(0, 0), (1, 1), (0, 3), (1, 4), (0, 6), (1, 7), (3, 2), (3, 5), (3, 8), (2, 9), (2, 10), (2, 11), (4, 12), (4, 13), (4, 14)] As zK ?_)))))))
 first
  | refine Tr.idxArr 131 rfl rfl rfl rfl Y50 Sz31 0 rfl dE ?_
 refine .lN (Ba.cells) J J J Y31.h J Sz31 mM (tri_0 ha.ok) (Block.length ha.ok) ?_
 first
  | refine Tr.idxArr 131 rfl rfl rfl rfl Y50 Sz31 1 rfl dE ?_
 refine .lN (Bb.cells) J J J Y31.h J Sz31 mM (tri_1 ha.ok hb.ok) (Block.length hb.ok) ?_
 first
  | refine Tr.idxArr 131 rfl rfl rfl rfl Y50 Sz31 2 rfl dE ?_
 refine .lN (Bc.cells) J J J Y31.h J Sz31 mM (tri_2 ha.ok hb.ok hc.ok) (Block.length hc.ok) ?_
 refine .cV J J J J Body26 (cNa) (fun w h => (hch w (Lies.of h iN)).1) ?_
 refine .cV J J J J Body26 (cNb) (fun w h => (hch w (Lies.of h iN)).2.1) ?_
 refine .cV J J J J Body26 (cNc) (fun w h => (hch w (Lies.of h iN)).2.2) ?_
 refine .alloc (cs := (Aa (List.replicate 32 0))) J Zr25 J ?_
 intro n11 hn11 hf11
 refine .alloc (cs := (Aa (List.replicate 32 0))) J Zr25 J ?_
 intro n12 hn12 hf12
 refine .alloc (cs := (Aa (List.replicate 32 0))) J Zr25 J ?_
 intro n13 hn13 hf13
 first
  | refine Tr.sA rfl rfl rfl rfl (by first | exact Aq _ | exact A3 _ | simp [isCell]) Sz25 (by first | (simp [lna, lnb, lnc]; done) | assumption | (rw [Aa, List.length_map]; assumption)) mM (by first | (simp [lna, lnb, lnc]; done) | assumption | (rw [Aa, List.length_map]; assumption)) uU ?_
  | refine Tr.storeN _ rfl rfl rfl rfl rfl (by first | exact Aq _ | exact A3 _ | simp [isCell]) Sz25 (by first | (simp [lna, lnb, lnc]; done) | assumption | (rw [Aa, List.length_map]; assumption)) mM (by first | (simp [lna, lnb, lnc]; done) | assumption | (rw [Aa, List.length_map]; assumption)) (by exact rfl) uU ?_
 first
  | refine Tr.sA rfl rfl rfl rfl (by first | exact Aq _ | exact A3 _ | simp [isCell]) Sz25 (by first | (simp [lna, lnb, lnc]; done) | assumption | (rw [Aa, List.length_map]; assumption)) mM (by first | (simp [lna, lnb, lnc]; done) | assumption | (rw [Aa, List.length_map]; assumption)) uU ?_
  | refine Tr.storeN _ rfl rfl rfl rfl rfl (by first | exact Aq _ | exact A3 _ | simp [isCell]) Sz25 (by first | (simp [lna, lnb, lnc]; done) | assumption | (rw [Aa, List.length_map]; assumption)) mM (by first | (simp [lna, lnb, lnc]; done) | assumption | (rw [Aa, List.length_map]; assumption)) (by exact rfl) uU ?_
 first
  | refine Tr.sA rfl rfl rfl rfl (by first | exact Aq _ | exact A3 _ | simp [isCell]) Sz25 (by first | (simp [lna, lnb, lnc]; done) | assumption | (rw [Aa, List.length_map]; assumption)) mM (by first | (simp [lna, lnb, lnc]; done) | assumption | (rw [Aa, List.length_map]; assumption)) uU ?_
  | refine Tr.storeN _ rfl rfl rfl rfl rfl (by first | exact Aq _ | exact A3 _ | simp [isCell]) Sz25 (by first | (simp [lna, lnb, lnc]; done) | assumption | (rw [Aa, List.length_map]; assumption)) mM (by first | (simp [lna, lnb, lnc]; done) | assumption | (rw [Aa, List.length_map]; assumption)) (by exact rfl) uU ?_
 refine .nsr (.m J J J (.eqi J J J J (decide_eq_true (rfl)) (.m J J J (.m J J J (.lenSl J J J Y26.h (.eqi J J J J (decide_eq_true (rfl)) (.pick J J J J J J (.m J J J (.m J J J (.eqi J J J J (decide_eq_true (rfl)) (.pick J J J J J J (.m J J J (.m J J J ?_)))))))))))))
 first
  | refine Tr.lA rfl rfl rfl Y25.h rfl Sz25 mM (by first | (simp [lna, lnb, lnc]; done) | assumption | (rw [Aa, List.length_map]; assumption)) ?_
  | refine Tr.lN _ rfl rfl rfl Y25.h rfl Sz25 mM (by exact rfl) (by first | (simp [lna, lnb, lnc]; done) | assumption | (rw [Aa, List.length_map]; assumption)) ?_
 refine .mkRow (z := agg (Aa (List.replicate 32 0))) [agg (Aa na)] (Bk [na]) J J J Y26.h Sz25 Zr25 J J (by intro v hv; simp only [List.mem_cons, List.not_mem_nil, or_false] at hv; rcases hv with rfl <;> simp [Value.cells, agg, Aa, lna, lnb, lnc]) dE (by simp [Value.cells, agg, Bk]) ?_
 intro q66
 refine .cV J J J J Body29 (dig_same p29 _ 1 c29 1 [na] (one_32 lna) J dE) (fun w h => ⟨hac29.see (Lies.of h iN), SeesP.of (Av h mM)⟩) ?_
 refine .pick J J J J J J (.m J J J (.m J J J ?_))
 first
  | refine Tr.lA rfl rfl rfl Y25.h rfl Sz25 mM (by first | (simp [lna, lnb, lnc]; done) | assumption | (rw [Aa, List.length_map]; assumption)) ?_
  | refine Tr.lN _ rfl rfl rfl Y25.h rfl Sz25 mM (by exact rfl) (by first | (simp [lna, lnb, lnc]; done) | assumption | (rw [Aa, List.length_map]; assumption)) ?_
 refine .mkRow (z := agg (Aa (List.replicate 32 0))) [agg (Aa nc)] (Bk [nc]) J J J Y26.h Sz25 Zr25 J J (by intro v hv; simp only [List.mem_cons, List.not_mem_nil, or_false] at hv; rcases hv with rfl <;> simp [Value.cells, agg, Aa, lna, lnb, lnc]) dE (by simp [Value.cells, agg, Bk]) ?_
 intro q72
 refine .cV J J J J Body29 (dig_same p33 _ 1 c33 1 [nc] (one_32 lnc) J dE) (fun w h => ⟨hac33.see (Lies.of h iN), SeesP.of (Av h mM)⟩) ?_
 refine .pick J J J J J J (.m J J J (.m J J J ?_))
 first
  | refine Tr.lA rfl rfl rfl Y25.h rfl Sz25 mM (by first | (simp [lna, lnb, lnc]; done) | assumption | (rw [Aa, List.length_map]; assumption)) ?_
  | refine Tr.lN _ rfl rfl rfl Y25.h rfl Sz25 mM (by exact rfl) (by first | (simp [lna, lnb, lnc]; done) | assumption | (rw [Aa, List.length_map]; assumption)) ?_
 refine .mkRow (z := agg (Aa (List.replicate 32 0))) [agg (Aa nb)] (Bk [nb]) J J J Y26.h Sz25 Zr25 J J (by intro v hv; simp only [List.mem_cons, List.not_mem_nil, or_false] at hv; rcases hv with rfl <;> simp [Value.cells, agg, Aa, lna, lnb, lnc]) dE (by simp [Value.cells, agg, Bk]) ?_
 intro q78
 refine .cV J J J J Body29 (dig_same p35 _ 1 c35 1 [nb] (one_32 lnb) J dE) (fun w h => ⟨hac35.see (Lies.of h iN), SeesP.of (Av h mM)⟩) ?_
 refine .pick J J J J J J (.m J J J (.m J J J (.eqi J J J J (decide_eq_true (rfl)) (.pick J J J J J J (.m J J J (.m J J J ?_))))))
 first
  | refine Tr.lA rfl rfl rfl Y25.h rfl Sz25 mM (by first | (simp [lna, lnb, lnc]; done) | assumption | (rw [Aa, List.length_map]; assumption)) ?_
  | refine Tr.lN _ rfl rfl rfl Y25.h rfl Sz25 mM (by exact rfl) (by first | (simp [lna, lnb, lnc]; done) | assumption | (rw [Aa, List.length_map]; assumption)) ?_
 first
  | refine Tr.lA rfl rfl rfl Y25.h rfl Sz25 mM (by first | (simp [lna, lnb, lnc]; done) | assumption | (rw [Aa, List.length_map]; assumption)) ?_
  | refine Tr.lN _ rfl rfl rfl Y25.h rfl Sz25 mM (by exact rfl) (by first | (simp [lna, lnb, lnc]; done) | assumption | (rw [Aa, List.length_map]; assumption)) ?_
 refine .mkRow (z := agg (Aa (List.replicate 32 0))) [agg (Aa nb), agg (Aa nc)] (Bk [nb, nc]) J J J Y26.h Sz25 Zr25 J J (by intro v hv; simp only [List.mem_cons, List.not_mem_nil, or_false] at hv; rcases hv with rfl | rfl <;> simp [Value.cells, agg, Aa, lna, lnb, lnc]) dE (by simp [Value.cells, agg, Bk]) ?_
 intro q89
 refine .cV J J J J Body29 (dig_same p40 _ 2 c40 2 [nb, nc] (two_32 lnb lnc) J dE) (fun w h => ⟨hac40.see (Lies.of h iN), SeesP.of (Av h mM)⟩) ?_
 refine .pick J J J J J J (.a J J J (.na ?_))
 -- ret
 refine .ret (A0 (Bi (out := []) (An J J) Au ?_))
 exact ⟨rfl, rfl⟩


theorem law16_small (b o c n : Nat) (xs : List Block) (hok : ∀ x ∈ xs, x.ok) (hx : xs.length = n) (hn : n ≤ 1000000) : Meets Tryz.prog 9 [.slice (some ⟨b, o, none⟩) n c] [] (fun W => Sees W b o (xs.map Block.cells).flatten) (fun v out => v = .bool (lightB xs 24) ∧ out = []) := by
 intro W hW
 refine Ad Tryz.func9 J 5 Tryz.ntmps9 J (.sr (.a J J J (.nsr (.m J J J (.cV J J J J Body32 (light_blocks b o c n xs hok hx hn 24) (fun w h => fun j v hj => (h.keeps.cell (p := ⟨b, o + j, none⟩) sP (hW j v hj))) (.a J J J (.na ?_)))))))
 -- ret
 refine .ret (A0 ?_)
 refine ⟨_, [], An J J, sP, sP, ?_, rfl⟩
 rfl

theorem law_dagnil (B : Block) (hB : B.ok) (n : List UInt8) (h32 : n.length = 32) : Meets Tryz.prog 3 [agg B.cells, agg (Aa n)] [] (fun _ => True) (fun v out => v = .bool true ∧ out = []) := by
 intro W hW
 refine Ad Tryz.func3 J 103 Tryz.ntmps3 J (.sr (.boxA J J ?_))
 intro n2 hn2 hf2
 refine .boxA J J ?_
 intro n3 hn3 hf3
 refine .a J J J (.na (.seq (.sr (.cV J J J J Body8 (law16_lives) tV (.not J J J (.na (.cond_f J J (.skip (Am (.seq (.sr (.lA J J J Y31.h J Sz31 mM (Block.length (by first | exact hB | (simp [h32]; done) | exact oK | exact Point.zero_ok | exact wide.zero_ok | exact secrets.zero_ok | exact far.zero_ok | exact Cut.zero_ok | exact Cert.zero_ok | exact Msg.zero_ok | exact Inbox.zero_ok | exact Record.zero_ok | exact Kept.zero_ok | exact Rdr.zero_ok | exact DEnt.zero_ok | exact DPl.zero_ok )) ?_))))))))))))
 refine .mkRow (z := agg Block.zero.cells) [agg B.cells] B.cells J J J Y34.h Sz31 Block.zr J J (by intro v hv; rw [List.mem_singleton.1 hv]; simp [Value.cells, agg, Block.length hB]) dE (by simp [Value.cells, agg]) ?_
 intro q15
 refine .cV J J J J Body9 (law16_small q15 0 1 1 [B] (fun x hx => by rw [List.mem_singleton.1 hx]; exact hB) J dE) (fun w h => by simpa using Av h mM) ?_
 refine .not J J J (.na ?_)
 first
  | refine Sat.condP rfl (fun hc1 => ?_) (fun hc1 => ?_)
  | refine Sat.condNP rfl (fun hc1 => ?_) (fun hc1 => ?_)
  | refine Sat.cond rfl (fun hc1 => ?_) (fun hc1 => ?_)
 ·
  refine .sr (.a J J J (.na ?_))
  -- ret
  refine .ret (at_r (A0 (Bi (out := []) (An J J) Au ?_)))
  exact ⟨rfl, rfl⟩
 refine .skip (Am (.sr (.a J J J (.nsr (.m J J J (.lA J J J Y31.h J Sz31 mM (Block.length (by first | exact hB | (simp [h32]; done) | exact oK | exact Point.zero_ok | exact wide.zero_ok | exact secrets.zero_ok | exact far.zero_ok | exact Cut.zero_ok | exact Cert.zero_ok | exact Msg.zero_ok | exact Inbox.zero_ok | exact Record.zero_ok | exact Kept.zero_ok | exact Rdr.zero_ok | exact DEnt.zero_ok | exact DPl.zero_ok )) ?_))))))
 refine .cV J J J J Body10 (dag_Add_nil B hB) tV (.m J J J (.eX J J J J (.eX J J J J (.a J J J (.a J J J (.nsr (.m J J J ?_)))))))
 first
  | refine Tr.lA rfl rfl rfl Y25.h rfl Sz25 mM (by first | (simp [h32]; done) | assumption | (rw [Aa, List.length_map]; assumption)) ?_
  | refine Tr.lN _ rfl rfl rfl Y25.h rfl Sz25 mM (by exact rfl) (by first | (simp [h32]; done) | assumption | (rw [Aa, List.length_map]; assumption)) ?_
 refine .cV J J J J Body11 (dag_Get_nil n h32) tV (.m J J J (.eX J J J J (.eX J J J J (.alloc (cs := Block.zero.cells) J Block.zr J ?_))))
 intro n8 hn8 hf8
 refine .sA J J J J (Block.isCell (by first | exact hB | (simp [h32]; done) | exact oK | exact Point.zero_ok | exact wide.zero_ok | exact secrets.zero_ok | exact far.zero_ok | exact Cut.zero_ok | exact Cert.zero_ok | exact Msg.zero_ok | exact Inbox.zero_ok | exact Record.zero_ok | exact Kept.zero_ok | exact Rdr.zero_ok | exact DEnt.zero_ok | exact DPl.zero_ok )) Sz31 (Block.length (by first | exact hB | (simp [h32]; done) | exact oK | exact Point.zero_ok | exact wide.zero_ok | exact secrets.zero_ok | exact far.zero_ok | exact Cut.zero_ok | exact Cert.zero_ok | exact Msg.zero_ok | exact Inbox.zero_ok | exact Record.zero_ok | exact Kept.zero_ok | exact Rdr.zero_ok | exact DEnt.zero_ok | exact DPl.zero_ok )) mM (Block.length (by first | exact hB | (simp [h32]; done) | exact oK | exact Point.zero_ok | exact wide.zero_ok | exact secrets.zero_ok | exact far.zero_ok | exact Cut.zero_ok | exact Cert.zero_ok | exact Msg.zero_ok | exact Inbox.zero_ok | exact Record.zero_ok | exact Kept.zero_ok | exact Rdr.zero_ok | exact DEnt.zero_ok | exact DPl.zero_ok )) uU ?_
 refine .a J J J (.nsr (.m J J J ?_))
 first
  | refine Tr.lA rfl rfl rfl Y25.h rfl Sz25 mM (by first | (simp [h32]; done) | assumption | (rw [Aa, List.length_map]; assumption)) ?_
  | refine Tr.lN _ rfl rfl rfl Y25.h rfl Sz25 mM (by exact rfl) (by first | (simp [h32]; done) | assumption | (rw [Aa, List.length_map]; assumption)) ?_
 refine .mkRow (z := agg (Aa (List.replicate 32 0))) [agg (Aa n)] (Aa n) J J J Y26.h Sz25 Zr25 J J (by intro v hv; rw [List.mem_singleton.1 hv]; simp [Value.cells, agg, Aa, h32]) dE (by simp [Value.cells, agg]) ?_
 intro q33
 refine .cV J J J J Body12 (dag_Closure_nil ⟨some ⟨q33, 0, none⟩, 1, 1⟩) tV (.m J J J (.eX J J J J (.eX J J J J (.a J J J (.a J J J (.nsr (.m J J J (.eqi J J J J (decide_eq_true (rfl)) (.m J J J (.m J J J (.eqi J J J J (decide_eq_true (rfl)) (.pick J J J J J J (.m J J J (.m J J J (.eqi J J J J (decide_eq_true (rfl)) (.pick J J J J J J (.m J J J (.m J J J ?_))))))))))))))))))
 first
  | refine Tr.lA rfl rfl rfl Y25.h rfl Sz25 mM (by first | (simp [h32]; done) | assumption | (rw [Aa, List.length_map]; assumption)) ?_
  | refine Tr.lN _ rfl rfl rfl Y25.h rfl Sz25 mM (by exact rfl) (by first | (simp [h32]; done) | assumption | (rw [Aa, List.length_map]; assumption)) ?_
 refine .cV J J J J Body13 (dag_has_nil n h32) tV (.not J J J (.pick J J J J J J (.m J J J (.m J J J (.cV J J J J Body14 (dag_Names_nil) tV (.lenSl J J J Y26.h (.eqi J J J J (decide_eq_true (rfl)) (.pick J J J J J J (.m J J J (.m J J J (.cV J J J J Body15 (dag_Heads_nil) tV (.lenSl J J J Y26.h (.eqi J J J J (decide_eq_true (rfl)) (.pick J J J J J J (.m J J J (.m J J J (.cV J J J J Body16 (dag_Orphans_nil) tV (.lenSl J J J Y26.h (.eqi J J J J (decide_eq_true (rfl)) (.pick J J J J J J (.m J J J (.m J J J (.cV J J J J Body17 (dag_Missing_nil) tV (.lenSl J J J Y26.h (.eqi J J J J (decide_eq_true (rfl)) (.pick J J J J J J (.m J J J (.m J J J (.cV J J J J Body18 (dag_Forks_nil) tV (.lenSl J J J Tryz.underlying44 (.eqi J J J J (decide_eq_true (rfl)) (.pick J J J J J J (.m J J J (.m J J J (.fld J J J Y31.h J Sz23 dE _ J ?_)))))))))))))))))))))))))))))))))))
 first
  | refine Tr.lN (Aa _) rfl rfl rfl Y23.h rfl Sz23 mM (Block.row_fWriter (by first | exact hB | (simp [h32]; done) | exact oK | exact Point.zero_ok | exact wide.zero_ok | exact secrets.zero_ok | exact far.zero_ok | exact Cut.zero_ok | exact Cert.zero_ok | exact Msg.zero_ok | exact Inbox.zero_ok | exact Record.zero_ok | exact Kept.zero_ok | exact Rdr.zero_ok | exact DEnt.zero_ok | exact DPl.zero_ok )) (Block.rl_fWriter (by first | exact hB | (simp [h32]; done) | exact oK | exact Point.zero_ok | exact wide.zero_ok | exact secrets.zero_ok | exact far.zero_ok | exact Cut.zero_ok | exact Cert.zero_ok | exact Msg.zero_ok | exact Inbox.zero_ok | exact Record.zero_ok | exact Kept.zero_ok | exact Rdr.zero_ok | exact DEnt.zero_ok | exact DPl.zero_ok )) ?_
 refine .cV J J J J Body19 (dag_Of_nil B.fWriter hB.l_fWriter) tV (.lenSl J J J Y26.h (.eqi J J J J (decide_eq_true (rfl)) (.pick J J J J J J (.m J J J (.m J J J ?_)))))
 first
  | refine Tr.lA rfl rfl rfl Y25.h rfl Sz25 mM (by first | (simp [h32]; done) | assumption | (rw [Aa, List.length_map]; assumption)) ?_
  | refine Tr.lN _ rfl rfl rfl Y25.h rfl Sz25 mM (by exact rfl) (by first | (simp [h32]; done) | assumption | (rw [Aa, List.length_map]; assumption)) ?_
 first
  | refine Tr.lA rfl rfl rfl Y25.h rfl Sz25 mM (by first | (simp [h32]; done) | assumption | (rw [Aa, List.length_map]; assumption)) ?_
  | refine Tr.lN _ rfl rfl rfl Y25.h rfl Sz25 mM (by exact rfl) (by first | (simp [h32]; done) | assumption | (rw [Aa, List.length_map]; assumption)) ?_
 refine .cV J J J J Body20 (dag_Leads_nil n n h32 h32) tV (.not J J J (.pick J J J J J J (.m J J J (.m J J J (.cV J J J J Body21 (dag_Drop_nil) tV (.eqi J J J J (decide_eq_true (rfl)) (.pick J J J J J J (.a J J J (.na ?_)))))))))
 -- ret
 refine .ret (A0 (Bi (out := []) (An J J) Au ?_))
 exact ⟨rfl, rfl⟩
end Go.Proofs.YtfcbgdkpagcbbaaGreat
end

section
namespace Go.Proofs.YtfcbgdkpagcbbaaGreat
open Go Go.ChangeShapes Go.WideShapes Go.ChangeAt Go.RowKit

theorem ownDNil : ownKnob Tryz.prog.godebug = none := by kernel_rfl
theorem laidOutDNil : laidOutB Tryz.prog = true := by kernel_rfl

theorem walkDNil (w : World) (x0 : Block) (ok0 : x0.ok) (ls0 : List (List UInt8)) (hls0 : Hw.RowsAt w x0.fLinks 32 ls0) (ld0 : List UInt8) (hld0 : Hw.BytesAt w x0.fData ld0) (l1 : List UInt8) (hl1 : l1.length = 32) : Calls Tryz.prog 3 #[Hw.agg x0.cells, Hw.agg (Hw.Aa l1)] w fun e w' => e = .returned (.bool true) ∧ Below w.heap.size w w' :=
  by
  have fin : ∀ {us : Array Value}, Calls Tryz.prog 3 us w (fun e W' => ∃ v out, e = .returned v ∧ (v = .bool true ∧ out = []) ∧ Hw.Ret [] out w W') → Calls Tryz.prog 3 us w (fun e w' => e = .returned (.bool true) ∧ Below w.heap.size w w') :=
    fun h => h.mono fun e w' ⟨v, out, he, ⟨hv, ho⟩, hr⟩ => ⟨by rw [he, hv], Hw.Keeps.below hr.keeps⟩
  exact fin (law_dagnil x0 ok0 l1 hl1 w trivial)

theorem liftedDNil (os : Os) (started : os.Started) (H : Type) (enc : TypeId × Value → H) :
    ReturnsInHanded {} Tryz.checked os 3 .any (Rows.dagNilSpec.pre6 enc Tryz.prog Tryz.f3 Rows.dagNilRow.domain false) (Rows.dagNilSpec.post enc Tryz.prog Tryz.f3 false true false false) := by
  refine returnsInHanded_of_change (C := Tryz.checked) ownDNil started (by kernel_rfl) Tryz.func3
    (ChangeSpec.witness6 (enc := enc) (C := Tryz.checked) false ⟨#[], #[.agg (Array.replicate 32 (.int .u8 0) ++ #[.int .u64 0] ++ Array.replicate 32 (.int .u8 0) ++ #[.slice none 0 0, .slice none 0 0] ++ Array.replicate 64 (.int .u8 0)), .agg (Array.replicate 32 (.int .u8 0))], []⟩ 8 (by kernel_rfl) (by kernel_rfl) (by kernel_rfl) (by kernel_rfl)) ?_
  intro W base args ds gs before hval0 hW hcnd _
  have hval : ∀ (j : Nat) t v, Tryz.f3.params[j]? = some t → args[j]? = some v → Value.okWide Tryz.prog W .any base t v := hval0
  have hW' := hW
  obtain ⟨p, q, hA0, hV, rfl, hfz, hnd⟩ := hW
  have hA : DataW.TrodAll enc Tryz.prog W 0 (fun _ => true) true Tryz.f3.params.toList args.toList ds p := hA0
  rw [Tryz.params3] at hA hval
  obtain ⟨v0, vs0, d0, ds0, p0, q0, hargs, rfl, rfl, h0, r0⟩ := trodAll_cons hA
  obtain ⟨v1, vs1, d1, ds1, p1, q1, rfl, rfl, rfl, h1, r1⟩ := trodAll_cons r0
  obtain ⟨rfl, rfl, rfl⟩ := trodAll_nil r1
  obtain rfl : args = #[v0, v1] := by cases args; simp_all
  obtain ⟨rfl, rfl⟩ := trodVars_none hV
  have k0 := h0
  have lt0 : ∀ x ∈ p0, x.block < W.heap.size := by obtain ⟨m, hm⟩ := k0; exact DataW.trod_lt m _ _ _ hm
  have k1 := h1
  have lt1 : ∀ x ∈ p1, x.block < W.heap.size := by obtain ⟨m, hm⟩ := k1; exact DataW.trod_lt m _ _ _ hm
  obtain ⟨x0, ok0, rfl, xx0⟩ := Block.openV (hval 0 31 v0 rfl rfl) h0
  obtain ⟨⟨ls0, hls0⟩, ⟨ld0, hld0⟩⟩ := xx0
  obtain ⟨l1, rfl, hl1⟩ := Hw.open_bytes Tryz.underlying25 Tryz.underlying5 (by kernel_rfl) (by kernel_rfl) (hval 1 25 v1 rfl rfl) h1
  clear hA0 hval0
  refine (walkDNil W x0 ok0 ls0 hls0 ld0 hld0 l1 hl1).mono fun e W' ⟨he, bel⟩ => ?_
  subst he
  exact ⟨_, rfl, _, _, _, [], _, [], hW', trodAll_mk1 (shut_bool Tryz.underlying4 _), (trodAll_cons_mk (Below.trod laidOutDNil (by kernel_rfl) (of_decide_eq_true (by kernel_rfl)) k0 bel lt0) (trodAll_cons_mk (Below.trod laidOutDNil (by kernel_rfl) (of_decide_eq_true (by kernel_rfl)) k1 bel lt1) trodAll_mk0)), rfl, bel.frame _, fun h => by cases h⟩

theorem dagNil_holds : Rows.DagNilSaid :=
  OpenClaim.holds_of_wide 3 Tryz.f3 rfl rfl rfl rfl rfl rfl rfl ⟨rfl, rfl, rfl, rfl, rfl⟩ rfl rfl rfl rfl rfl (by kernel_rfl) Tryz.func3 (by kernel_rfl)
    (of_decide_eq_true (by kernel_rfl)) (by unfold Func.isWrapper; first | (rw [if_pos (by decide +kernel)]; kernel_rfl) | (rw [if_neg (by decide +kernel)]; exact ⟨rfl, rfl⟩))
    (fun os started H enc _ => liftedDNil os started H enc)

end Go.Proofs.YtfcbgdkpagcbbaaGreat
end
