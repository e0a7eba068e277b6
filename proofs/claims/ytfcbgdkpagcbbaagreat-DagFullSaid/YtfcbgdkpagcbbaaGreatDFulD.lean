/- DagFull returns true at every start, and leaves all old memory as it was. Conditions: none beyond the given statement's own. -/
import Derived.WalkKit
import Derived.Orders
import Derived.Deep.LoopGhost
import Derived.IntWalk
import Derived.Laws.StructEq
import Derived.ArgAppend
import Derived.Deep.AppendSrc
import Derived.Lib.Bytealg
import Derived.Lib.BytesEntry
import Derived.Laws.IdiomStrings
import Derived.WideKeyArr2
import Derived.ProofKit
import Derived.OpenShut
import Derived.Deep.Slices
import Derived.Laws.Pointers
import Derived.Laws.Cover3
import Derived.LaidEqlPtr
import Derived.LoopN
import Derived.RangeFuncLeaves
import Derived.RangeFuncSeq
import Derived.OrdersIn
import Derived.Maps.Keyed
import Derived.Maps.RangeRun
import Derived.DeepKeys4
import Derived.Below
import Derived.Test.YtfcbgdkpagcbbaaGreatRows
import Derived.KernelRfl
import Derived.Laws.Externs
import Derived.Defers
import Derived.Laws.MathBits
import Derived.Shelf.SlSortCmp.WholeK
import Derived.Shelf.SlGeneric
import Derived.Test.YtfcbgdkpagcbbaaGreatProg
import Derived.Shelf.SlSortCmp.NoneTotal
import Derived.Deep.QuietTactic
import Derived.BigQuiet
import Derived.ScopeJumps
import Derived.DeepKeys3
import Derived.ChangeOld
import Derived.Test.YtfcbgdkpagcbbaaGreatDFulD5
set_option maxRecDepth 100000
set_option maxHeartbeats 8000000
set_option linter.unusedVariables false
set_option linter.unusedSimpArgs false
set_option linter.unusedSectionVars false
set_option linter.unnecessarySimpa false
section
namespace Go.Proofs.YtfcbgdkpagcbbaaGreat
open Go Hw

theorem DD.m0 (x : DD) (p : Nat) : (⟨p, [ptr p 0, x.nm.v, .map (some x.bE), .map (some x.bH), .map (some x.bO), .map (some x.bP), .map (some x.bW)], 75, 7⟩ : Blk) ∈ x.blks p := by unfold DD.blks; exact List.mem_cons_self
theorem DD.mE (x : DD) (p : Nat) : A6 x.bE (Au 32 evE) x.ent ∈ x.blks p := by unfold DD.blks; exact mem1
theorem DD.mH (x : DD) (p : Nat) : A6 x.bH (Au 32 evU) x.hds ∈ x.blks p := by unfold DD.blks; exact mem2
theorem DD.mO (x : DD) (p : Nat) : A6 x.bO (Au 32 evB) x.orp ∈ x.blks p := by unfold DD.blks; exact mem3
theorem DD.mcb (x : DD) (p : Nat) : ∀ b ∈ x.cb, b ∈ x.blks p := by unfold DD.blks; exact (by repeat (first | exact Bp | refine Ca ?_ | refine in_seg ?_))
theorem DD.mnb (x : DD) (p : Nat) : ∀ b ∈ x.nb, b ∈ x.blks p := by unfold DD.blks; exact (by repeat (first | exact Bp | refine Ca ?_))
theorem DagSee.lies {x : DD} {p : Nat} {W : World} (h : Lies (x.blks p) W) : DagSee x p W := ⟨h _ (x.m0 p), h _ (x.mE p)⟩
theorem lies_keep {C : Cx} {hp L : List Blk} {w : World} (h : Lies L C.W0) (hh : HRep C hp w) (hl : C.lent = [] := by rfl) : Lies L w := fun b hb => mblk_keep (h b hb) hh hl
def ddp (l : List (List UInt8)) : List (List UInt8) := l.foldr (fun a acc => if a ∈ acc then acc else a :: acc) []
theorem mem_ddp {a : List UInt8} : ∀ {l : List (List UInt8)}, a ∈ ddp l ↔ a ∈ l
  | [] => Iff.rfl
  | b :: l => by
    have ih := @mem_ddp a l
    show a ∈ (if b ∈ ddp l then ddp l else b :: ddp l) ↔ _
    split
    · rename_i h
      rw [ih, List.mem_cons]
      exact ⟨.inr, fun h2 => by rcases h2 with rfl | h2; exact ih.1 h; exact h2⟩
    · rw [List.mem_cons, List.mem_cons, ih]
theorem ddp_nodup : ∀ l, (ddp l).Nodup
  | [] => List.nodup_nil
  | b :: l => by
    show (if b ∈ ddp l then ddp l else b :: ddp l).Nodup
    split
    · exact ddp_nodup l
    · rename_i h; exact List.nodup_cons.2 ⟨h, ddp_nodup l⟩
def PD.lacks (X : PD) (n : List UInt8) : Bool := !(A3 X.orp n).isSome && !(A3 X.P n).isSome
def PD.missing (X : PD) : List (List UInt8) := isort (ddp (((X.orp.map fun p => C1 p.2).flatten).filter X.lacks))
def PD.orphans (X : PD) : List (List UInt8) := isort (X.orp.map (·.1))
theorem keys_put {ν : Type} (fs : List (List UInt8 × ν)) (k : List UInt8) (v : ν) (n : List UInt8) : n ∈ (Bq fs k v).map (·.1) ↔ n ∈ fs.map (·.1) ∨ n = k := by
  have key : ∀ j, midx fs k = some j → (fs.set j (k, v)).map (·.1) = fs.map (·.1) ∧ k ∈ fs.map (·.1) := fun j h => by
    unfold midx at h
    rw [List.findIdx?_eq_some_iff_getElem] at h
    obtain ⟨hl, he, _⟩ := h
    have e : fs[j].1 = k := by simpa using he
    refine ⟨?_, List.mem_map.2 ⟨fs[j], List.getElem_mem hl, e⟩⟩
    rw [List.map_set]
    refine List.ext_getElem? fun i => ?_
    rw [List.getElem?_set]
    split
    · rename_i hij
      subst hij
      rw [if_pos (by simpa using hl), List.getElem?_map, List.getElem?_eq_getElem hl]
      simp [e]
    · rfl
  unfold Bq
  cases h : midx fs k with
  | some j =>
    simp only
    rw [(key j h).1]
    exact ⟨.inl, fun h2 => by rcases h2 with h2 | rfl; exact h2; exact (key j h).2⟩
  | none => simp only [List.map_append, List.map_cons, List.map_nil, List.mem_append, List.mem_singleton]
structure MissI (x : DD) (done todo : List (List UInt8 × BV)) (ms : List (List UInt8 × Unit)) : Prop where
  perm : (done ++ todo).Perm x.orp
  r32 : ∀ q ∈ ms, q.1.length = 32
  nd : (ms.map (·.1)).Nodup
  len : ms.length + 17 * todo.length ≤ 17 * x.orp.length
  keys : ∀ n, n ∈ ms.map (·.1) ↔ ∃ q ∈ done, n ∈ C1 q.2.2 ∧ x.pl.lacks n = true
structure MissJ (x : DD) (L : List (List UInt8)) (k : Nat) (ms ms2 : List (List UInt8 × Unit)) : Prop where
  r32 : ∀ q ∈ ms2, q.1.length = 32
  nd : (ms2.map (·.1)).Nodup
  len : ms2.length ≤ ms.length + k
  keys : ∀ n, n ∈ ms2.map (·.1) ↔ n ∈ ms.map (·.1) ∨ (n ∈ L.take k ∧ x.pl.lacks n = true)
theorem lacks_eq (x : DD) (n : List UInt8) : x.pl.lacks n = (!(A3 x.orp n).isSome && !(A3 x.ent n).isSome) := by
  unfold PD.lacks
  rw [x.getO, show x.pl.P = x.P from rfl, x.getP, Option.isSome_map, Option.isSome_map]
theorem MissJ.yes {x : DD} {L : List (List UInt8)} {k : Nat} {ms ms2 : List (List UInt8 × Unit)} {kk : List UInt8} (h : MissJ x L k ms ms2) (hk : k < L.length) (hkk : kk = L.getD k []) (h32 : kk.length = 32) (hl : x.pl.lacks kk = true) : MissJ x L (k + 1) ms (Bq ms2 kk ()) where
  r32 := fun q hq => by rcases mput_mem hq with hq | rfl; exact h.r32 q hq; exact h32
  nd := mput_nodup h.nd kk ()
  len := by have := mput_len ms2 kk (); have := h.len; omega
  keys := fun n => by
    rw [keys_put, h.keys, take_one hk hkk, List.mem_append, List.mem_singleton]
    constructor
    · rintro ((h1 | h1) | rfl)
      · exact .inl h1
      · exact .inr ⟨.inl h1.1, h1.2⟩
      · exact .inr ⟨.inr rfl, hl⟩
    · rintro (h1 | ⟨h1 | rfl, h2⟩)
      · exact .inl (.inl h1)
      · exact .inl (.inr ⟨h1, h2⟩)
      · exact .inr rfl
theorem MissJ.no {x : DD} {L : List (List UInt8)} {k : Nat} {ms ms2 : List (List UInt8 × Unit)} {kk : List UInt8} (h : MissJ x L k ms ms2) (hk : k < L.length) (hkk : kk = L.getD k []) (hl : x.pl.lacks kk = false) : MissJ x L (k + 1) ms ms2 where
  r32 := h.r32
  nd := h.nd
  len := by have := h.len; omega
  keys := fun n => by
    rw [h.keys, take_one hk hkk, List.mem_append, List.mem_singleton]
    constructor
    · rintro (h1 | h1)
      · exact .inl h1
      · exact .inr ⟨.inl h1.1, h1.2⟩
    · rintro (h1 | ⟨h1 | rfl, h2⟩)
      · exact .inl h1
      · exact .inr ⟨h1, h2⟩
      · rw [hl] at h2; cases h2
theorem MissI.next {x : DD} {done todo : List (List UInt8 × BV)} {ms ms2 : List (List UInt8 × Unit)} {j : Nat} {q : List UInt8 × BV} (h : MissI x done todo ms) (hj : todo[j]? = some q) (hJ : MissJ x (C1 q.2.2) (C1 q.2.2).length ms ms2) (hl : (C1 q.2.2).length ≤ 17) : MissI x (done ++ [q]) (todo.eraseIdx j) ms2 where
  perm := perm_step h.perm hj
  r32 := hJ.r32
  nd := hJ.nd
  len := by
    have h1 := hJ.len
    have h2 := h.len
    have h3 := (List.getElem?_eq_some_iff.1 hj).1
    rw [List.length_eraseIdx, if_pos h3]
    omega
  keys := fun n => by
    rw [hJ.keys, h.keys, List.take_length]
    constructor
    · rintro (⟨r, hr, h1⟩ | h1)
      · exact ⟨r, List.mem_append_left _ hr, h1⟩
      · exact ⟨q, List.mem_append_right _ (List.mem_singleton.2 rfl), h1⟩
    · rintro ⟨r, hr, h1⟩
      rcases List.mem_append.1 hr with hr | hr
      · exact .inl ⟨r, hr, h1⟩
      · rw [List.mem_singleton.1 hr] at h1; exact .inr h1
theorem MissI.fin {x : DD} {done : List (List UInt8 × BV)} {ms : List (List UInt8 × Unit)} {ks : List (List UInt8)} (h : MissI x done [] ms) (hp : ks.Perm (ms.map (·.1))) (hs : SortB ks) : ks = x.pl.missing := by
  unfold PD.missing
  refine isort_eq (hp.trans ((List.perm_ext_iff_of_nodup h.nd (ddp_nodup _)).2 fun n => ?_)) hs
  rw [mem_ddp, h.keys, List.mem_filter, List.mem_flatten]
  have hm : ∀ q, q ∈ done ↔ q ∈ x.orp := fun q => by have := h.perm.mem_iff (a := q); rwa [List.append_nil] at this
  constructor
  · rintro ⟨q, hq, h1, h2⟩
    exact ⟨⟨C1 q.2.2, List.mem_map.2 ⟨(q.1, q.2.2), List.mem_map.2 ⟨q, (hm q).1 hq, rfl⟩, rfl⟩, h1⟩, h2⟩
  · rintro ⟨⟨l, hl, h1⟩, h2⟩
    obtain ⟨r, hr, rfl⟩ := List.mem_map.1 hl
    obtain ⟨q, hq, rfl⟩ := List.mem_map.1 hr
    exact ⟨q, (hm q).2 hq, h1, h2⟩

theorem dag_orphans (x : DD) (hx : x.ok) (p : Nat) : Meets Tryz.prog 16 [ptr p 0] [] (fun W => Lies (x.blks p) W) (RowA x.pl.orphans) := by
 intro W hW
 refine Ad Tryz.func16 J 11 Tryz.ntmps16 J (G9 ?_)
 refine .cV J J J J Body33 (dag_valid x p) (fun w h => DagSee.ext h (DagSee.lies hW)) (G3 ?_)
 refine .cond_f J J (G7 ?_)
 refine .loadE J J J Y71.h J sP ((DagSee.lies hW).at (o := 4) J) (.call4 J J J J J Body43 (dag_sortedB MO x.bO x.orp (fun p hp => (hx.orp p hp).1) (by have := hx.big; omega)) (fun w h => mblk_keep (hW _ (x.mO p)) h) ?_)
 rintro v10 out10 ⟨s10, ks, hkp, hks, rfl, hac⟩
 obtain rfl : ks = x.pl.orphans := isort_eq (by rw [orp_keys]; exact hkp) hks
 refine G3 ?_
 -- ret
 refine G2 ?_
 refine Bg (out := (out10 ++ [])) (Ao J J) (Aj sG Aq) ?_
 exact ⟨s10, rfl, by simpa using hac⟩

theorem dag_missing (x : DD) (hx : x.ok) (p : Nat) : Meets Tryz.prog 17 [ptr p 0] [] (fun W => Lies (x.blks p) W) (RowA x.pl.missing) := by
 intro W hW
 obtain ⟨es, clock, hb, F⟩ := (hW _ (x.mO p)).map
 have hbig := hx.orpn
 refine Ad Tryz.func17 J 53 Tryz.ntmps17 J (G9 ?_)
 refine .cV J J J J Body33 (dag_valid x p) (fun w h => DagSee.ext h (DagSee.lies hW)) (G3 ?_)
 refine .cond_f J J (G4 ?_)
 refine .mkMap (Au 32 evU) J J ?_
 intro m3
 refine G9 ?_
 refine .loadE J J J Y71.h J sP ((DagSee.lies hW).at (o := 4) J) (.rangeMapC Y71.h hb sP J J J J ?_)
 intro q18
 refine G3 ?_
 refine .loop (ι := Array Nat × List (List UInt8 × BV) × List (List UInt8 × BV) × List (List UInt8 × Unit)) (fun q => ⟨[(0, ptr p 0), (3, .map (some m3)), (18, ptr q18 0)], [iblk q18 x.bO clock q.1, A6 m3 (Au 32 evU) q.2.2.2]⟩) (fun q => ItOk (Au 32 evB) es q.1 q.2.2.1 ∧ MissI x q.2.1 q.2.2.1 q.2.2.2) (fun q => q.2.2.1.length) ((#[], [], x.orp, [])) ?_ ?_ ?_
 · exact ⟨ItOk.start F, ⟨List.Perm.refl _, fun q h => (by cases h), List.nodup_nil, by simp, fun n => by simp⟩⟩
 · exact Aw (wk1 rfl (wk1 rfl (wk1 rfl wk0))) (Ab rM (Ab rM Aq))
 rintro q ⟨hi, hI⟩
 refine G2 ?_
 refine .nextMapC F hi hb sP J J J J rM ?_ ?_
 ·
  intro htd
  refine G4 ?_
  refine .cond_f J J (G7 ?_)
  rw [htd] at hI
  have hj9 := hI
  refine G1 ?_
  refine .call4 J J J J J Body40 (dag_sortedU MH m3 q.2.2.2 hj9.r32 (by have := hj9.len; omega)) (fun w h => h.cells _ Z0) ?_
  rintro v52 out52 ⟨s52, ks, hkp, hks, rfl, hac⟩
  obtain rfl := hj9.fin hkp hks
  refine G3 ?_
  -- ret
  refine G2 ?_
  refine Bg (out := (out52 ++ [])) (Ao J J) (Aj sG Aq) ?_
  exact ⟨s52, rfl, by simpa using hac⟩
 intro j k0 v seen2 hj hit hat
 have hmem : (k0, v) ∈ x.orp := hI.perm.mem_iff.1 (List.mem_append_right _ (List.mem_of_getElem? hj))
 have hvo := hx.orp _ hmem
 simp only at hvo
 have hrow := parL_row (hvo.2.1.2 W (hW.sub (x.mcb p))).dok
 refine G4 ?_
 refine .cond_t J J (G5 ?_)
 refine .entryMapC F hat hb sP J J J Z0 ?_
 refine G1 ?_
 refine .alloc (cs := Block.zero.cells) J Block.zr J ?_
 intro n5 hn5 hf5
 refine .sA J J J J (Block.isCell (by exact hvo.2.1.1.ok)) Sz31 (Block.length (by exact hvo.2.1.1.ok)) Z0 (Block.length (by exact Block.zero_ok)) zU ?_
 refine G4 ?_
 refine .lA J J J Y31.h J Sz31 Z0 (Block.length (by exact hvo.2.1.1.ok)) ?_
 refine .call4 J J J J J Body44 (db_parA v.1 v.2 oM) (fun w h => hvo.2.1.2 w ((lies_keep hW h).sub (x.mcb p))) ?_
 rintro v24 out24 ⟨s24, rfl, hac⟩
 have hn24 : s24.n = (C1 v.2).length := hac.num
 have hp17 : (C1 v.2).length ≤ 17 := by have := parL_len v.2; omega
 refine G5 ?_
 refine .loop (ι := Nat × List (List UInt8 × Unit)) (fun r => ⟨[(0, ptr p 0), (3, .map (some m3)), (18, ptr q18 0), (24, s24.v), (25, i64 (s24.n : Int)), (26, i64 (r.1 : Int))], (iblk q18 x.bO clock seen2 :: (A6 m3 (Au 32 evU) r.2 :: (out24 ++ [])))⟩) (fun r => r.1 ≤ (C1 v.2).length ∧ MissJ x (C1 v.2) r.1 q.2.2.2 r.2) (fun r => (C1 v.2).length - r.1) ((0, q.2.2.2)) ?_ ?_ ?_
 · exact ⟨Nat.zero_le _, ⟨hI.r32, hI.nd, Nat.le_refl _, fun n => by simp⟩⟩
 · exact Aw (wk1 rfl (wk1 rfl (wk1 rfl (wk1 rfl (wk1 rfl (wk1 rfl wk0)))))) (Ab rM (Ab rM (Aj sG Aq)))
 rintro ⟨k, ms2⟩ ⟨hk0, hJ⟩
 simp only at hk0 hJ ⊢
 refine G6 ?_
 refine .condP J (fun hc2 => ?_) (fun hc2 => ?_)
 ·
  refine G6 ?_
  have hk : k < (C1 v.2).length := by omega
  have hkb : k ≤ 600000 := by omega
  rcases hac with ⟨_, _, _, h0⟩ | ⟨qr, cr, rfl, hnc, hfl, rfl⟩
  · exfalso; omega
  obtain ⟨kk, hkk⟩ : ∃ kk, kk = (C1 v.2).getD k [] := ⟨_, rfl⟩
  have h32k : kk.length = 32 := by rw [hkk, List.getD_eq_getElem?_getD, List.getElem?_eq_getElem hk]; exact hrow _ (List.getElem_mem hk)
  refine .idxSlP 32 J J J J J Y26.h Sz25 k J oM (.loadSN (n := 32) (Aa kk) J J J Y25.h J Sz25 (by rw [Aa, List.length_map]; exact h32k) (fun w h => by rw [hkk]; simpa using sees_row hrow (As h Z2) hk) ?_)
  refine .alloc (cs := (Aa (List.replicate 32 0))) J Zr25 J ?_
  intro n7 hn7 hf7
  refine .sA J J J J zE Sz25 (by (rw [Aa, List.length_map]; assumption)) Z0 sP zU ?_
  refine G3 ?_
  refine .draw [(0, 0), (0, 1), (0, 2), (1, 3), (1, 4), (1, 5), (0, 6), (0, 7), (0, 8), (2, 9), (4, 10), (0, 11)] Ar zK (G3 ?_)
  refine .loadE J J J Y71.h J sP ((DagSee.lies hW).at (o := 4) J) (.lA J J J Y25.h J Sz25 Z0 (by (rw [Aa, List.length_map]; assumption)) ?_)
  refine .lookFC evB MO (hW _ (x.mO p)) sP J J J J h32k (fun hg => ?_) (fun e hg => ?_)
  ·
   skip
   refine G3 ?_
   refine .alloc (cs := Block.zero.cells) J Block.zr J ?_
   intro n8 hn8 hf8
   refine G10 ?_
   refine .lA J J J Y25.h J Sz25 Z1 (by (rw [Aa, List.length_map]; assumption)) ?_
   refine .cV J J J J Body13 (dag_has x hx p kk h32k) (fun w h => DagSee.ext h (DagSee.lies hW)) (G4 ?_)
   refine .cond J (fun hc3 => ?_) (fun hc3 => ?_)
   ·
    refine G2 ?_
    refine .lA J J J Y25.h J Sz25 Z1 (by (rw [Aa, List.length_map]; assumption)) ?_
    refine .build (cs := []) J J J (fun w => by kernel_rfl) ?_
    refine .mapPut (v := ()) MH J J J J J h32k rM ?_
    refine G8 ?_
    exact ⟨(k + 1, Bq ms2 kk ()), ⟨hk, hJ.yes hk hkk h32k (by rw [lacks_eq, hg]; simpa using hc3)⟩, by simp only; omega, Aw (wk1 rfl (wk1 rfl (wk1 rfl (wk1 rfl (wk1 rfl (wk1 rfl wk0)))))) (Ab rM (Ab rM (Aj sG Aq)))⟩
   refine G8 ?_
   exact ⟨(k + 1, ms2), ⟨hk, hJ.no hk hkk (by rw [lacks_eq, hg]; simpa using hc3)⟩, by simp only; omega, Aw (wk1 rfl (wk1 rfl (wk1 rfl (wk1 rfl (wk1 rfl (wk1 rfl wk0)))))) (Ab rM (Ab rM (Aj sG Aq)))⟩
  skip
  refine G3 ?_
  refine .alloc (cs := Block.zero.cells) J Block.zr J ?_
  intro n8 hn8 hf8
  refine .sA J J J J (Block.isCell (by exact hx.orpOk hg)) Sz31 (Block.length (by exact hx.orpOk hg)) Z0 (Block.length (by exact Block.zero_ok)) zU ?_
  refine G15 ?_
  refine .cond_f J J (G8 ?_)
  exact ⟨(k + 1, ms2), ⟨hk, hJ.no hk hkk (by rw [lacks_eq, hg]; rfl)⟩, by simp only; omega, Aw (wk1 rfl (wk1 rfl (wk1 rfl (wk1 rfl (wk1 rfl (wk1 rfl wk0)))))) (Ab rM (Ab rM (Aj sG Aq)))⟩
 refine G6 ?_
 exact ⟨(seen2, q.2.1 ++ [(k0, v)], q.2.2.1.eraseIdx j, ms2), ⟨hit, hI.next hj (by rw [show (C1 v.2).length = k by omega]; exact hJ) hp17⟩, by have h8 := (List.getElem?_eq_some_iff.1 hj).1; simp only [List.length_eraseIdx, h8, if_true]; omega, Aw (wk1 rfl (wk1 rfl (wk1 rfl wk0))) (Ab rM (Ab rM Aq))⟩
end Go.Proofs.YtfcbgdkpagcbbaaGreat
end

section
namespace Go.Proofs.YtfcbgdkpagcbbaaGreat
open Go Hw Ed
def affX (n : Nat) : Nat := force (fastN n) fun s => ux s * pwm PF 256 (uz s % PF) (PF - 2) % PF
def affY (n : Nat) : Nat := force (fastN n) fun s => uy s * pwm PF 256 (uz s % PF) (PF - 2) % PF
theorem fast_at {n X Y : Nat} (hn : n < 2 ^ 256) (hx : affX n = X) (hy : affY n = Y) : cv.mul n bP = ⟨fe X, fe Y⟩ := by
  refine fastN_pt hn ?_ ?_
  · rw [← hx, affX, force_eq, fe_mod, fe_mul]; rfl
  · rw [← hy, affY, force_eq, fe_mod, fe_mul]; rfl
end Go.Proofs.YtfcbgdkpagcbbaaGreat
end

section
namespace Go.Proofs.YtfcbgdkpagcbbaaGreat
open Go Hw Ed
def seB : List UInt8 := [1, 0, 0, 0, 0, 0, 0, 0, 0, 0, 0, 0, 0, 0, 0, 0, 0, 0, 0, 0, 0, 0, 0, 0, 0, 0, 0, 0, 0, 0, 0, 77]
def seH : List UInt8 := [87, 159, 104, 236, 80, 14, 38, 174, 240, 0, 164, 75, 108, 245, 33, 87, 115, 113, 131, 28, 237, 105, 185, 222, 57, 145, 233, 242, 112, 190, 170, 213, 35, 11, 137, 144, 70, 23, 17, 214, 148, 220, 86, 67, 25, 124, 131, 91, 42, 247, 30, 195, 63, 213, 16, 142, 181, 57, 199, 82, 96, 7, 203, 83]
def seN : List UInt8 := [80, 159, 104, 236, 80, 14, 38, 174, 240, 0, 164, 75, 108, 245, 33, 87, 115, 113, 131, 28, 237, 105, 185, 222, 57, 145, 233, 242, 112, 190, 170, 85]
def seK : List UInt8 := [96, 107, 246, 169, 182, 86, 212, 252, 106, 138, 137, 108, 60, 10, 195, 142, 100, 120, 65, 80, 61, 64, 193, 87, 241, 248, 221, 83, 126, 228, 255, 164]
theorem se_h : Cd seB = seH := by kernel_rfl
theorem se_n : clampB (seH.take 32) = seN := by kernel_rfl
theorem se_n1 : le seN = 38748270507491543869280182973643753799655646515636239770492563660028217171792 := by kernel_rfl
theorem se_kp : cv.mul 38748270507491543869280182973643753799655646515636239770492563660028217171792 bP = ⟨fe 28707919823945954948053480135173306747324634050804968349977642706858962874917, fe 16735385554468660665858041024650955505467194536748309173234908357429617388384⟩ := fast_at dE zK zK
theorem se_kb : pb ⟨fe 28707919823945954948053480135173306747324634050804968349977642706858962874917, fe 16735385554468660665858041024650955505467194536748309173234908357429617388384⟩ = seK := by kernel_rfl
theorem se_k : sgK seH = seK := by rw [sgK, se_n, se_n1, se_kp, se_kb]
end Go.Proofs.YtfcbgdkpagcbbaaGreat
end

section
namespace Go.Proofs.YtfcbgdkpagcbbaaGreat
open Go Hw Ed
def caT : List UInt8 := [98, 108, 111, 99, 107, 96, 107, 246, 169, 182, 86, 212, 252, 106, 138, 137, 108, 60, 10, 195, 142, 100, 120, 65, 80, 61, 64, 193, 87, 241, 248, 221, 83, 126, 228, 255, 164, 0, 0, 0, 0, 0, 0, 0, 0, 0, 0, 0, 0, 0, 0, 0, 0, 0, 0, 0, 0, 0, 0, 0, 0, 0, 0, 0, 0, 0, 0, 0, 0, 0, 0, 0]
def caH1 : List UInt8 := [175, 245, 139, 51, 122, 16, 147, 33, 38, 39, 224, 157, 222, 105, 232, 188, 152, 149, 109, 97, 216, 125, 234, 179, 159, 81, 122, 195, 242, 72, 74, 119, 53, 216, 210, 42, 46, 223, 69, 11, 135, 148, 195, 158, 63, 50, 252, 208, 249, 136, 161, 26, 50, 44, 85, 195, 247, 211, 139, 14, 82, 224, 120, 42]
def caH2 : List UInt8 := [94, 68, 37, 235, 75, 3, 179, 227, 182, 168, 24, 97, 151, 39, 145, 159, 85, 188, 197, 58, 181, 59, 46, 167, 161, 148, 253, 26, 77, 111, 57, 247, 223, 4, 85, 65, 115, 67, 54, 205, 150, 114, 139, 244, 13, 183, 50, 14, 182, 243, 250, 185, 18, 161, 221, 142, 41, 60, 249, 199, 226, 150, 120, 220]
def caF : List UInt8 := [168, 217, 184, 90, 171, 153, 102, 32, 85, 221, 230, 215, 79, 168, 176, 196, 238, 161, 142, 119, 27, 171, 182, 97, 56, 89, 7, 177, 97, 96, 106, 222]
def caS : List UInt8 := [168, 217, 184, 90, 171, 153, 102, 32, 85, 221, 230, 215, 79, 168, 176, 196, 238, 161, 142, 119, 27, 171, 182, 97, 56, 89, 7, 177, 97, 96, 106, 222, 147, 245, 169, 6, 87, 234, 48, 223, 156, 70, 165, 238, 89, 18, 170, 116, 162, 60, 219, 161, 170, 149, 137, 114, 121, 52, 200, 59, 2, 8, 234, 7]
def caBy : List UInt8 := [96, 107, 246, 169, 182, 86, 212, 252, 106, 138, 137, 108, 60, 10, 195, 142, 100, 120, 65, 80, 61, 64, 193, 87, 241, 248, 221, 83, 126, 228, 255, 164, 0, 0, 0, 0, 0, 0, 0, 0, 0, 0, 0, 0, 0, 0, 0, 0, 0, 0, 0, 0, 0, 0, 0, 0, 0, 0, 0, 0, 0, 0, 0, 0, 0, 0, 0, 168, 217, 184, 90, 171, 153, 102, 32, 85, 221, 230, 215, 79, 168, 176, 196, 238, 161, 142, 119, 27, 171, 182, 97, 56, 89, 7, 177, 97, 96, 106, 222, 147, 245, 169, 6, 87, 234, 48, 223, 156, 70, 165, 238, 89, 18, 170, 116, 162, 60, 219, 161, 170, 149, 137, 114, 121, 52, 200, 59, 2, 8, 234, 7]
def caN : List UInt8 := [245, 128, 166, 236, 115, 103, 218, 171, 156, 152, 104, 209, 8, 35, 100, 255, 250, 6, 117, 248, 138, 242, 55, 247, 9, 42, 190, 105, 223, 108, 180, 214]
theorem ca_h1 : Cd (seH.drop 32 ++ caT) = caH1 := by kernel_rfl
theorem ca_r1 : le (sgR caH1) = 565907765622320541399421425701583650488762096448569470237382742425803974514 := by kernel_rfl
theorem ca_fp : cv.mul 565907765622320541399421425701583650488762096448569470237382742425803974514 bP = ⟨fe 18245592651785512595255292360529423542044015622478525998739077956776277608981, fe 42705358757100966483473454035153470381756883780899493976395842344226991430056⟩ := fast_at dE zK zK
theorem ca_fb : pb ⟨fe 18245592651785512595255292360529423542044015622478525998739077956776277608981, fe 42705358757100966483473454035153470381756883780899493976395842344226991430056⟩ = caF := by kernel_rfl
theorem ca_f : sgF caH1 = caF := by rw [sgF, ca_r1, ca_fp, ca_fb]
theorem ca_h2 : Cd (caF ++ (seK ++ caT)) = caH2 := by kernel_rfl
theorem ca_s1 : caF ++ sgS seH caH1 caH2 = caS := by kernel_rfl
theorem ca_s : sgF caH1 ++ sgS seH caH1 caH2 = caS := by rw [ca_f, ca_s1]
theorem ca_h2' : Cd (sgF caH1 ++ (sgK seH ++ caT)) = caH2 := by rw [ca_f, se_k, ca_h2]
theorem ca_good : goodB seK caT caS = true := by
  have h := good_self seH caH1 caT ca_h2'
  rwa [ca_s, se_k] at h
theorem ca_n : sha256 caBy = caN := by kernel_rfl
def cbT : List UInt8 := [98, 108, 111, 99, 107, 96, 107, 246, 169, 182, 86, 212, 252, 106, 138, 137, 108, 60, 10, 195, 142, 100, 120, 65, 80, 61, 64, 193, 87, 241, 248, 221, 83, 126, 228, 255, 164, 1, 245, 128, 166, 236, 115, 103, 218, 171, 156, 152, 104, 209, 8, 35, 100, 255, 250, 6, 117, 248, 138, 242, 55, 247, 9, 42, 190, 105, 223, 108, 180, 214, 0, 0]
def cbH1 : List UInt8 := [196, 73, 168, 87, 171, 43, 90, 194, 135, 153, 214, 166, 91, 130, 87, 83, 242, 50, 206, 135, 18, 65, 8, 143, 242, 112, 25, 184, 169, 110, 105, 32, 190, 46, 237, 148, 70, 102, 122, 113, 239, 245, 136, 1, 131, 151, 134, 231, 11, 7, 209, 170, 44, 2, 235, 117, 140, 65, 168, 109, 134, 117, 29, 166]
def cbH2 : List UInt8 := [124, 134, 186, 26, 147, 86, 203, 33, 170, 107, 23, 245, 118, 24, 203, 227, 5, 156, 2, 79, 18, 244, 180, 18, 8, 90, 50, 54, 201, 37, 175, 214, 96, 120, 151, 90, 93, 212, 114, 61, 209, 242, 90, 73, 32, 87, 208, 81, 139, 106, 219, 229, 91, 171, 202, 119, 237, 83, 242, 87, 178, 30, 10, 30]
def cbF : List UInt8 := [243, 120, 3, 82, 236, 210, 11, 7, 232, 87, 94, 184, 218, 48, 247, 84, 134, 241, 240, 121, 131, 106, 27, 57, 114, 211, 64, 247, 135, 107, 125, 145]
def cbS : List UInt8 := [243, 120, 3, 82, 236, 210, 11, 7, 232, 87, 94, 184, 218, 48, 247, 84, 134, 241, 240, 121, 131, 106, 27, 57, 114, 211, 64, 247, 135, 107, 125, 145, 164, 5, 140, 165, 50, 216, 79, 85, 199, 86, 81, 76, 89, 78, 250, 62, 4, 128, 30, 192, 136, 209, 82, 233, 192, 68, 44, 83, 251, 25, 240, 15]
def cbBy : List UInt8 := [96, 107, 246, 169, 182, 86, 212, 252, 106, 138, 137, 108, 60, 10, 195, 142, 100, 120, 65, 80, 61, 64, 193, 87, 241, 248, 221, 83, 126, 228, 255, 164, 1, 245, 128, 166, 236, 115, 103, 218, 171, 156, 152, 104, 209, 8, 35, 100, 255, 250, 6, 117, 248, 138, 242, 55, 247, 9, 42, 190, 105, 223, 108, 180, 214, 0, 0, 243, 120, 3, 82, 236, 210, 11, 7, 232, 87, 94, 184, 218, 48, 247, 84, 134, 241, 240, 121, 131, 106, 27, 57, 114, 211, 64, 247, 135, 107, 125, 145, 164, 5, 140, 165, 50, 216, 79, 85, 199, 86, 81, 76, 89, 78, 250, 62, 4, 128, 30, 192, 136, 209, 82, 233, 192, 68, 44, 83, 251, 25, 240, 15]
def cbN : List UInt8 := [245, 56, 56, 94, 136, 118, 14, 12, 106, 47, 72, 229, 131, 0, 228, 9, 165, 106, 181, 17, 1, 42, 218, 115, 48, 50, 158, 110, 139, 100, 212, 101]
theorem cb_h1 : Cd (seH.drop 32 ++ cbT) = cbH1 := by kernel_rfl
theorem cb_r1 : le (sgR cbH1) = 1042854690461855033549293643297295419211154182590953024946931292553013138148 := by kernel_rfl
theorem cb_fp : cv.mul 1042854690461855033549293643297295419211154182590953024946931292553013138148 bP = ⟨fe 31504235370280623203979679539904128444430040929016018108543993433498125859967, fe 7910916461503537195174013472796533390692371390526138762380987721455419750643⟩ := fast_at dE zK zK
theorem cb_fb : pb ⟨fe 31504235370280623203979679539904128444430040929016018108543993433498125859967, fe 7910916461503537195174013472796533390692371390526138762380987721455419750643⟩ = cbF := by kernel_rfl
theorem cb_f : sgF cbH1 = cbF := by rw [sgF, cb_r1, cb_fp, cb_fb]
theorem cb_h2 : Cd (cbF ++ (seK ++ cbT)) = cbH2 := by kernel_rfl
theorem cb_s1 : cbF ++ sgS seH cbH1 cbH2 = cbS := by kernel_rfl
theorem cb_s : sgF cbH1 ++ sgS seH cbH1 cbH2 = cbS := by rw [cb_f, cb_s1]
theorem cb_h2' : Cd (sgF cbH1 ++ (sgK seH ++ cbT)) = cbH2 := by rw [cb_f, se_k, cb_h2]
theorem cb_good : goodB seK cbT cbS = true := by
  have h := good_self seH cbH1 cbT cb_h2'
  rwa [cb_s, se_k] at h
theorem cb_n : sha256 cbBy = cbN := by kernel_rfl
def ccT : List UInt8 := [98, 108, 111, 99, 107, 96, 107, 246, 169, 182, 86, 212, 252, 106, 138, 137, 108, 60, 10, 195, 142, 100, 120, 65, 80, 61, 64, 193, 87, 241, 248, 221, 83, 126, 228, 255, 164, 2, 245, 56, 56, 94, 136, 118, 14, 12, 106, 47, 72, 229, 131, 0, 228, 9, 165, 106, 181, 17, 1, 42, 218, 115, 48, 50, 158, 110, 139, 100, 212, 101, 0, 0]
def ccH1 : List UInt8 := [142, 5, 57, 247, 165, 189, 239, 219, 100, 209, 68, 204, 233, 255, 175, 153, 170, 230, 62, 248, 195, 235, 81, 130, 129, 5, 190, 152, 154, 253, 247, 107, 200, 192, 28, 179, 197, 5, 11, 163, 28, 66, 130, 33, 163, 234, 139, 43, 189, 106, 176, 241, 102, 94, 32, 224, 243, 171, 186, 136, 141, 227, 67, 213]
def ccH2 : List UInt8 := [255, 41, 48, 1, 72, 2, 158, 48, 48, 11, 244, 35, 227, 176, 216, 97, 189, 190, 185, 100, 205, 14, 242, 104, 247, 24, 216, 61, 79, 101, 221, 182, 90, 124, 203, 51, 114, 20, 55, 230, 201, 93, 70, 16, 43, 39, 50, 140, 53, 70, 1, 71, 239, 142, 56, 157, 159, 17, 70, 53, 108, 158, 120, 147]
def ccF : List UInt8 := [33, 233, 228, 76, 114, 18, 211, 171, 214, 17, 235, 80, 53, 103, 34, 80, 15, 20, 0, 70, 233, 236, 182, 246, 117, 12, 240, 153, 87, 118, 173, 26]
def ccS : List UInt8 := [33, 233, 228, 76, 114, 18, 211, 171, 214, 17, 235, 80, 53, 103, 34, 80, 15, 20, 0, 70, 233, 236, 182, 246, 117, 12, 240, 153, 87, 118, 173, 26, 122, 12, 43, 32, 238, 16, 54, 16, 32, 19, 206, 83, 139, 255, 255, 233, 77, 78, 50, 219, 150, 51, 217, 91, 128, 101, 113, 73, 252, 76, 73, 5]
def ccBy : List UInt8 := [96, 107, 246, 169, 182, 86, 212, 252, 106, 138, 137, 108, 60, 10, 195, 142, 100, 120, 65, 80, 61, 64, 193, 87, 241, 248, 221, 83, 126, 228, 255, 164, 2, 245, 56, 56, 94, 136, 118, 14, 12, 106, 47, 72, 229, 131, 0, 228, 9, 165, 106, 181, 17, 1, 42, 218, 115, 48, 50, 158, 110, 139, 100, 212, 101, 0, 0, 33, 233, 228, 76, 114, 18, 211, 171, 214, 17, 235, 80, 53, 103, 34, 80, 15, 20, 0, 70, 233, 236, 182, 246, 117, 12, 240, 153, 87, 118, 173, 26, 122, 12, 43, 32, 238, 16, 54, 16, 32, 19, 206, 83, 139, 255, 255, 233, 77, 78, 50, 219, 150, 51, 217, 91, 128, 101, 113, 73, 252, 76, 73, 5]
def ccN : List UInt8 := [212, 62, 189, 158, 35, 18, 49, 93, 224, 51, 147, 160, 235, 224, 219, 57, 188, 215, 67, 150, 52, 134, 93, 210, 253, 141, 208, 11, 140, 224, 9, 192]
theorem cc_h1 : Cd (seH.drop 32 ++ ccT) = ccH1 := by kernel_rfl
theorem cc_r1 : le (sgR ccH1) = 4918219388157574454008950300951600336261496714867819213746146962254068804302 := by kernel_rfl
theorem cc_fp : cv.mul 4918219388157574454008950300951600336261496714867819213746146962254068804302 bP = ⟨fe 31473630399167731649095412638876055820990104693738438102576263511153593068624, fe 12066615373167398837812297369869085678792139161754506735642922152132469909793⟩ := fast_at dE zK zK
theorem cc_fb : pb ⟨fe 31473630399167731649095412638876055820990104693738438102576263511153593068624, fe 12066615373167398837812297369869085678792139161754506735642922152132469909793⟩ = ccF := by kernel_rfl
theorem cc_f : sgF ccH1 = ccF := by rw [sgF, cc_r1, cc_fp, cc_fb]
theorem cc_h2 : Cd (ccF ++ (seK ++ ccT)) = ccH2 := by kernel_rfl
theorem cc_s1 : ccF ++ sgS seH ccH1 ccH2 = ccS := by kernel_rfl
theorem cc_s : sgF ccH1 ++ sgS seH ccH1 ccH2 = ccS := by rw [cc_f, cc_s1]
theorem cc_h2' : Cd (sgF ccH1 ++ (sgK seH ++ ccT)) = ccH2 := by rw [cc_f, se_k, cc_h2]
theorem cc_good : goodB seK ccT ccS = true := by
  have h := good_self seH ccH1 ccT cc_h2'
  rwa [cc_s, se_k] at h
theorem cc_n : sha256 ccBy = ccN := by kernel_rfl
end Go.Proofs.YtfcbgdkpagcbbaaGreat
end

section
namespace Go.Proofs.YtfcbgdkpagcbbaaGreat
open Go Hw

open Ed

theorem seB_length : seB.length = 32 := rfl
theorem kit_seed1  : Meets Tryz.prog 57 [i64 1] [] (fun _ => True) (fun v out => v = agg (Aa seB) ∧ out = []) := by
 intro W hW
 refine Ad Tryz.func57 J 9 Tryz.ntmps57 J (G2 ?_)
 refine .alloc (cs := (Aa (List.replicate 32 0))) J Zr22 J ?_
 intro n2 hn2 hf2
 refine G5 ?_
 refine .conv J J J Y3.h Y5.h (show Value.int .u8 (IntKind.u8.wrap 1) = u8 1 from rfl) (G1 ?_)
 refine .shrN 1 8 J J J J J dE (.conv J J J Y3.h Y5.h (show Value.int .u8 (IntKind.u8.wrap ((1 / 2 ^ 8 : Nat) : Int)) = u8 0 from rfl) (.build (cs := Aa seB) J J J (fun w => by kernel_rfl) ?_))
 refine .sA J J J J zE Sz22 (by (simp [seB_length]; done)) Z0 sP zU ?_
 refine G2 ?_
 -- ret
 refine G2 ?_
 refine ⟨_, [], An J J Y22 J Sz22 Z0 (by simp [seB_length]), sP, sP, ?_, rfl⟩
 rfl

def ca0 : DB := { DB.zero with seq := 0, prev := List.replicate 32 0 }
def caD : DB := bsg ca0 seK caS
theorem caD_ok : caD.ok := ⟨rfl, by rfl, by kernel_rfl, fun l hl => by cases hl⟩
theorem ca_txt0 : btxt { ca0 with w := seK } = caT := by kernel_rfl
theorem ca_txt : btxt caD = caT := by kernel_rfl
theorem ca_chk0 : (ca0).check = 0 := by kernel_rfl
theorem ca_chk : (caD).check = 0 := by kernel_rfl
theorem ca_g : dgood caD = 0 := by
  unfold dgood
  rw [if_pos ca_chk, ca_txt]
  exact if_pos ca_good
theorem ca_by : (caD).bytes = caBy := by kernel_rfl
theorem ca_nm : Bn caD = caN := by
  unfold Bn
  rw [if_pos ca_chk, ca_by, ca_n]
theorem ca_sign (B : Block) (hB : B.ok) : Meets Tryz.prog 56 [agg (Aa seB), agg B.cells] [] (fun W => BlockIs W B ca0) (BlkR 0 caD) := by
  have hT : btxt { ca0 with w := sgK seH } = caT := by rw [se_k]; exact ca_txt0
  have cS := r15_Sign B ca0 hB (Nat.zero_le _) (Nat.zero_le _) seB rfl seH caH1 caH2 ⟨se_h⟩ ⟨by rw [hT]; exact ca_h1⟩ ⟨by rw [hT]; exact ca_h2'⟩ ca_chk0
  rw [ca_s, se_k] at cS
  exact cS
def cb0 : DB := { DB.zero with seq := 1, prev := caN }
def cbD : DB := bsg cb0 seK cbS
theorem cbD_ok : cbD.ok := ⟨rfl, by rfl, by kernel_rfl, fun l hl => by cases hl⟩
theorem cb_txt0 : btxt { cb0 with w := seK } = cbT := by kernel_rfl
theorem cb_txt : btxt cbD = cbT := by kernel_rfl
theorem cb_chk0 : (cb0).check = 0 := by kernel_rfl
theorem cb_chk : (cbD).check = 0 := by kernel_rfl
theorem cb_g : dgood cbD = 0 := by
  unfold dgood
  rw [if_pos cb_chk, cb_txt]
  exact if_pos cb_good
theorem cb_by : (cbD).bytes = cbBy := by kernel_rfl
theorem cb_nm : Bn cbD = cbN := by
  unfold Bn
  rw [if_pos cb_chk, cb_by, cb_n]
theorem cb_sign (B : Block) (hB : B.ok) : Meets Tryz.prog 56 [agg (Aa seB), agg B.cells] [] (fun W => BlockIs W B cb0) (BlkR 0 cbD) := by
  have hT : btxt { cb0 with w := sgK seH } = cbT := by rw [se_k]; exact cb_txt0
  have cS := r15_Sign B cb0 hB (Nat.zero_le _) (Nat.zero_le _) seB rfl seH cbH1 cbH2 ⟨se_h⟩ ⟨by rw [hT]; exact cb_h1⟩ ⟨by rw [hT]; exact cb_h2'⟩ cb_chk0
  rw [cb_s, se_k] at cS
  exact cS
def cc0 : DB := { DB.zero with seq := 2, prev := cbN }
def ccD : DB := bsg cc0 seK ccS
theorem ccD_ok : ccD.ok := ⟨rfl, by rfl, by kernel_rfl, fun l hl => by cases hl⟩
theorem cc_txt0 : btxt { cc0 with w := seK } = ccT := by kernel_rfl
theorem cc_txt : btxt ccD = ccT := by kernel_rfl
theorem cc_chk0 : (cc0).check = 0 := by kernel_rfl
theorem cc_chk : (ccD).check = 0 := by kernel_rfl
theorem cc_g : dgood ccD = 0 := by
  unfold dgood
  rw [if_pos cc_chk, cc_txt]
  exact if_pos cc_good
theorem cc_by : (ccD).bytes = ccBy := by kernel_rfl
theorem cc_nm : Bn ccD = ccN := by
  unfold Bn
  rw [if_pos cc_chk, cc_by, cc_n]
theorem cc_sign (B : Block) (hB : B.ok) : Meets Tryz.prog 56 [agg (Aa seB), agg B.cells] [] (fun W => BlockIs W B cc0) (BlkR 0 ccD) := by
  have hT : btxt { cc0 with w := sgK seH } = ccT := by rw [se_k]; exact cc_txt0
  have cS := r15_Sign B cc0 hB (Nat.zero_le _) (Nat.zero_le _) seB rfl seH ccH1 ccH2 ⟨se_h⟩ ⟨by rw [hT]; exact cc_h1⟩ ⟨by rw [hT]; exact cc_h2'⟩ cc_chk0
  rw [cc_s, se_k] at cS
  exact cS

theorem law16_signed (n : Int) (seed : List UInt8) (h32 : seed.length = 32) (B : Block) (hB : B.ok) (D D1 : DB) (hD1 : D1.ok) (cSeed : Meets Tryz.prog 57 [i64 n] [] (fun _ => True) (fun v out => v = agg (Aa seed) ∧ out = [])) (cS : ∀ B : Block, B.ok → Meets Tryz.prog 56 [agg (Aa seed), agg B.cells] [] (fun W => BlockIs W B D) (BlkR 0 D1)) : Meets Tryz.prog 25 [i64 n, agg B.cells] [] (fun W => BlockIs W B D) (BlkV D1) := by
 intro W hW
 refine Ad Tryz.func25 J 15 Tryz.ntmps25 J (G3 ?_)
 intro n3 hn3 hf3
 refine .alloc (cs := Block.zero.cells) J Block.zr J ?_
 intro n4 hn4 hf4
 refine G3 ?_
 refine .draw [(0, 0), (1, 2), (3, 1), (3, 3), (0, 4), (0, 5), (0, 6), (2, 7), (4, 8), (0, 9)] Ar zK (G1 ?_)
 refine .lA J J J Y31.h J Sz31 Z1 (Block.length (by exact hB)) ?_
 refine .cV J J J J Body57 (cSeed) tV (.call J J J J Body56 (cS B hB) (BlkR.loose 0 D1 hD1) (fun w h => hW.ext h J) ?_)
 rintro v11 out11 ⟨B11, h11, rfl, ho11⟩
 refine G3 ?_
 refine .alloc (cs := Block.zero.cells) J Block.zr J ?_
 intro n5 hn5 hf5
 refine .sA J J J J (Block.isCell (by exact h11.ok)) Sz31 (Block.length (by exact h11.ok)) Z0 (Block.length (by exact Block.zero_ok)) zU ?_
 refine G5 ?_
 refine .lA J J J Y31.h J Sz31 Z0 (Block.length (by exact h11.ok)) ?_
 refine .sA J J J J (Block.isCell (by exact h11.ok)) Sz31 (Block.length (by exact h11.ok)) mR (Block.length (by exact Block.zero_ok)) uU ?_
 refine G2 ?_
 -- ret
 refine G2 ?_
 refine Bg (out := (out11 ++ [])) (An J J Y31.h J Sz31 mR (by exact Block.length (by exact h11.ok))) (Aj sG Aq) ?_
 exact ⟨B11, h11, rfl, by simpa using ho11⟩

def PD.new : PD := ⟨[], [], [], [], [], [], []⟩
def chX1 : PD := { PD.new with orp := [(ccN, ccD)] }
def chX2 : PD := chX1.adm caN caD
def chX3 : PD := ((chX2.adm cbN cbD).drop1 ccN).adm ccN ccD
theorem ch_add1 : PD.new.add ccD = (chX1, [], 0) := by
  have h := add_keep (X := PD.new) cc_g zK zK dE
  rw [cc_nm] at h
  exact h
theorem ch_add2 : chX1.add caD = (chX2, [caN], 0) := by
  have h := add_fits (X := chX1) ca_g (by rw [ca_nm]; kernel_rfl) zK
  rw [ca_nm] at h
  have e : PD.settle (chX1.adm caN caD).orp.length (chX1.adm caN caD) = (chX2, []) := by kernel_rfl
  rw [h, e]
theorem ch_add3 : chX2.add cbD = (chX3, [cbN, ccN], 0) := by
  have h := add_fits (X := chX2) cb_g (by rw [cb_nm]; kernel_rfl) zK
  rw [cb_nm] at h
  have e : PD.settle (chX2.adm cbN cbD).orp.length (chX2.adm cbN cbD) = (chX3, [ccN]) := by kernel_rfl
  rw [h, e]
theorem ch_orp : chX2.orphans = [ccN] := by kernel_rfl
theorem ch_mis : chX2.missing = [cbN] := by kernel_rfl
theorem chain_facts : ∃ (Da Db Dc : DB) (na nb nc : List UInt8) (X1 X2 X3 : PD), (Da.ok ∧ Db.ok ∧ Dc.ok) ∧ (na.length = 32 ∧ nb.length = 32 ∧ nc.length = 32) ∧ (Bn Da = na ∧ Bn Db = nb ∧ Bn Dc = nc)
    ∧ (∀ B : Block, B.ok → Meets Tryz.prog 56 [agg (Aa seB), agg B.cells] [] (fun W => BlockIs W B DB.zero) (BlkR 0 Da))
    ∧ (∀ B : Block, B.ok → Meets Tryz.prog 56 [agg (Aa seB), agg B.cells] [] (fun W => BlockIs W B { DB.zero with seq := 1, prev := na }) (BlkR 0 Db))
    ∧ (∀ B : Block, B.ok → Meets Tryz.prog 56 [agg (Aa seB), agg B.cells] [] (fun W => BlockIs W B { DB.zero with seq := 2, prev := nb }) (BlkR 0 Dc))
    ∧ PD.new.add Dc = (X1, [], 0) ∧ X1.add Da = (X2, [na], 0) ∧ X2.orphans = [nc] ∧ X2.missing = [nb] ∧ X2.add Db = (X3, [nb, nc], 0) :=
  ⟨caD, cbD, ccD, caN, cbN, ccN, chX1, chX2, chX3, ⟨caD_ok, cbD_ok, ccD_ok⟩, ⟨rfl, rfl, rfl⟩, ⟨ca_nm, cb_nm, cc_nm⟩, ca_sign, cb_sign, cc_sign, ch_add1, ch_add2, ch_orp, ch_mis, ch_add3⟩

end Go.Proofs.YtfcbgdkpagcbbaaGreat
end

section
namespace Go.Proofs.YtfcbgdkpagcbbaaGreat
open Go Hw

section
variable {κ ν : Type} [DecidableEq κ]
theorem mget_cons (k : κ) (v : ν) (fs : List (κ × ν)) (n : κ) : A3 ((k, v) :: fs) n = if k = n then some v else A3 fs n := by
  unfold A3
  rw [List.find?_cons]
  by_cases h : k = n <;> simp [h]
theorem mget_no {fs : List (κ × ν)} {k : κ} (h : A3 fs k = none) : ∀ p ∈ fs, p.1 ≠ k := fun p hp e => by
  obtain ⟨v, hv⟩ := mget_of_key (fs := fs) (List.mem_map.2 ⟨p, hp, e⟩)
  rw [h] at hv; cases hv
theorem mput_app {fs : List (κ × ν)} {k : κ} (h : A3 fs k = none) (v : ν) : Bq fs k v = fs ++ [(k, v)] := by
  unfold Bq
  rw [midx_none (mget_no h)]
theorem mget_app (fs : List (κ × ν)) (k : κ) (v : ν) (n : κ) : A3 (fs ++ [(k, v)]) n = if (A3 fs n).isSome then A3 fs n else if k = n then some v else none := by
  induction fs with
  | nil => rw [List.nil_append, mget_cons]; rfl
  | cons p fs ih =>
    obtain ⟨a, b⟩ := p
    rw [List.cons_append, mget_cons, mget_cons, ih]
    by_cases h : a = n <;> simp [h]
theorem mget_new {fs : List (κ × ν)} {k : κ} (h : A3 fs k = none) (v : ν) : A3 (Bq fs k v) k = some v := by rw [mput_app h, mget_app, h]; simp
theorem mget_old {fs : List (κ × ν)} {k : κ} (h : A3 fs k = none) (v : ν) {n : κ} (hn : k ≠ n) : A3 (Bq fs k v) n = A3 fs n := by
  rw [mput_app h, mget_app]
  cases A3 fs n <;> simp [hn]
theorem mdel_head (k : κ) (v : ν) (fs : List (κ × ν)) : mdel ((k, v) :: fs) k = fs := by
  have h : midx ((k, v) :: fs) k = some 0 := by unfold midx; rw [List.findIdx?_cons]; simp
  unfold mdel
  rw [h]; rfl
end
theorem first_one {X : PD} {n : List UInt8} (hk : n ∈ X.orp.map (·.1)) (hn : Cj X.P ((A3 X.orp n).getD DB.zero) ≠ 0) (ho : ∀ m ∈ X.orp.map (·.1), m ≠ n → Cj X.P ((A3 X.orp m).getD DB.zero) = 0) : X.first = some n := by
  unfold PD.first
  cases h : (isort (X.orp.map (·.1))).find? fun n => Cj X.P ((A3 X.orp n).getD DB.zero) != 0 with
  | none =>
    have := List.find?_eq_none.1 h n ((isort_perm _).mem_iff.2 hk)
    simp [hn] at this
  | some m =>
    have h1 := List.find?_some h
    have h2 := (isort_perm _).mem_iff.1 (List.mem_of_find?_eq_some h)
    by_cases e : m = n
    · rw [e]
    · have h3 := ho m h2 e
      rw [h3] at h1; simp at h1
theorem first_no {X : PD} (ho : ∀ m ∈ X.orp.map (·.1), Cj X.P ((A3 X.orp m).getD DB.zero) = 0) : X.first = none := by
  unfold PD.first
  rw [List.find?_eq_none]
  intro m hm
  rw [ho m ((isort_perm _).mem_iff.1 hm)]; simp
structure CFull (CD : Nat → DB) (CN : Nat → List UInt8) : Prop where
  nm : ∀ i, i < 66 → Bn (CD i) = CN i
  good : ∀ i, i < 66 → dgood (CD i) = 0
  ls : ∀ i, i < 66 → (CD i).ls = []
  w : ∀ i, i < 66 → (CD i).w = (CD 0).w
  seq : ∀ i, i < 66 → (CD i).seq = UInt64.ofNat i
  prev : ∀ i, i + 1 < 66 → (CD (i + 1)).prev = CN i
  inj : ∀ i j, i < 66 → j < 66 → CN i = CN j → i = j
section
variable {CD : Nat → DB} {CN : Nat → List UInt8} (F : CFull CD CN)
include F
theorem CFull.par0 : C1 (CD 0) = [] := (if_pos (F.seq 0 dE)).trans (F.ls 0 dE)
omit F in
theorem ofNat_ne {i : Nat} (h : i < 66) : UInt64.ofNat (i + 1) ≠ 0 := fun e => by
  have := congrArg UInt64.toNat e
  simp at this
  omega
theorem CFull.par {i : Nat} (h : i + 1 < 66) : C1 (CD (i + 1)) = [CN i] := by
  refine (if_neg ?_).trans ?_
  · rw [F.seq _ h]; exact ofNat_ne oM
  · rw [F.prev i h, F.ls _ h]
theorem CFull.waits {P : List (List UInt8 × DB)} {i : Nat} (h : i + 1 < 66) (hP : A3 P (CN i) = none) : Cj P (CD (i + 1)) = 0 := by
  refine judge_waits (wrong_none (by rw [F.prev i h]; exact hP)) (k := 0) (by rw [F.par h]; exact Nat.zero_lt_one) ?_
  rw [F.par h]; exact hP
theorem CFull.fits {P : List (List UInt8 × DB)} {i : Nat} (h : i + 1 < 66) (hP : A3 P (CN i) = some (CD i)) : Cj P (CD (i + 1)) = 1 := by
  have hs : (CD (i + 1)).seq ≠ 0 := by rw [F.seq _ h]; exact ofNat_ne oM
  refine judge_fits ?_ fun j hj => ?_
  · rw [wrong_some hs (by rw [F.prev i h]; exact hP), F.w i oM, F.w (i + 1) h, F.seq i oM, F.seq (i + 1) h]
    have e : UInt64.ofNat (i + 1) - 1 = UInt64.ofNat i := by
      apply UInt64.toNat_inj.1
      simp
    simp [e]
  · rw [F.par h] at hj ⊢
    obtain rfl : j = 0 := by simpa using hj
    show (A3 P (CN i)).isSome = true
    rw [hP]; rfl
omit F in
def orpL (CD : Nat → DB) (CN : Nat → List UInt8) (a m : Nat) : List (List UInt8 × DB) := (List.range' a m).map fun j => (CN j, CD j)
theorem CFull.orp_get : ∀ (m a j : Nat), a + m ≤ 66 → a ≤ j → j < a + m → A3 (orpL CD CN a m) (CN j) = some (CD j)
  | 0, a, j, h1, h2, h3 => by omega
  | m + 1, a, j, h1, h2, h3 => by
    have e : orpL CD CN a (m + 1) = (CN a, CD a) :: orpL CD CN (a + 1) m := by unfold orpL; rw [List.range'_succ]; rfl
    rw [e, mget_cons]
    by_cases h : a = j
    · rw [h, if_pos rfl]
    · rw [if_neg (fun e2 => h (F.inj a j oM oM e2))]
      exact CFull.orp_get m (a + 1) j oM oM oM
omit F in
theorem orp_no {a m : Nat} {n : List UInt8} (h : ∀ j, a ≤ j → j < a + m → CN j ≠ n) : A3 (orpL CD CN a m) n = none := mget_none fun p hp => by
  obtain ⟨j, hj, rfl⟩ := List.mem_map.1 hp
  obtain ⟨h1, h2⟩ := List.mem_range'_1.1 hj
  exact h j h1 h2
omit F in
theorem orp_key {a m : Nat} : (orpL CD CN a m).map (·.1) = (List.range' a m).map CN := by unfold orpL; rw [List.map_map]; rfl
omit F in
theorem orp_len {a m : Nat} : (orpL CD CN a m).length = m := by unfold orpL; rw [List.length_map, List.length_range']
theorem CFull.keep {m : Nat} (h : m < 64) : ({ PD.new with orp := orpL CD CN 2 m } : PD).add (CD (m + 2)) = ({ PD.new with orp := orpL CD CN 2 (m + 1) }, [], 0) := by
  have hn := F.nm (m + 2) oM
  have hg : A3 (orpL CD CN 2 m) (CN (m + 2)) = none := orp_no fun j h1 h2 e => by have := F.inj j (m + 2) oM oM e; omega
  have k := add_keep (X := { PD.new with orp := orpL CD CN 2 m }) (F.good (m + 2) oM) (by rw [hn]; show ((A3 (orpL CD CN 2 m) (CN (m + 2))).isSome || _) = false; rw [hg]; rfl) (F.waits (i := m + 1) oM rfl) (by show ¬ 64 ≤ (orpL CD CN 2 m).length; rw [orp_len]; omega)
  rw [hn] at k
  rw [k]
  show (({ PD.new with orp := Bq (orpL CD CN 2 m) (CN (m + 2)) (CD (m + 2)) } : PD), _) = _
  rw [mput_app hg]
  have e : orpL CD CN 2 (m + 1) = orpL CD CN 2 m ++ [(CN (m + 2), CD (m + 2))] := by
    unfold orpL
    rw [List.range'_concat, List.map_append, Nat.one_mul, Nat.add_comm 2 m]; rfl
  rw [e]
theorem CFull.none {X : PD} (ho : X.orp = orpL CD CN 2 64) (hP : ∀ j, 1 ≤ j → j < 66 → A3 X.P (CN j) = none) : X.first = none := first_no fun m hm => by
  rw [ho, orp_key] at hm
  obtain ⟨j, hj, rfl⟩ := List.mem_map.1 hm
  obtain ⟨h1, h2⟩ := List.mem_range'_1.1 hj
  rw [ho, F.orp_get 64 2 j oM h1 h2, Option.getD_some]
  obtain ⟨i, rfl⟩ : ∃ i, j = i + 1 := ⟨j - 1, by omega⟩
  exact F.waits oM (hP i oM oM)
structure YI (CD : Nat → DB) (CN : Nat → List UInt8) (nf : List UInt8) (a m : Nat) (Y : PD) : Prop where
  am : a + m = 65
  orp : Y.orp = orpL CD CN (a + 1) m
  here : A3 Y.P (CN a) = some (CD a)
  later : ∀ j, a < j → j < 66 → A3 Y.P (CN j) = Option.none
  hds : Y.hds = [(nf, ()), (CN a, ())]
theorem YI.adm {nf : List UInt8} (hnf : ∀ j, j < 66 → CN j ≠ nf) {a m : Nat} {Y : PD} (hP : Y.hds = [(nf, ()), (CN a, ())]) (ho : Y.orp = orpL CD CN (a + 2) m) (ham : a + 1 + m = 65) (hl : ∀ j, a < j → j < 66 → A3 Y.P (CN j) = Option.none) : YI CD CN nf (a + 1) m (Y.adm (CN (a + 1)) (CD (a + 1))) where
  am := ham
  orp := ho
  here := mget_new (hl (a + 1) oM oM) _
  later := fun j h1 h2 => (mget_old (hl (a + 1) oM oM) _ (fun e => by have := F.inj _ _ oM oM e; omega)).trans (hl j oM h2)
  hds := by
    show Bq (delL Y.hds (C1 (CD (a + 1)))) (CN (a + 1)) () = _
    rw [hP, F.par oM]
    have h1 : delL [(nf, ()), (CN a, ())] [CN a] = [(nf, ())] := by
      show mdel [(nf, ()), (CN a, ())] (CN a) = _
      unfold mdel midx
      rw [List.findIdx?_cons, List.findIdx?_cons]
      have h2 : ¬ nf = CN a := fun e => hnf a oM e.symm
      simp [h2]
    rw [h1, mput_app (mget_none fun p hp => by rw [List.mem_singleton.1 hp]; exact fun e => hnf (a + 1) oM e.symm)]
    rfl
theorem YI.run {nf : List UInt8} (hnf : ∀ j, j < 66 → CN j ≠ nf) : ∀ (m a : Nat) (Y : PD), YI CD CN nf a m Y → (PD.settle m Y).2 = (List.range' (a + 1) m).map CN ∧ (PD.settle m Y).1.orp = [] ∧ (PD.settle m Y).1.hds.length = 2 ∧ (PD.settle m Y).1.names.length = Y.names.length + m
  | 0, a, Y, h => ⟨rfl, h.orp, by show Y.hds.length = 2; rw [h.hds]; rfl, rfl⟩
  | m + 1, a, Y, h => by
    have ham := h.am
    have e0 : orpL CD CN (a + 1) (m + 1) = (CN (a + 1), CD (a + 1)) :: orpL CD CN (a + 2) m := by unfold orpL; rw [List.range'_succ]; rfl
    have hD : A3 Y.orp (CN (a + 1)) = some (CD (a + 1)) := by rw [h.orp]; exact F.orp_get _ _ _ oM oM oM
    have hj : Cj Y.P (CD (a + 1)) = 1 := F.fits oM h.here
    have hf : Y.first = some (CN (a + 1)) := by
      refine first_one ?_ ?_ fun n hn hne => ?_
      · rw [h.orp, e0]; exact List.mem_cons_self
      · rw [hD, Option.getD_some, hj]; decide
      · rw [h.orp, orp_key] at hn
        obtain ⟨j, hj2, rfl⟩ := List.mem_map.1 hn
        obtain ⟨h1, h2⟩ := List.mem_range'_1.1 hj2
        have h3 : j ≠ a + 1 := fun e => hne (by rw [e])
        rw [h.orp, F.orp_get _ _ j oM h1 h2, Option.getD_some]
        obtain ⟨i, rfl⟩ : ∃ i, j = i + 1 := ⟨j - 1, by omega⟩
        exact F.waits oM (h.later i oM oM)
    rw [settle_fit hf hD hj]
    have hdo : (Y.drop1 (CN (a + 1))).orp = orpL CD CN (a + 2) m := by
      show mdel Y.orp (CN (a + 1)) = _
      rw [h.orp, e0, mdel_head]
    have k := YI.run hnf m (a + 1) ((Y.drop1 (CN (a + 1))).adm (CN (a + 1)) (CD (a + 1))) (YI.adm F hnf h.hds hdo oM h.later)
    refine ⟨?_, k.2.1, k.2.2.1, ?_⟩
    · rw [k.1, List.range'_succ]; rfl
    · rw [k.2.2.2]
      show (Y.names ++ [CN (a + 1)]).length + m = _
      rw [List.length_append, List.length_singleton]; omega
end
theorem full_plain {CD : Nat → DB} {CN : Nat → List UInt8} (F : CFull CD CN) {Do Df : DB} {no nf : List UInt8} (gO : dgood Do = 0) (gF : dgood Df = 0) (nO : Bn Do = no) (nF : Bn Df = nf) (sO : Do.seq = 0) (sF : Df.seq = 0) {m9 : List UInt8} (lO : Do.ls = [m9]) (lF : Df.ls = []) (hno : ∀ j, j < 66 → CN j ≠ no) (hnf : ∀ j, j < 66 → CN j ≠ nf) :
    ∃ (X : Nat → PD) (XA XB XC : PD) (l : List (List UInt8)), X 0 = PD.new ∧ (∀ m, m < 64 → (X m).add (CD (m + 2)) = (X (m + 1), [], 0)) ∧ (X 64).add Do = (X 64, [], 7) ∧ (X 64).orphans.length = 64 ∧ (X 64).add Df = (XA, [nf], 0) ∧ XA.add (CD 0) = (XB, [CN 0], 0) ∧ XB.missing.length = 1 ∧ XB.add (CD 1) = (XC, l, 0) ∧ l.length = 65 ∧ XC.orphans.length = 0 ∧ XC.names.length = 67 ∧ XC.hds.length = 2 := by
  have pF : C1 Df = [] := (if_pos sF).trans lF
  have pO : C1 Do = [m9] := (if_pos sO).trans lO
  have iso : ∀ l : List (List UInt8), (isort l).length = l.length := fun l => (isort_perm l).length_eq
  obtain ⟨X, hX⟩ : ∃ X : Nat → PD, ∀ m, X m = { PD.new with orp := orpL CD CN 2 m } := ⟨_, fun _ => rfl⟩
  have ho64 : (X 64).orp = orpL CD CN 2 64 := by rw [hX]
  have hP64 : (X 64).P = [] := by rw [hX]; rfl
  have hgo : ∀ n, (∀ j, j < 66 → CN j ≠ n) → A3 (orpL CD CN 2 64) n = none := fun n h => orp_no fun j _ h2 => h j oM
  -- the other writer's first
  have a1 : (X 64).add Df = ((X 64).adm nf Df, [nf], 0) := by
    have k := add_fits (X := X 64) gF (by rw [nF, ho64, hP64, hgo nf hnf]; rfl) (judge_fits (wrong_seq sF) (fun j hj => by rw [pF] at hj; cases hj))
    rw [nF] at k
    have hPA : ((X 64).adm nf Df).P = [(nf, Df)] := by show Bq (X 64).P nf Df = _; rw [hP64]; rfl
    rw [k, settle_done (F.none (by exact ho64) (fun j _ h2 => by rw [hPA, mget_cons, if_neg (fun e => hnf j h2 e.symm)]; rfl))]
  have hPA : ((X 64).adm nf Df).P = [(nf, Df)] := by show Bq (X 64).P nf Df = _; rw [hP64]; rfl
  obtain ⟨XA, hXA⟩ : ∃ XA, XA = (X 64).adm nf Df := ⟨_, rfl⟩
  have hoA : XA.orp = orpL CD CN 2 64 := by rw [hXA]; exact ho64
  have hhA : XA.hds = [(nf, ())] := by rw [hXA]; show Bq (delL (X 64).hds (C1 Df)) nf () = _; rw [pF, hX]; rfl
  have hnA : XA.names = [nf] := by rw [hXA]; show (X 64).names ++ [nf] = _; rw [hX]; rfl
  rw [← hXA] at a1 hPA
  -- the first one of the chain
  have g0 : A3 XA.P (CN 0) = none := by rw [hPA, mget_cons, if_neg (fun e => hnf 0 dE e.symm)]; rfl
  have hPB : ∀ j, 1 ≤ j → j < 66 → A3 (XA.adm (CN 0) (CD 0)).P (CN j) = none := fun j h1 h2 =>
    (mget_old g0 _ (fun e => by have := F.inj 0 j oM h2 e; omega)).trans (by rw [hPA, mget_cons, if_neg (fun e => hnf j h2 e.symm)]; rfl)
  have a2 : XA.add (CD 0) = (XA.adm (CN 0) (CD 0), [CN 0], 0) := by
    have k := add_fits (X := XA) (F.good 0 dE) (by rw [F.nm 0 dE, hoA, g0, orp_no (fun j h1 h2 e => by have := F.inj j 0 oM dE e; omega)]; rfl) (judge_fits (wrong_seq (F.seq 0 dE)) (fun j hj => by rw [F.par0] at hj; cases hj))
    rw [F.nm 0 dE] at k
    rw [k, settle_done (F.none (by exact hoA) hPB)]
  obtain ⟨XB, hXB⟩ : ∃ XB, XB = XA.adm (CN 0) (CD 0) := ⟨_, rfl⟩
  have hoB : XB.orp = orpL CD CN 2 64 := by rw [hXB]; exact hoA
  have hhB : XB.hds = [(nf, ()), (CN 0, ())] := by
    rw [hXB]; show Bq (delL XA.hds (C1 (CD 0))) (CN 0) () = _
    rw [F.par0, hhA]
    exact mput_app (mget_none fun p hp => by rw [List.mem_singleton.1 hp]; exact fun e => hnf 0 dE e.symm) ()
  have hnB : XB.names = [nf, CN 0] := by rw [hXB]; show XA.names ++ [CN 0] = _; rw [hnA]; rfl
  have hB0 : A3 XB.P (CN 0) = some (CD 0) := by rw [hXB]; exact mget_new g0 _
  rw [← hXB] at a2 hPB
  have hmis : XB.missing.length = 1 := by
    have e : (XB.orp.map fun p => C1 p.2).flatten = (List.range' 1 64).map CN := by
      rw [hoB]
      unfold orpL
      rw [List.map_map]
      have h : ∀ j ∈ List.range' 2 64, ((fun p : List UInt8 × DB => C1 p.2) ∘ fun j => (CN j, CD j)) j = [CN (j - 1)] := fun j hj => by
        obtain ⟨h1, h2⟩ := List.mem_range'_1.1 hj
        obtain ⟨i, rfl⟩ : ∃ i, j = i + 1 := ⟨j - 1, by omega⟩
        exact F.par oM
      rw [List.map_congr_left h]
      rfl
    have f : ((List.range' 1 64).map CN).filter XB.lacks = [CN 1] := by
      have e1 : List.range' 1 64 = 1 :: List.range' 2 63 := rfl
      have h1 : XB.lacks (CN 1) = true := by
        unfold PD.lacks
        rw [hPB 1 dE dE, hoB, orp_no (fun j h1 h2 e => by have := F.inj j 1 oM dE e; omega)]; rfl
      rw [e1, List.map_cons, List.filter_cons_of_pos h1, List.filter_eq_nil_iff.2]
      intro n hn
      obtain ⟨j, hj, rfl⟩ := List.mem_map.1 hn
      obtain ⟨h2, h3⟩ := List.mem_range'_1.1 hj
      unfold PD.lacks
      rw [hoB, F.orp_get 64 2 j oM h2 oM]
      simp
    unfold PD.missing
    rw [iso, e, f]; rfl
  -- the second one, and all that waited for it
  have hY : YI CD CN nf 1 64 (XB.adm (CN 1) (CD 1)) := YI.adm F hnf hhB hoB dE (fun j h1 h2 => hPB j oM h2)
  have r := YI.run F hnf 64 1 _ hY
  have k := add_fits (X := XB) (F.good 1 dE) (by rw [F.nm 1 dE, hoB, hPB 1 dE dE, orp_no (fun j h1 h2 e => by have := F.inj j 1 oM dE e; omega)]; rfl) (F.fits (i := 0) dE hB0)
  rw [F.nm 1 dE, show (XB.adm (CN 1) (CD 1)).orp.length = 64 by rw [show (XB.adm (CN 1) (CD 1)).orp = XB.orp from rfl, hoB, orp_len]] at k
  refine ⟨X, XA, XB, _, _, by rw [hX]; rfl, fun m hm => by rw [hX, hX]; exact F.keep hm, ?_, ?_, a1, a2, hmis, k, ?_, ?_, ?_, r.2.2.1⟩
  · exact add_full gO (by rw [nO, ho64, hP64, hgo no hno]; rfl) (judge_waits (wrong_seq sO) (k := 0) (by rw [pO]; exact Nat.zero_lt_one) (by rw [hP64]; rfl)) (by rw [ho64, orp_len]; exact Nat.le_refl _)
  · unfold PD.orphans; rw [iso, ho64, orp_key, List.length_map, List.length_range']
  · rw [List.length_cons, r.1, List.length_map, List.length_range']
  · unfold PD.orphans; rw [iso, r.2.1]; rfl
  · rw [r.2.2.2]
    show (XB.names ++ [CN 1]).length + 64 = 67
    rw [hnB]; rfl

end Go.Proofs.YtfcbgdkpagcbbaaGreat
end

section
namespace Go.Proofs.YtfcbgdkpagcbbaaGreat
open Go Hw

theorem cons_of {α : Type} {l : List α} {n : Nat} (h : l.length = n + 1) : ∃ a t, l = a :: t ∧ t.length = n := by
  cases l with
  | nil => cases h
  | cons a t => exact ⟨a, t, rfl, by simpa using h⟩
theorem build_sp (s : UInt64) (prev : List UInt8) (h : prev.length = 32) (w : World) : (Instr.build 31 #[(1, u64 s), (2, agg (Aa prev))]).run Tryz.prog w = .ok (agg ({ Block.zero with fSeq := s, fPrev := prev } : Block).cells) w := by
  iterate 32 (obtain ⟨a, l, e, h2⟩ := cons_of h; clear h; subst e; have h := h2; clear h2)
  obtain rfl := List.eq_nil_of_length_eq_zero h
  (refine Eq.trans ?_ rfl; kernel_rfl)
def tri (a b c : Block) : List Value := a.cells ++ (b.cells ++ (c.cells ++ []))
theorem tri_len {a b c : Block} (ha : a.ok) (hb : b.ok) (hc : c.ok) : (tri a b c).length = 393 := by simp [tri, Block.length ha, Block.length hb, Block.length hc]
theorem tri_cell {a b c : Block} (ha : a.ok) (hb : b.ok) (hc : c.ok) : ∀ u ∈ tri a b c, isCell u = true := fun u hu => by
  simp only [tri, List.append_nil, List.mem_append] at hu
  rcases hu with h | h | h
  · exact Block.isCell ha u h
  · exact Block.isCell hb u h
  · exact Block.isCell hc u h
theorem tri_0 {a b c : Block} (ha : a.ok) : ((tri a b c).drop 0).take 131 = a.cells := by
  rw [tri, List.drop_zero, List.take_append_of_le_length (by rw [Block.length ha]; omega), List.take_of_length_le (by rw [Block.length ha]; omega)]
theorem tri_1 {a b c : Block} (ha : a.ok) (hb : b.ok) : ((tri a b c).drop 131).take 131 = b.cells := by
  have h1 := Block.length ha
  rw [tri, List.drop_append_of_le_length oM, List.drop_of_length_le oM, List.nil_append, List.take_append_of_le_length (by rw [Block.length hb]; omega), List.take_of_length_le (by rw [Block.length hb]; omega)]
theorem tri_2 {a b c : Block} (ha : a.ok) (hb : b.ok) (hc : c.ok) : ((tri a b c).drop 262).take 131 = c.cells := by
  have h1 := Block.length ha
  have h2 := Block.length hb
  have e : (tri a b c) = (a.cells ++ b.cells) ++ (c.cells ++ []) := by rw [tri, List.append_assoc]
  rw [e, List.drop_append_of_le_length (by rw [List.length_append]; omega), List.drop_of_length_le (by rw [List.length_append]; omega), List.nil_append, List.append_nil, List.take_of_length_le (by rw [Block.length hc]; omega)]
def ChainR (Da Db Dc : DB) (v : Value) (out : List Blk) : Prop := ∃ Ba Bb Bc : Block, SameB Ba Da ∧ SameB Bb Db ∧ SameB Bc Dc ∧ v = agg (tri Ba Bb Bc) ∧ ∀ W2, Lies out W2 → BlockIs W2 Ba Da ∧ BlockIs W2 Bb Db ∧ BlockIs W2 Bc Dc
theorem sp_is (W : World) (s : UInt64) {prev : List UInt8} (h : prev.length = 32) : BlockIs W ({ Block.zero with fSeq := s, fPrev := prev } : Block) { DB.zero with seq := s, prev := prev } := ⟨⟨rfl, h, rfl⟩, rfl, rfl, rfl, (zero_is W).ls, (zero_is W).ds, rfl⟩
theorem sp_ok (s : UInt64) {prev : List UInt8} (h : prev.length = 32) : ({ Block.zero with fSeq := s, fPrev := prev } : Block).ok := ⟨rfl, h, rfl⟩
theorem new_ok (bE bH bO bP bW : Nat) : (⟨Sl.nil, [], [], [], [], [], [], [], [], bE, bH, bO, bP, bW⟩ : DD).ok := ⟨Acc.none, fun l h => (by cases h), Nat.zero_le _, Nat.zero_le _, fun p h => (by cases h), Nat.zero_le _, fun p h => (by cases h), Nat.zero_le _, fun p h => (by cases h), fun p h => (by cases h), fun p h => (by cases h)⟩
theorem dag_new2 : Meets Tryz.prog 23 [] [] (fun _ => True) (fun v out => ∃ (p : Nat) (x : DD), v = ptr p 0 ∧ out = x.blks p ∧ x.ok ∧ x.pl = PD.new ∧ x.names.length + x.orp.length = 0) :=
  dag_new.imp (fun w h => h) fun v out ⟨p, bE, bH, bO, bP, bW, h1, h2⟩ => ⟨p, _, h1, h2, new_ok .., rfl, rfl⟩
theorem dig_same (p q : Option Addr) (n c1 c2 : Nat) (xs : List (List UInt8)) (hx : ∀ l ∈ xs, l.length = 32) (h1 : xs.length = n) (hn : n ≤ 1000000) : Meets Tryz.prog 29 [.slice p n c1, .slice q n c2] [] (fun W => SeesP W p (Bj xs) ∧ SeesP W q (Bj xs)) (fun v out => v = .bool true ∧ out = []) :=
  (digests_eq p q n c1 c2 xs xs hx hx h1 h1 hn).imp (fun w h => h) fun v out h => by rwa [decide_eq_true rfl] at h
theorem one_32 {n : List UInt8} (h : n.length = 32) : ∀ l ∈ [n], l.length = 32 := fun l hl => by rw [List.mem_singleton.1 hl]; exact h
theorem two_32 {n m : List UInt8} (h : n.length = 32) (h2 : m.length = 32) : ∀ l ∈ [n, m], l.length = 32 := fun l hl => by rcases List.mem_cons.1 hl with rfl | hl; exact h; exact one_32 h2 l hl

theorem law16_chain (Da Db Dc : DB) (na nb : List UInt8) (hDa : Da.ok) (hDb : Db.ok) (hDc : Dc.ok) (lna : na.length = 32) (lnb : nb.length = 32) (hna : Bn Da = na) (hnb : Bn Db = nb) (cSa : ∀ B : Block, B.ok → Meets Tryz.prog 56 [agg (Aa seB), agg B.cells] [] (fun W => BlockIs W B DB.zero) (BlkR 0 Da)) (cSb : ∀ B : Block, B.ok → Meets Tryz.prog 56 [agg (Aa seB), agg B.cells] [] (fun W => BlockIs W B { DB.zero with seq := 1, prev := na }) (BlkR 0 Db)) (cSc : ∀ B : Block, B.ok → Meets Tryz.prog 56 [agg (Aa seB), agg B.cells] [] (fun W => BlockIs W B { DB.zero with seq := 2, prev := nb }) (BlkR 0 Dc)) : Meets Tryz.prog 22 [] [] (fun _ => True) (ChainR Da Db Dc) := by
 intro W hW
 refine Ad Tryz.func22 J 16 Tryz.ntmps22 J (G2 ?_)
 refine .alloc (cs := (List.replicate 3 ((Aa (List.replicate 32 0)) ++ [u64 0] ++ (Aa (List.replicate 32 0)) ++ [.slice none 0 0] ++ [.slice none 0 0] ++ (Aa (List.replicate 64 0)))).flatten) J Zr50 J ?_
 intro n0 hn0 hf0
 refine G4 ?_
 refine .build (cs := Block.zero.cells) J J J (fun w => by kernel_rfl) ?_
 refine .call4 J J J J J Body25 (law16_signed 1 seB J Block.zero Block.zero_ok DB.zero Da hDa kit_seed1 cSa) (fun w h => zero_is w) ?_
 rintro v4 out4 ⟨Ba, ha, rfl, hoa⟩
 have cNa := r15_Name Ba Da ha.ok
 rw [hna] at cNa
 refine .alloc (cs := Block.zero.cells) J Block.zr J ?_
 intro n1 hn1 hf1
 refine .sA J J J J (Block.isCell (by exact ha.ok)) Sz31 (Block.length (by exact ha.ok)) Z0 (Block.length (by exact Block.zero_ok)) zU ?_
 refine G4 ?_
 refine .lA J J J Y31.h J Sz31 Z0 (Block.length (by exact ha.ok)) ?_
 refine .cV J J J J Body26 (cNa) (fun w h => hoa w (Lies.of h (by repeat (first | exact Bp | refine Ca ?_)))) ?_
 refine .build (cs := ({ Block.zero with fSeq := 1, fPrev := na } : Block).cells) J J J (fun w => build_sp 1 na lna w) (.call4 J J J J J Body25 (law16_signed 1 seB J _ (sp_ok 1 lna) _ Db hDb kit_seed1 cSb) (fun w h => sp_is w 1 lna) ?_)
 rintro v8 out8 ⟨Bb, hb, rfl, hob⟩
 have cNb := r15_Name Bb Db hb.ok
 rw [hnb] at cNb
 refine .alloc (cs := Block.zero.cells) J Block.zr J ?_
 intro n2 hn2 hf2
 refine .sA J J J J (Block.isCell (by exact hb.ok)) Sz31 (Block.length (by exact hb.ok)) Z0 (Block.length (by exact Block.zero_ok)) zU ?_
 refine G3 ?_
 refine .draw [(1, 0), (1, 1), (1, 2), (3, 3), (0, 4), (3, 5), (0, 6), (4, 7)] Ar zK (.lA J J J Y31.h J Sz31 mR (Block.length (by exact ha.ok)) ?_)
 refine .lA J J J Y31.h J Sz31 Z0 (Block.length (by exact hb.ok)) ?_
 refine .lA J J J Y31.h J Sz31 Z0 (Block.length (by exact hb.ok)) ?_
 refine .cV J J J J Body26 (cNb) (fun w h => hob w (Lies.of h (by repeat (first | exact Bp | refine Ca ?_)))) ?_
 refine .build (cs := ({ Block.zero with fSeq := 2, fPrev := nb } : Block).cells) J J J (fun w => build_sp 2 nb lnb w) (.call J J J J Body25 (law16_signed 1 seB J _ (sp_ok 2 lnb) _ Dc hDc kit_seed1 cSc) (BlkV.loose Dc hDc) (fun w h => sp_is w 2 lnb) ?_)
 rintro v14 out14 ⟨Bc, hc, rfl, hoc⟩
 refine .build (cs := tri Ba Bb Bc) J J J (fun w => run_buildA [agg Ba.cells, agg Bb.cells, agg Bc.cells] Zr50 Y50 Sz31 (fun v hv => by simp only [List.mem_cons, List.not_mem_nil, or_false] at hv; rcases hv with rfl | rfl | rfl <;> simp [Value.cells, Block.length ha.ok, Block.length hb.ok, Block.length hc.ok]) zK w) ?_
 refine .sA J J J J (tri_cell ha.ok hb.ok hc.ok) Sz50 (tri_len ha.ok hb.ok hc.ok) mR zK uU ?_
 refine G2 ?_
 -- ret
 refine G2 ?_
 refine Bg (out := (out4 ++ (out8 ++ (out14 ++ [])))) (An J J Y50 J Sz50 mR (tri_len ha.ok hb.ok hc.ok)) (Aj sG (Aj sG (Aj sG Aq))) ?_
 exact ⟨Ba, Bb, Bc, ha, hb, hc, rfl, fun W2 hl => ⟨hoa W2 (hl.sub (by repeat (exact Bp))), hob W2 (hl.sub (by repeat (first | exact Bp | refine in_seg ?_))), hoc W2 (hl.sub (by repeat (first | exact Bp | refine in_seg ?_)))⟩⟩

theorem law16_lives  : Meets Tryz.prog 8 [] [] (fun _ => True) (fun v out => v = .bool true ∧ out = []) := by
 intro W hW
 obtain ⟨Da, Db, Dc, na, nb, nc, X1, X2, X3, ⟨hDa, hDb, hDc⟩, ⟨lna, lnb, lnc⟩, ⟨hna, hnb, hnc⟩, cSa, cSb, cSc, hadd1, hadd2, horp, hmis, hadd3⟩ := chain_facts
 refine Ad Tryz.func8 J 92 Tryz.ntmps8 J (G7 ?_)
 refine .call4 J J J J J Body22 (law16_chain Da Db Dc na nb hDa hDb hDc lna lnb hna hnb cSa cSb cSc) tV ?_
 rintro v14 out14 ⟨Ba, Bb, Bc, ha, hb, hc, rfl, hch⟩
 have cNa := r15_Name Ba Da ha.ok
 have cNb := r15_Name Bb Db hb.ok
 have cNc := r15_Name Bc Dc hc.ok
 rw [hna] at cNa
 rw [hnb] at cNb
 rw [hnc] at cNc
 refine .alloc (cs := (List.replicate 3 ((Aa (List.replicate 32 0)) ++ [u64 0] ++ (Aa (List.replicate 32 0)) ++ [.slice none 0 0] ++ [.slice none 0 0] ++ (Aa (List.replicate 64 0)))).flatten) J Zr50 J ?_
 intro n1 hn1 hf1
 refine .sA J J J J (tri_cell ha.ok hb.ok hc.ok) Sz50 (tri_len ha.ok hb.ok hc.ok) Z0 zK zU ?_
 refine G4 ?_
 refine .call4 J J J J J Body23 (dag_new2) tV ?_
 rintro v15 out15 ⟨p, x0, rfl, rfl, hx0, hplx0, hnx0⟩
 refine G7 ?_
 refine .eqNilP J J J J Y35.h (G2 ?_)
 refine .cond_f J J (G5 ?_)
 refine .idxArr 131 J J J J Y50 Sz31 2 J dE (.lN (Bc.cells) J J J Y31.h J Sz31 mR (tri_2 ha.ok hb.ok hc.ok) (Block.length hc.ok) ?_)
 refine .callL (L := (x0.blks p ++ out14)) J J J J J Body10 (dag_add x0 hx0 p Bc Dc out14 ⟨hc, fun W hW => (hch W hW).2.2⟩ oM) (sg_two sG sG) (C3 J) (fun w h => Lent.of h (sg_two sG sG)) ?_
 rintro v22 out22 ⟨x1, ⟨p22, n22, c22⟩, bl22, rfl, rfl, hx1, hac22, h3222, hplx1, hnx1⟩
 rw [hplx0, hadd1] at hac22 h3222 hplx1 ⊢
 simp only [List.append_assoc] at hac22 h3222 hplx1 ⊢
 obtain rfl : n22 = 0 := hac22.num
 refine G10 ?_
 refine .idxArr 131 J J J J Y50 Sz31 0 J dE (.lN (Ba.cells) J J J Y31.h J Sz31 mR (tri_0 ha.ok) (Block.length ha.ok) ?_)
 refine .callL (L := (x1.blks p ++ out14)) J J J J J Body10 (dag_add x1 hx1 p Ba Da out14 ⟨ha, fun W hW => (hch W hW).1⟩ oM) (sg_two sG (by repeat (first | exact Cu | apply sg_seg))) (C3 J) (fun w h => Lent.of h (sg_two sG (by repeat (first | exact Cu | apply sg_seg)))) ?_
 rintro v29 out29 ⟨x2, ⟨p29, n29, c29⟩, bl29, rfl, rfl, hx2, hac29, h3229, hplx2, hnx2⟩
 rw [hplx1, hadd2] at hac29 h3229 hplx2 ⊢
 simp only [List.append_assoc] at hac29 h3229 hplx2 ⊢
 obtain rfl : n29 = 1 := hac29.num
 refine G10 ?_
 refine .call4 J J J J J Body16 (dag_orphans x2 hx2 p) (fun w h => Lies.of h (by repeat (exact Bp))) ?_
 rintro v33 out33 ⟨⟨p33, n33, c33⟩, rfl, hac33⟩
 rw [hplx2, horp] at hac33
 obtain rfl : n33 = 1 := hac33.num
 refine G1 ?_
 refine .call4 J J J J J Body17 (dag_missing x2 hx2 p) (fun w h => Lies.of h (by repeat (first | exact Bp | refine in_seg ?_))) ?_
 rintro v35 out35 ⟨⟨p35, n35, c35⟩, rfl, hac35⟩
 rw [hplx2, hmis] at hac35
 obtain rfl : n35 = 1 := hac35.num
 refine G7 ?_
 refine .idxArr 131 J J J J Y50 Sz31 1 J dE (.lN (Bb.cells) J J J Y31.h J Sz31 mR (tri_1 ha.ok hb.ok) (Block.length hb.ok) ?_)
 refine .callL (L := (x2.blks p ++ out14)) J J J J J Body10 (dag_add x2 hx2 p Bb Db out14 ⟨hb, fun W hW => (hch W hW).2.1⟩ oM) (sg_two (by repeat (first | exact Cu | apply sg_seg)) (by repeat (first | exact Cu | apply sg_seg))) (C3 J) (fun w h => Lent.of h (sg_two (by repeat (first | exact Cu | apply sg_seg)) (by repeat (first | exact Cu | apply sg_seg)))) ?_
 rintro v40 out40 ⟨x3, ⟨p40, n40, c40⟩, bl40, rfl, rfl, hx3, hac40, h3240, hplx3, hnx3⟩
 rw [hplx2, hadd3] at hac40 h3240 hplx3 ⊢
 simp only [List.append_assoc] at hac40 h3240 hplx3 ⊢
 obtain rfl : n40 = 2 := hac40.num
 refine G8 ?_
 refine .draw [(0, 0), (1, 1), (0, 3), (1, 4), (0, 6), (1, 7), (3, 2), (3, 5), (3, 8), (2, 9), (2, 10), (2, 11), (4, 12), (4, 13), (4, 14)] Ar zK (.idxArr 131 J J J J Y50 Sz31 0 J dE (.lN (Ba.cells) J J J Y31.h J Sz31 mR (tri_0 ha.ok) (Block.length ha.ok) ?_))
 refine .idxArr 131 J J J J Y50 Sz31 1 J dE (.lN (Bb.cells) J J J Y31.h J Sz31 mR (tri_1 ha.ok hb.ok) (Block.length hb.ok) ?_)
 refine .idxArr 131 J J J J Y50 Sz31 2 J dE (.lN (Bc.cells) J J J Y31.h J Sz31 mR (tri_2 ha.ok hb.ok hc.ok) (Block.length hc.ok) ?_)
 refine .cV J J J J Body26 (cNa) (fun w h => (hch w (Lies.of h (by repeat (first | exact Bp | refine Ca ?_ | refine in_seg ?_)))).1) ?_
 refine .cV J J J J Body26 (cNb) (fun w h => (hch w (Lies.of h (by repeat (first | exact Bp | refine Ca ?_ | refine in_seg ?_)))).2.1) ?_
 refine .cV J J J J Body26 (cNc) (fun w h => (hch w (Lies.of h (by repeat (first | exact Bp | refine Ca ?_ | refine in_seg ?_)))).2.2) ?_
 refine .alloc (cs := (Aa (List.replicate 32 0))) J Zr25 J ?_
 intro n11 hn11 hf11
 refine .alloc (cs := (Aa (List.replicate 32 0))) J Zr25 J ?_
 intro n12 hn12 hf12
 refine .alloc (cs := (Aa (List.replicate 32 0))) J Zr25 J ?_
 intro n13 hn13 hf13
 refine .sA J J J J zE Sz25 (by (simp [lna]; done)) Z2 sP (by exact upd2) ?_
 refine .sA J J J J zE Sz25 (by (simp [lnb]; done)) Z1 sP zV ?_
 refine .sA J J J J zE Sz25 (by (simp [lnc]; done)) Z0 sP zU ?_
 refine G5 ?_
 refine .eqi J J J J (decide_eq_true (rfl)) (G3 ?_)
 refine .eqi J J J J (decide_eq_true (rfl)) (G3 ?_)
 refine .eqi J J J J (decide_eq_true (rfl)) (G3 ?_)
 refine .lA J J J Y25.h J Sz25 Z2 (by (simp [lna]; done)) ?_
 refine .mkRow (z := agg (Aa (List.replicate 32 0))) [agg (Aa na)] (Bj [na]) J J J Y26.h Sz25 Zr25 J J (by intro v hv; simp only [List.mem_cons, List.not_mem_nil, or_false] at hv; rcases hv with rfl <;> simp [Value.cells, Aa, lna]) dE (by simp [Value.cells, agg, Bj]) ?_
 intro q66
 refine .cV J J J J Body29 (dig_same p29 _ 1 c29 1 [na] (one_32 lna) J dE) (fun w h => ⟨hac29.see (Lies.of h (by repeat (first | exact Bp | refine Ca ?_ | refine in_seg ?_))), SeesP.of (As h Z0)⟩) ?_
 refine G3 ?_
 refine .lA J J J Y25.h J Sz25 Z1 (by (simp [lnc]; done)) ?_
 refine .mkRow (z := agg (Aa (List.replicate 32 0))) [agg (Aa nc)] (Bj [nc]) J J J Y26.h Sz25 Zr25 J J (by intro v hv; simp only [List.mem_cons, List.not_mem_nil, or_false] at hv; rcases hv with rfl <;> simp [Value.cells, Aa, lnc]) dE (by simp [Value.cells, agg, Bj]) ?_
 intro q72
 refine .cV J J J J Body29 (dig_same p33 _ 1 c33 1 [nc] (one_32 lnc) J dE) (fun w h => ⟨hac33.see (Lies.of h (by repeat (first | exact Bp | refine Ca ?_ | refine in_seg ?_))), SeesP.of (As h Z0)⟩) ?_
 refine G3 ?_
 refine .lA J J J Y25.h J Sz25 Z3 (by (simp [lnb]; done)) ?_
 refine .mkRow (z := agg (Aa (List.replicate 32 0))) [agg (Aa nb)] (Bj [nb]) J J J Y26.h Sz25 Zr25 J J (by intro v hv; simp only [List.mem_cons, List.not_mem_nil, or_false] at hv; rcases hv with rfl <;> simp [Value.cells, Aa, lnb]) dE (by simp [Value.cells, agg, Bj]) ?_
 intro q78
 refine .cV J J J J Body29 (dig_same p35 _ 1 c35 1 [nb] (one_32 lnb) J dE) (fun w h => ⟨hac35.see (Lies.of h (by repeat (first | exact Bp | refine Ca ?_ | refine in_seg ?_))), SeesP.of (As h Z0)⟩) ?_
 refine G3 ?_
 refine .eqi J J J J (decide_eq_true (rfl)) (G3 ?_)
 refine .lA J J J Y25.h J Sz25 Z4 (by (simp [lnb]; done)) ?_
 refine .lA J J J Y25.h J Sz25 Z3 (by (simp [lnc]; done)) ?_
 refine .mkRow (z := agg (Aa (List.replicate 32 0))) [agg (Aa nb), agg (Aa nc)] (Bj [nb, nc]) J J J Y26.h Sz25 Zr25 J J (by intro v hv; simp only [List.mem_cons, List.not_mem_nil, or_false] at hv; rcases hv with rfl | rfl <;> simp [Value.cells, Aa, lnb, lnc]) dE (by simp [Value.cells, agg, Bj]) ?_
 intro q89
 refine .cV J J J J Body29 (dig_same p40 _ 2 c40 2 [nb, nc] (two_32 lnb lnc) J dE) (fun w h => ⟨hac40.see (Lies.of h (by repeat (first | exact Bp | refine Ca ?_ | refine in_seg ?_))), SeesP.of (As h Z0)⟩) ?_
 refine G4 ?_
 -- ret
 refine G2 ?_
 refine Bg (out := []) (Ao J J) Aq ?_
 exact ⟨rfl, rfl⟩

end Go.Proofs.YtfcbgdkpagcbbaaGreat
end

section
namespace Go.Proofs.YtfcbgdkpagcbbaaGreat
open Go Hw Ed
theorem cons_of8 {α : Type} {l : List α} {n : Nat} (h : l.length = n + 1) : ∃ a t, l = a :: t ∧ t.length = n := by
  cases l with
  | nil => cases h
  | cons a t => exact ⟨a, t, rfl, by simpa using h⟩
def forceA {α : Type} (s : Nat) (f : Nat → α) : α := Nat.casesOn (motive := fun _ => α) s (f 0) (fun m => f (m + 1))
theorem forceA_eq {α : Type} (s : Nat) (f : Nat → α) : forceA s f = f s := by cases s <;> rfl
def aN (a b : Nat) : Nat := Nat.mod (Nat.add a b) 18446744073709551616
def shN (x s : Nat) : Nat := Nat.mod (Nat.mul x (Nat.pow 2 s)) 18446744073709551616
def rolN (x s : Nat) : Nat := Nat.lor (shN x s) (Nat.div x (Nat.pow 2 (Nat.sub 64 s)))
def o8N (x : Nat) (b : UInt8) : Nat := Nat.lor (shN x 8) b.toNat
def sg0N (x : Nat) : Nat := Nat.xor (Nat.xor (rolN x 63) (rolN x 56)) (Nat.div x (Nat.pow 2 7))
def sg1N (x : Nat) : Nat := Nat.xor (Nat.xor (rolN x 45) (rolN x 3)) (Nat.div x (Nat.pow 2 6))
def t1N (e f g h k w : Nat) : Nat := aN (aN (aN (aN h (Nat.xor (Nat.xor (rolN e 50) (rolN e 46)) (rolN e 23))) (Nat.xor (Nat.land e f) (Nat.land (Nat.xor 18446744073709551615 e) g))) k) w
def t2N (a b c : Nat) : Nat := aN (Nat.xor (Nat.xor (rolN a 36) (rolN a 30)) (rolN a 25)) (Nat.xor (Nat.xor (Nat.land a b) (Nat.land a c)) (Nat.land b c))
def wgo : List UInt8 → List Nat → List Nat
  | a :: b :: c :: d :: e :: f :: g :: h :: t, r => forceA (o8N (o8N (o8N (o8N (o8N (o8N (o8N (o8N 0 a) b) c) d) e) f) g) h) fun v => wgo t (v :: r)
  | _, r => r
def nxN (r : List Nat) : Nat := aN (aN (aN (r.getD 15 0) (sg0N (r.getD 14 0))) (r.getD 6 0)) (sg1N (r.getD 1 0))
def sgo : Nat → List Nat → List Nat
  | 0, r => r
  | n + 1, r => forceA (nxN r) fun v => sgo n (v :: r)
def rgo : List Nat → List Nat → Nat → Nat → Nat → Nat → Nat → Nat → Nat → Nat → List Nat
  | k :: ks, w :: ws, a, b, c, d, e, f, g, h => forceA (t1N e f g h k w) fun t => forceA (aN t (t2N a b c)) fun a2 => forceA (aN d t) fun e2 => rgo ks ws a2 a b c e2 e f g
  | _, _, a, b, c, d, e, f, g, h => [a, b, c, d, e, f, g, h]
def adN : List Nat → List Nat → List Nat
  | x :: xs, y :: ys => forceA (aN x y) fun z => z :: adN xs ys
  | _, _ => []
def rgoL (ks ws : List Nat) : List Nat → List Nat
  | [a, b, c, d, e, f, g, h] => rgo ks ws a b c d e f g h
  | _ => []
def pieceN (ks st : List Nat) (p : List UInt8) : List Nat := adN st (rgoL ks (sgo 64 (wgo p [])).reverse st)
def runN (ks st : List Nat) (bs : List UInt8) : Nat → List Nat
  | 0 => st
  | i + 1 => pieceN ks (runN ks st bs i) ((bs.drop (128 * i)).take 128)
def padT (n : Nat) : List UInt8 := 128 :: (List.replicate (padZ n) 0 ++ (beUp 0 8 ++ beUp (UInt64.ofNat (8 * n)) 8))
def allN (ks st : List Nat) (l : List UInt8) : List Nat := forceA l.length fun n => runN ks st (l ++ padT n) ((n + 17 + padZ n) / 128)
theorem padT_eq (l : List UInt8) : padB l = l ++ padT l.length := by simp [padB, padT]
theorem sh_hom (x : UInt64) (s : Nat) : (A0 x s).toNat = shN x.toNat s := by rw [A0, UInt64.toNat_ofNat']; rfl
theorem sr_hom (x : UInt64) (s : Nat) : (Ap x s).toNat = Nat.div x.toNat (Nat.pow 2 s) := by
  have h : x.toNat / 2 ^ s < 18446744073709551616 := Nat.lt_of_le_of_lt (Nat.div_le_self _ _) x.toNat_lt
  rw [Ap, UInt64.toNat_ofNat']
  exact Nat.mod_eq_of_lt h
theorem add_hom (x y : UInt64) : (x + y).toNat = aN x.toNat y.toNat := UInt64.toNat_add x y
theorem or_hom (x y : UInt64) : (x ||| y).toNat = Nat.lor x.toNat y.toNat := UInt64.toNat_or x y
theorem xor_hom (x y : UInt64) : (x ^^^ y).toNat = Nat.xor x.toNat y.toNat := UInt64.toNat_xor x y
theorem and_hom (x y : UInt64) : (x &&& y).toNat = Nat.land x.toNat y.toNat := UInt64.toNat_and x y
theorem rol_hom (x : UInt64) (s : Nat) : (rolW x s).toNat = rolN x.toNat s := by rw [rolW, or_hom, sh_hom, sr_hom]; rfl
theorem sg0_hom (x : UInt64) : (sig0 x).toNat = sg0N x.toNat := by simp only [sig0, xor_hom, rol_hom, sr_hom]; rfl
theorem sg1_hom (x : UInt64) : (sig1 x).toNat = sg1N x.toNat := by simp only [sig1, xor_hom, rol_hom, sr_hom]; rfl
theorem t1_hom (s : W8) (k w : UInt64) : (rndT1 s k w).toNat = t1N s.e.toNat s.f.toNat s.g.toNat s.h.toNat k.toNat w.toNat := by
  simp only [rndT1, add_hom, xor_hom, and_hom, rol_hom]; rfl
theorem t2_hom (s : W8) : (rndT2 s).toNat = t2N s.a.toNat s.b.toNat s.c.toNat := by
  simp only [rndT2, add_hom, xor_hom, and_hom, rol_hom]; rfl
theorem o8_hom (x : UInt64) (b : UInt8) : (A0 x 8 ||| b.toUInt64).toNat = o8N x.toNat b := by
  rw [or_hom, sh_hom, UInt8.toNat_toUInt64]; rfl
def wU : List UInt8 → List UInt64
  | a :: b :: c :: d :: e :: f :: g :: h :: t => (A0 (A0 (A0 (A0 (A0 (A0 (A0 (A0 0 8 ||| a.toUInt64) 8 ||| b.toUInt64) 8 ||| c.toUInt64) 8 ||| d.toUInt64) 8 ||| e.toUInt64) 8 ||| f.toUInt64) 8 ||| g.toUInt64) 8 ||| h.toUInt64) :: wU t
  | _ => []
theorem wgo_eq : ∀ (n : Nat) (p : List UInt8) (r : List Nat), p.length = 8 * n → wgo p r = ((wU p).map UInt64.toNat).reverse ++ r
  | 0, p, r, h => by
    obtain rfl := List.eq_nil_of_length_eq_zero h; rfl
  | n + 1, p, r, h => by
    have h : p.length = 8 * n + 7 + 1 := h
    iterate 8 (obtain ⟨a, l, e, h2⟩ := cons_of8 h; clear h; subst e; have h := h2; clear h2)
    rw [wgo, forceA_eq, wgo_eq n _ _ h, wU, List.map_cons, List.reverse_cons, List.append_assoc]
    simp only [o8_hom]
    rfl
theorem schA_words (p : List UInt8) (h : p.length = 128) : schA p 128 = wU p ++ List.replicate 64 0 := by
  iterate 128 (obtain ⟨a, l, e, h2⟩ := cons_of8 h; clear h; subst e; have h := h2; clear h2)
  obtain rfl := List.eq_nil_of_length_eq_zero h
  clear h
  refine Eq.trans ?_ rfl; kernel_rfl
theorem wU_length : ∀ (n : Nat) (p : List UInt8), p.length = 8 * n → (wU p).length = n
  | 0, p, h => by
    obtain rfl := List.eq_nil_of_length_eq_zero h; rfl
  | n + 1, p, h => by
    have h : p.length = 8 * n + 7 + 1 := h
    iterate 8 (obtain ⟨a, l, e, h2⟩ := cons_of8 h; clear h; subst e; have h := h2; clear h2)
    rw [wU, List.length_cons, wU_length n _ h]
def SJ (w : List UInt64) (j : Nat) : List Nat := (((schB w j).take (16 + j)).map UInt64.toNat).reverse
theorem take_set {α : Type} {l : List α} {n : Nat} (h : n < l.length) (v : α) : (l.set n v).take (n + 1) = l.take n ++ [v] := by
  have hl : (l.take n).length = n := by rw [List.length_take]; omega
  rw [List.set_eq_take_append_cons_drop, if_pos h, List.take_append, hl, List.take_of_length_le oM, show n + 1 - n = 1 by omega]
  rfl
theorem SJ_get {w : List UInt64} (hw : w.length = 80) {j i : Nat} (hj : j ≤ 64) (hi : i < 16 + j) : (SJ w j).getD i 0 = ((schB w j).getD (15 + j - i) 0).toNat := by
  have hl : ((schB w j).take (16 + j)).length = 16 + j := by rw [List.length_take, schB_length, hw]; omega
  have h1 : 15 + j - i < (schB w j).length := by rw [schB_length, hw]; omega
  rw [SJ, List.getD_eq_getElem?_getD, List.getElem?_reverse (by rw [List.length_map, hl]; exact hi), List.length_map, hl, List.getElem?_map, List.getElem?_take_of_lt oM, show 16 + j - 1 - i = 15 + j - i by omega, List.getD_eq_getElem?_getD, List.getElem?_eq_getElem h1]
  rfl
theorem SJ_succ {w : List UInt64} (hw : w.length = 80) {j : Nat} (hj : j < 64) : SJ w (j + 1) = nxN (SJ w j) :: SJ w j := by
  have h1 : SJ w (j + 1) = ((schB w j).getD j 0 + sig0 ((schB w j).getD (j + 1) 0) + (schB w j).getD (j + 9) 0 + sig1 ((schB w j).getD (j + 14) 0)).toNat :: SJ w j := by
    rw [SJ, schB, show 16 + (j + 1) = (16 + j) + 1 by omega, take_set (by rw [schB_length, hw]; omega), List.map_append, List.reverse_append]
    rfl
  rw [h1, nxN, SJ_get hw oM oM, SJ_get hw oM oM, SJ_get hw oM oM, SJ_get hw oM oM, show 15 + j - 15 = j by omega, show 15 + j - 14 = j + 1 by omega, show 15 + j - 6 = j + 9 by omega, show 15 + j - 1 = j + 14 by omega]
  simp only [add_hom, sg0_hom, sg1_hom]
theorem sgo_run {w : List UInt64} (hw : w.length = 80) : ∀ n j, j + n ≤ 64 → sgo n (SJ w j) = SJ w (j + n)
  | 0, j, _ => rfl
  | n + 1, j, h => by
    rw [sgo, forceA_eq, ← SJ_succ hw oM, sgo_run hw n (j + 1) oM, show j + 1 + n = j + (n + 1) by omega]
theorem sch_N {p : List UInt8} (h : p.length = 128) : (sgo 64 (wgo p [])).reverse = (schW p).map UInt64.toNat := by
  have hw : (schA p 128).length = 80 := schA_length p 128
  have e : wgo p [] = SJ (schA p 128) 0 := by
    rw [wgo_eq 16 p [] h, SJ, List.append_nil, schB, schA_words p h, List.take_append_of_le_length (by rw [wU_length 16 p h]; omega), List.take_of_length_le (by rw [wU_length 16 p h]; omega)]
  rw [e, sgo_run hw 64 0 oM, SJ, List.reverse_reverse, schW, List.take_of_length_le (by rw [schB_length, hw]; omega)]
def rndF (ks ws : List UInt64) (s : W8) : W8 := (ks.zip ws).foldl (fun s p => rnd1 s p.1 p.2) s
theorem rnds_F {k w : List UInt64} (s : W8) (hk : k.length = 80) (hw : w.length = 80) : ∀ t, t ≤ 80 → rnds k w s t = rndF (k.take t) (w.take t) s
  | 0, _ => by simp [rnds, rndF]
  | t + 1, h => by
    have e : rndF (k.take (t + 1)) (w.take (t + 1)) s = rnd1 (rndF (k.take t) (w.take t) s) (k[t]'oM) (w[t]'oM) := by
      rw [List.take_succ_eq_append_getElem oM, List.take_succ_eq_append_getElem oM, rndF, List.zip_append (by rw [List.length_take, List.length_take, hk, hw]), List.foldl_append]
      rfl
    rw [rnds, rnds_F s hk hw t oM, e, List.getD_eq_getElem?_getD, List.getD_eq_getElem?_getD, List.getElem?_eq_getElem oM, List.getElem?_eq_getElem oM]
    rfl
theorem rgo_eq : ∀ (ks ws : List UInt64) (s : W8), rgo (ks.map UInt64.toNat) (ws.map UInt64.toNat) s.a.toNat s.b.toNat s.c.toNat s.d.toNat s.e.toNat s.f.toNat s.g.toNat s.h.toNat = (rndF ks ws s).l.map UInt64.toNat
  | [], ws, s => by simp only [rndF, List.zip_nil_left, List.foldl_nil, List.map_nil, rgo, W8.l, List.map_cons]
  | _ :: _, [], s => by simp only [rndF, List.zip_nil_right, List.foldl_nil, List.map_nil, List.map_cons, rgo, W8.l]
  | k :: ks, w :: ws, s => by
    have e : rndF (k :: ks) (w :: ws) s = rndF ks ws (rnd1 s k w) := by simp only [rndF, List.zip_cons_cons, List.foldl_cons]
    rw [List.map_cons, List.map_cons, rgo, forceA_eq, forceA_eq, forceA_eq, e, ← rgo_eq ks ws]
    simp only [rnd1, add_hom, t1_hom, t2_hom]
theorem add8 {st xs : List UInt64} (h1 : st.length = 8) (h2 : xs.length = 8) : (addUp st xs 8).map UInt64.toNat = adN (st.map UInt64.toNat) (xs.map UInt64.toNat) := by
  iterate 8 (obtain ⟨a, l, e, h3⟩ := cons_of8 h1; clear h1; subst e; have h1 := h3; clear h3)
  obtain rfl := List.eq_nil_of_length_eq_zero h1
  iterate 8 (obtain ⟨a, l, e, h3⟩ := cons_of8 h2; clear h2; subst e; have h2 := h3; clear h3)
  obtain rfl := List.eq_nil_of_length_eq_zero h2
  simp only [List.map_cons, List.map_nil, adN, forceA_eq, ← add_hom]
  rfl
theorem piece_N {k st : List UInt64} {p : List UInt8} (hk : k.length = 80) (hs : st.length = 8) (hp : p.length = 128) : (pieceW k st p).map UInt64.toNat = pieceN (k.map UInt64.toNat) (st.map UInt64.toNat) p := by
  have hw : (schW p).length = 80 := by rw [schW, schB_length, schA_length]
  have e : rgoL (k.map UInt64.toNat) ((schW p).map UInt64.toNat) (st.map UInt64.toNat) = (rnds k (schW p) (W8.of st) 80).l.map UInt64.toNat := by
    rw [rnds_F _ hk hw 80 oM, List.take_of_length_le oM, List.take_of_length_le oM, ← rgo_eq]
    iterate 8 (obtain ⟨a, l, e, h3⟩ := cons_of8 hs; clear hs; subst e; have hs := h3; clear h3)
    obtain rfl := List.eq_nil_of_length_eq_zero hs
    rfl
  rw [pieceW, add8 hs rfl, pieceN, sch_N hp, e]

theorem run_N {k st : List UInt64} {bs : List UInt8} (hk : k.length = 80) (hs : st.length = 8) : ∀ i, 128 * i ≤ bs.length → (runW k st bs i).map UInt64.toNat = runN (k.map UInt64.toNat) (st.map UInt64.toNat) bs i
  | 0, _ => rfl
  | i + 1, h => by
    rw [runW, runN, piece_N hk (by rw [runW_length]; exact hs) (by rw [List.length_take, List.length_drop]; omega), run_N hk hs i oM]


theorem all_N {k st : List UInt64} (l : List UInt8) (hk : k.length = 80) (hs : st.length = 8) : (allW k st l).map UInt64.toNat = allN (k.map UInt64.toNat) (st.map UInt64.toNat) l := by
  rw [allW, run_N hk hs _ (by have := padB_mod l; omega), allN, forceA_eq, padT_eq, ← padB_length, padT_eq]
def kN : List Nat := [4794697086780616226, 8158064640168781261, 13096744586834688815, 16840607885511220156, 4131703408338449720, 6480981068601479193, 10538285296894168987, 12329834152419229976, 15566598209576043074, 1334009975649890238, 2608012711638119052, 6128411473006802146, 8268148722764581231, 9286055187155687089, 11230858885718282805, 13951009754708518548, 16472876342353939154, 17275323862435702243, 1135362057144423861, 2597628984639134821, 3308224258029322869, 5365058923640841347, 6679025012923562964, 8573033837759648693, 10970295158949994411, 12119686244451234320, 12683024718118986047, 13788192230050041572, 14330467153632333762, 15395433587784984357, 489312712824947311, 1452737877330783856, 2861767655752347644, 3322285676063803686, 5560940570517711597, 5996557281743188959, 7280758554555802590, 8532644243296465576, 9350256976987008742, 10552545826968843579, 11727347734174303076, 12113106623233404929, 14000437183269869457, 14369950271660146224, 15101387698204529176, 15463397548674623760, 17586052441742319658, 1182934255886127544, 1847814050463011016, 2177327727835720531, 2830643537854262169, 3796741975233480872, 4115178125766777443, 5681478168544905931, 6601373596472566643, 7507060721942968483, 8399075790359081724, 8693463985226723168, 9568029438360202098, 10144078919501101548, 10430055236837252648, 11840083180663258601, 13761210420658862357, 14299343276471374635, 14566680578165727644, 15097957966210449927, 16922976911328602910, 17689382322260857208, 500013540394364858, 748580250866718886, 1242879168328830382, 1977374033974150939, 2944078676154940804, 3659926193048069267, 4368137639120453308, 4836135668995329356, 5532061633213252278, 6448918945643986474, 6902733635092675308, 7801388544844847127]
def stN : List Nat := [7640891576956012808, 13503953896175478587, 4354685564936845355, 11912009170470909681, 5840696475078001361, 11170449401992604703, 2270897969802886507, 6620516959819538809]
def siN : List Nat := [2463787394917988140, 11481187982095705282, 2563595384472711505, 10824532655140301501, 10819967247969091555, 13717434660681038226, 3098927326965381290, 1060366662362279074]
theorem kN_eq : kW.map UInt64.toNat = kN := by kernel_rfl
theorem stN_eq : startW.map UInt64.toNat = stN := by kernel_rfl
theorem of_to (l : List UInt64) : (l.map UInt64.toNat).map UInt64.ofNat = l := by
  rw [List.map_map]
  exact (List.map_congr_left fun x _ => UInt64.ofNat_toNat).trans (List.map_id l)
theorem sha512_N (l : List UInt8) : Cd l = sumUp ((allN kN stN l).map UInt64.ofNat) 64 := by
  rw [← kN_eq, ← stN_eq, ← all_N l rfl rfl, of_to]; rfl
theorem siN_eq : shaI.map UInt64.toNat = siN := by kernel_rfl
theorem sha256_N (l : List UInt8) : sha256 l = (sumUp ((allN kN siN l).map UInt64.ofNat) 64).take 32 := by
  rw [← kN_eq, ← siN_eq, ← all_N l rfl shaI_length, of_to]; rfl

end Go.Proofs.YtfcbgdkpagcbbaaGreat
end

section
namespace Go.Proofs.YtfcbgdkpagcbbaaGreat
open Go Hw

open Ed

def pbN (n : Nat) : List UInt8 := forceA (fastN n) fun s => forceA (pwm PF 256 (uz s % PF) (PF - 2)) fun i => pb ⟨fe (ux s * i % PF), fe (uy s * i % PF)⟩
theorem pbN_eq {n : Nat} (h : n < 2 ^ 256) : pb (cv.mul n bP) = pbN n := by
  rw [fast_at h rfl rfl, pbN, forceA_eq, forceA_eq, affX, affY, force_eq, force_eq]
def h512 (l : List UInt8) : List UInt8 := sumUp ((allN kN stN l).map UInt64.ofNat) 64
def h256 (l : List UInt8) : List UInt8 := (sumUp ((allN kN siN l).map UInt64.ofNat) 64).take 32
def blkD (K : List UInt8) (D0 : DB) (e S : Nat) : DB := bsg D0 K (leb 32 e ++ leb 32 S)
def blkOk (H K : List UInt8) (n : Nat) (D0 : DB) (r e S N : Nat) : Bool :=
  Nat.beq (le (h512 (H.drop 32 ++ btxt { D0 with w := K })) % L) r && (Nat.beq (le (pbN r)) e && (Nat.beq ((le (h512 (leb 32 e ++ (K ++ btxt { D0 with w := K }))) % L * n + r) % L) S
    && (Nat.beq (le (h256 (blkD K D0 e S).bytes)) N && (decide (D0.check = 0) && decide ((blkD K D0 e S).check = 0)))))
theorem le_32 {l : List UInt8} {x : Nat} (h : l.length = 32) (e : le l = x) : l = leb 32 x := by rw [← e, ← h, leb_le]
def BlkF (seed K : List UInt8) (D0 : DB) (e S N : Nat) : Prop := (blkD K D0 e S).ok ∧ Bn (blkD K D0 e S) = leb 32 N ∧ dgood (blkD K D0 e S) = 0 ∧ ∀ B : Block, B.ok → Meets Tryz.prog 56 [agg (Aa seed), agg B.cells] [] (fun W => BlockIs W B D0) (BlkR 0 (blkD K D0 e S))
theorem blk_facts {seed H K : List UInt8} {n : Nat} (h32 : seed.length = 32) (hH : Cd seed = H) (hn : le (clampB (H.take 32)) = n) (hK : sgK H = K) {D0 : DB} {r e S N : Nat} (hl : D0.ls.length ≤ 40) (hd : D0.ds.length ≤ 2000) (hD0 : D0.ok) (h : blkOk H K n D0 r e S N = true) : BlkF seed K D0 e S N := by
  unfold blkOk at h
  simp only [Bool.and_eq_true, decide_eq_true_eq] at h
  obtain ⟨h1, h2, h3, h4, h5, h6⟩ := h
  rw [h512, ← sha512_N] at h1 h3
  rw [h256, ← sha256_N] at h4
  have h1 := Nat.eq_of_beq_eq_true h1
  have h2 := Nat.eq_of_beq_eq_true h2
  have h3 := Nat.eq_of_beq_eq_true h3
  have h4 := Nat.eq_of_beq_eq_true h4
  have hr : r < 2 ^ 256 := by rw [← h1]; exact lm _
  have hKl : K.length = 32 := by rw [← hK]; exact sgK_length H
  obtain ⟨T, hT⟩ : ∃ T, T = btxt { D0 with w := K } := ⟨_, rfl⟩
  rw [← hT] at h1 h3
  obtain ⟨s1, hs1⟩ : ∃ s1, Cd (H.drop 32 ++ T) = s1 := ⟨_, rfl⟩
  rw [hs1] at h1
  have e1 : le (sgR s1) = r := by rw [sgR, le_leb32 (lm _), h1]
  have e2 : sgF s1 = leb 32 e := by
    rw [sgF, e1, pbN_eq hr]
    refine le_32 ?_ h2
    rw [← pbN_eq hr]; exact Co _
  obtain ⟨s2, hs2⟩ : ∃ s2, Cd (leb 32 e ++ (K ++ T)) = s2 := ⟨_, rfl⟩
  rw [hs2] at h3
  have e3 : sgS H s1 s2 = leb 32 S := by rw [sgS, e1, hn, sgR, le_leb32 (lm _), h3]
  have g := good_self H s1 T (s2 := s2) (by rw [e2, hK]; exact hs2)
  rw [hK, e2, e3] at g
  refine ⟨⟨hKl, hD0.prev, by show (leb 32 e ++ leb 32 S).length = 64; rw [List.length_append, Ah, Ah], hD0.ls⟩, ?_, ?_, fun B hB => ?_⟩
  · unfold Bn
    rw [if_pos h6]
    exact le_32 (sha256_length _) h4
  · unfold dgood
    rw [if_pos h6]
    refine if_pos ?_
    have e4 : btxt (blkD K D0 e S) = T := hT.symm
    rw [e4]; exact g
  · have c := r15_Sign B D0 hB hl hd seed h32 H s1 s2 ⟨hH⟩ ⟨by rw [hK, ← hT]; exact hs1⟩ ⟨by rw [hK, ← hT, e2]; exact hs2⟩ h5
    rw [hK, e2, e3] at c
    exact c

end Go.Proofs.YtfcbgdkpagcbbaaGreat
end

section
namespace Go.Proofs.YtfcbgdkpagcbbaaGreat
open Go Hw Ed
def s3B : List UInt8 := [3, 0, 0, 0, 0, 0, 0, 0, 0, 0, 0, 0, 0, 0, 0, 0, 0, 0, 0, 0, 0, 0, 0, 0, 0, 0, 0, 0, 0, 0, 0, 77]
def s3H : List UInt8 := [162, 13, 30, 228, 134, 88, 43, 69, 203, 240, 32, 201, 155, 69, 156, 235, 55, 57, 161, 38, 86, 19, 63, 153, 124, 55, 238, 169, 173, 152, 126, 139, 60, 45, 220, 174, 7, 20, 137, 206, 198, 86, 33, 207, 65, 144, 189, 102, 91, 124, 111, 89, 113, 146, 43, 36, 77, 65, 226, 118, 150, 36, 91, 86]
def s3K : List UInt8 := [101, 215, 119, 196, 134, 193, 198, 90, 169, 112, 105, 108, 147, 161, 93, 169, 4, 245, 163, 120, 201, 155, 252, 120, 142, 121, 150, 179, 35, 175, 210, 250]
theorem s3_h : Cd s3B = s3H := by rw [sha512_N]; kernel_rfl
theorem s3_n : le (clampB ((s3H).take 32)) = 34147140121318315113140598323397753471910007791945350257681154638415600160160 := by kernel_rfl
theorem s3_k : sgK s3H = s3K := by
  rw [sgK, s3_n, pbN_eq dE]
  kernel_rfl
def s4B : List UInt8 := [4, 0, 0, 0, 0, 0, 0, 0, 0, 0, 0, 0, 0, 0, 0, 0, 0, 0, 0, 0, 0, 0, 0, 0, 0, 0, 0, 0, 0, 0, 0, 77]
def s4H : List UInt8 := [190, 231, 33, 89, 128, 114, 149, 24, 145, 93, 140, 113, 135, 118, 204, 89, 147, 102, 95, 221, 247, 201, 203, 253, 95, 184, 241, 38, 235, 186, 77, 254, 175, 27, 136, 112, 3, 37, 173, 92, 153, 222, 196, 166, 11, 166, 132, 18, 51, 68, 173, 127, 147, 54, 72, 162, 179, 246, 112, 104, 232, 216, 42, 154]
def s4K : List UInt8 := [28, 115, 190, 155, 41, 157, 214, 76, 62, 69, 22, 76, 237, 83, 137, 253, 241, 243, 227, 63, 236, 49, 35, 168, 152, 243, 193, 199, 87, 119, 1, 42]
theorem s4_h : Cd s4B = s4H := by rw [sha512_N]; kernel_rfl
theorem s4_n : le (clampB ((s4H).take 32)) = 57128756209988775365813218029248631029189498847512232951528100040102394324920 := by kernel_rfl
theorem s4_k : sgK s4H = s4K := by
  rw [sgK, s4_n, pbN_eq dE]
  kernel_rfl
def fTab : List (Nat × Nat × Nat × Nat) := [(1708399128905433573106680995531958935653512106332928087636874349498812713005, 90868300501796779070479265444376201804526444460541751596047927912883660332686, 1889694059810585714687713940726711576269053385492195078380777170476951258436, 47913917061688976993973113521158741146109632626214048601065447163387024274582),
 (7083204312254428075533214938785982585339004587505617816309713242163166496607, 96038247308569530117287012905219990829564319974220672676036082951537925589595, 253504384881047252139292111402908011058767944799422854173689490756103334192, 13803458062496356857555551445523985848057453293413242493871602743997622458339),
 (6641630156371977896219892915748535817318754191209699175104156518087435371676, 23884086756783858428089013526102307779958024229792143977148192007875044102077, 1083502883259051704731441545875171175394302137137197193577832231808488994128, 58294625753313652405870711606255705896201918673945098148658019681984138237216),
 (3783561923246251788156978549614634589691888214480737289516467498611733334647, 24880778612720544120255467434769726279096736980268964739863137056011911275413, 5336778078719065798591214976837215492943798048499757911554354872374548082132, 86864076854089493798067290679189520239254956944855417921858335713265978006893),
 (2624614317642676903915500253546382132745052630815693880235660335877404049628, 18024928366626799296211484825507590674644183616977629919485407893360356441978, 6453605648790162465593763784894940153967139644403275910753827669147535947650, 106431569553689701116363130690081847810459702803574626149983615308545595357426),
 (5781460548833091424048611961722533297442575443337329717380752150628365114213, 107991899661101113879650236153505523009643445144877792212727554783882279481502, 6839000548010751586972258361347973937810732587868263664895484798591692663211, 57753113025760319563877579794137778242477056173845705053790081765096283636055),
 (6558465073750427331703541740371090817097006633899110477518300692269548254554, 96528375006722790993354029004389249745897309199443549683344073727229858314621, 5546928626980805032951320632626490224225466442343129106614674392680167831837, 29620811301832504674283056394514188336862141354188842776900534198972021322246),
 (5678272222233725827553444085112655101224781256222347678930035891927210264419, 24486536797508255665643827024633052550557917400585217558836208679647311873580, 6889135911129460796460381017945291533060709090228395351880025994720556320646, 104920591557496883436096510866048771981611951237511076995630766128519377312432),
 (5587676338739317801779703584090664329593304143872588404746355451734150841453, 26248412768774108581821713542776913496118967613588739950412645390856211603873, 2626228140590777870177900999012588677211942333196501854738858953363753185824, 93609569089137897945657492000691606778458183065472128720575065312743442106648),
 (608886675284066331895948706983581066415548475072939832075932777327014613855, 48095361958902753142252337687119328373403349331053757327784127097269152904353, 5708550452567438073827365809077879960844313008016702535325841917957787433353, 58110490936117700993041467706332801752162942664420603878396469907996059096704),
 (5642169126854415026059163071734877368762596780566864746185511577644838973509, 31930141018180000255964269543973697303808422749064137843034907592089519741541, 6861187926286041147712085806212079094941484698102410698596825731680110630545, 31424055259003518383189879759635323152231130806743225068812879161471040002924),
 (1138211932078529374347022663720236882403635865023813436286251643090339983463, 74717225308371985475136672105581216264278981639259622606655207440015085874008, 600217710843610282557322759448034689385708718979929813993179722670366384149, 104627231465327608647317405128748364888050275741517322309414525517939975093198),
 (4522249577816329972215694053420853998944441851970106405163205458359406200457, 5015888629422935921832444703573441152114467104317164933429104791719447321331, 2930613241101169464779712586041707733309688981646602919111998425515942530125, 97261936684017532163248274617606804000655810710630364192105056262312003226295),
 (5897357404397220674085357626142615608609082442196882981186886672282473615918, 70268580403555217260467350181378398675791227135241265182219028380125855604724, 4134176964492561150259927781000600554227368375031038958406465453772486690535, 42738309342029433021988699375175281917841348765686289470447786616496532557880),
 (840443425966776632897889935623705304182660737311763018501358151508163033393, 50705434471606407726933825967214589178170477796710543981311914387516646159087, 3088071004137168008018149852210321590715997413933102300920684174134970375041, 10213146740945355203526414485513911376212810631284741200045611962259851035192),
 (1745918142434200040982545575010558576241080754082540478168516971298228682122, 75695077305088245914573290536924727946241211595839396025629737730167265855315, 979019334264144730833584901977240083376680652756496813689484479785533062538, 9452559023122895365048497987485114839430613701424151865428412918876748931851),
 (3131507451169347922781715350228242720833233894356473250424101038041855303250, 97884754532368329302883890454573121300825153534594613963838818568045601503877, 2418875124384573572287843305894405253552406024726133827266237969315649827793, 31471815221521565579733929301913206284115246110494582078886933231076891466072),
 (1278465098522504244715100244701958932255236700246799846138618769502213940222, 22432964985144995529887634231283170214404821274221177246644518365745863762492, 254065429667793314728392434829719856334190652689522024432931378203289745565, 27845459534585628041669166019703960469070635252895788132878295650188209746399),
 (2917020720467876117614051856481407915480614301188209557780500767884694722950, 76140776563769995929008186720397048577404318277858108720413428870259929680715, 11055389838523115456327856565463923045026258521031221079267859090571630669, 115171935678826239280697573477259096668102060404934850933951559146729377027533),
 (1213960714048110960616971778888018184143519219904266448802524184743763439276, 11118342398857636398631209605010942688432973065167646471678685787426643140854, 5284343630314651569400266332429885024088362362498532562083336907411015143828, 20788319830275335341564229793755211973615624820590958736845306972802740734012),
 (432977016548887213632331167245709871921447876090476045020515019771360700809, 42485120701330356892388753513168370767362197034644817732437829029590168256787, 7109936859700717870279455482811351374604006123138965655657587964724445961523, 20777516863032888574737016667805943988306291416071939895948132514546505256459),
 (2293171906524317965984433900654077902538634386939723038257327068132032172223, 60697955430142041832724217243989610975753223859545052046963218074584900879756, 6465268647651851445076096419421512678332167225703493048546469262508845257956, 68261845445074542236260513907748392010669288741487584957173698680622684745149),
 (1176641131680548663628203222623913082236016273192530136559733364022516636790, 57764569103125403026715917890354505880044536463916408994383602695998256413677, 1076622164222889377104651398440032700449724653468430346896387485918807627297, 108103585676459440968332195346344689548047329316085640126576674184940194076030),
 (1826926460459009706027896450806481621123243636860486414369788669355456893354, 22419905842103543987791335480991043107553566356804524142700775432697286863078, 246960967204455879978945862402286713252584230141396497908710363799260360956, 71791318966668124766273726610802602385978249867912225850125131377662804556315),
 (6777038621428423095848701325139621507627189541923517467841787748164740830585, 9759159145450646000162802904811168717033094371500841144873650586268348331974, 4820112436663572036924780648395738717087810368419952743547571259532371213619, 93777942715283763317143723317525759572268920381216693897044482310597584073466),
 (3243448713212611557221191133938936803762862373546634797027731233292866034111, 15168686114163370054293723310513993711772130858413175179137612892301190268374, 7172308346244447752566973789879836985419424703952673475906570611827914795374, 66326747981348436728191071835051476554811411209500079253114900458319777928792),
 (2833664896744439533324817337727494279381144878999828757450913426986178010529, 108014372070020775796418539963114915401670550957934108278599839875765941243003, 3222070443968351355159957564978470377760957042813289396011652387762386231562, 51572952137191377804764150293357992510141716191253026520276871342874601245615),
 (4860471592853117289708452438709279987151444832440292412939525535454632142247, 4630196879906489859479316294827245915909915532859947514662818286374130600, 1695144842953148466174546099145243844294257839481404364718605770395894277113, 46358648225845858814463893744128040573546820669835394425389098820694595624593),
 (6556695729525271054808538029365479563683722639400297709882057578505073172683, 91685013928017600498924651132518981687754830164301132370792017905228537275540, 1508025090710234197935990487459857221954605298548980702430405842089470508378, 8637953836668067120620844671505267198765312078036720713578629067486236784281),
 (2955818613029617613180729554027186928411177185909951338314022749983881226596, 86053337886186128672462272141164837544857425518269768847854815296021210749578, 2427436427052130270957151394481829437058541523219937511893289661297954779166, 68697820140794022737805574098813237645407898505571096975767345444003566796338),
 (7200437652986555761625924990776230570966476131977748559911647261871423912392, 67683655922651234210982674986416185654678220056720091679210201416533354768683, 1691577738874500877761599857882459920142604193442127757977801890608663791682, 36332579237797306177679378141084362698820443518202743858661941928556326768624),
 (7002873467058358169550422178399446422635648712660359317338363931823779320694, 32528739843638492138028667045024337629241873971130166253399687527793197033215, 4360335526202148787829613787105231553661892753770648338979899836398511509845, 100979737729628398051247106979146112443065907661860073288048958577319503586720),
 (5433591799613708205218618461308632705881986150436020254809761637279136023355, 51507281803104808520889893026589709444895617347415607931084206924054258414904, 5778119190094873645822749897442545115971076869853824000384963712061928726908, 88275880652162014223337080601632754654754539592883759452299938452924675872578),
 (435367013707335875665194469329349698779853466157958892887942414775898562712, 98045237146668460500595981135223724410008816895422852862924567914997172409084, 1486006130482478561473730414613543786980356572243530526917876945044629158750, 41503618954569058997891839505649674323328180635156090346322349886017524885565),
 (3142829678133214294559223934050600402037290005562950918264844007301667458395, 112735502612924248256718500485962869312337377140834849024758204297757820451682, 6270851914347776640099119170671650464994811029703709666628941604670520990070, 24314808718460036255778192624210258396490877319484603030419760390166975222001),
 (5584923390727319447026195838358221959891220861283413440717471536753913786964, 28426767174108078429731980880338513493392219822478051136668045985765518862062, 6462972862728245273073779555140601650009476761002818718940692866415362113709, 92062784194634275165548767100812267114143630486717857501161752060332513934561),
 (5343811081299372166316532983551713493945648994105218968554341735165716779551, 109988625445957355388942841929758202884537304618034039781627083177609079476138, 1776874319594617930849423860618173263368330251677771626019051637837753980379, 96799264871775511573039837497129057312504448904027116797966764532953995621291),
 (3611114941622138309362692355601226766810245000766124806943461503483120683893, 85597755072104095787002509255374897101285621357991546326024044776599890845469, 4489370820720672890639528824305906622970568404711279624989705414460129172883, 31011567343600826065377703989551350857431198520405930849670503637231368674261),
 (1522973031325627217773366528864482718810852762227485316554798808780711935704, 69096791353755389971894806638999471950269663613968815037647373993048898654317, 7229454880740196736149034303814071660892390734132251160896517064107125374075, 16689433259033118787408369864315012998124923182780981845233642283027718976520),
 (617224457329988371808728900783506752181856874089036863262171301606855814919, 65608386596356172108545557458329219660530394737817789600299377963218360180629, 6068935282047866113067696942033890401249003038215597953421941842861369623426, 72032577533436943556004319320240198960081922313616399509729410386746935504416),
 (4347615693727696422949135709440557023247687251440368077984678022533857916738, 96984853823601644483347305899309568514078745470220987671852029603028977373477, 6223437388547064472111170924027897704107588783246484235306605863410577917849, 50266790266100843995026584570106010219955424891293753460686768290098226782566),
 (3930578948931332752668740167348322354349928277637190129242770412581919102832, 15769268942625942290989425181173005393510491550393431786176630718099468740605, 3820645447302978670384139154530130579707103112009175520891059749620629331630, 105082270819553644845425788451409236221291848737712399771809119661300007650271),
 (4905983560282233067525809488389470008837857912962477308403069400621421225841, 9971303016872734209286612627830019536271268470941018283009810454805837156363, 6932067838845931993042061872320999910958130493337527870341439260308604158698, 102350672741400653561712600718688351620285968009258172106060824246724100528932),
 (5006611065906531260340070439519175185365923002039266987598886774466021449078, 85507554687618591232085693551659560400775261497892341092949296249237915406698, 4522364832123194755308124182902677473693342938031669561299373508395888288320, 47691637657196686092617509666974264014326574549393252989473176716279127301901),
 (3550852726582974608531937610519498852114540855238677663596915007910932855751, 97468803329066311789737705282852691432694473285419532416753619711155547203042, 2739264869236416894671711669874649936489468809290684895264908221082529320853, 98988409116481678103589273801123311288461700900253068132667740799564935219255),
 (613649242328044890603093025241557536599991917474467664336080761223917396476, 66052733798370022986918612607099443062987922009874960810262833673652439401411, 5368957614176404560526463241879791215920573307128974726986737314667419889343, 70338237845743729342459971204778211550214996761910220794897745168118279094071),
 (6745104014157732900627618682397311679294574424584719581856288705016803344576, 2161863839548037972054856234945010725376106401506193115179882732332975362223, 6061981496151399521052122586257422416854257879794395091957364821921531534411, 42812015256294195709825092722179193191308899266236989611353425587138890191178),
 (1490402063718150481789529924017359238704568211288745641449396221246359643348, 102260072643334994027490999822070464297558919309249781836954782878480251910202, 5245440508397428350065509138332058665861097431719768039462687226079969607863, 91941580087345126108752803050757354291242599639623842071768436890354766868853),
 (2373955624722402744639121185536700128185347571448946971980358573849367681488, 25987971045132534190963647775100996244672930778493833977256541003738733439903, 5519297054548274680020132146604176341140541666676076370205068186499745142519, 80667310972052940938668633436919299113117351789984204799700623640360169631612),
 (3656867787015568406111984532106727963476228372870220836925373063434849191071, 79349464109057351880072924637320985008633295307031350471520573548907019212630, 4260835030806825723785728961369439260065031304979297769286189985452343671742, 30551920612821022024122940614002271660493379209038422713049389825983306205305),
 (4569434786535785314370444645545220282594119047789198436352345753787207372079, 79939163851241202118778490624138857463205229559250055189485545014795419330187, 2132847321675957670770280235881365084579549260919603159027166080606565912075, 85407730195674366737165941979911802144920787913111794273542678688587223195702),
 (642054299413128199897622051352443442537364613405267747723095253684343311218, 52693643744566500344296095045962343456477832494241369439498127889558136496883, 4728550650203467229153303019903590597637447399628975776609513348507643082404, 93244537642267176136282273608930499767752184878369949994344345860861788662283),
 (4900285393473668136501551036372607291743709020762164019666835438567019512446, 57353841739300445142683504904232871692300005590377853481487873877764658673588, 3023901067475160536476789620856707152316319356511657473507772166206798336061, 90060613005022389222718685417823576393605319661464706571357830322307086399743),
 (723205071868023979861813950060697475386845904977534802913837330737519730415, 59169922384360627050390534536253854348003820935895450382163856859252504363317, 3450192341324532331882129002542994548078597472862971054012627985649110722499, 69373415418611421888699252958666801209213499867243434884403820481708304286911),
 (4856128944335374153658498793323619498937244811462643796521221328174158822954, 30256192529096042669364753906756265760355598775689574047870086409672944248900, 1070491515517630960258785529739961056705353347188851585022799776901160797958, 77040154589499886908599403835561486004081949641222834798205130226296292120078),
 (2252037152463702608173468092245123026955173040522243172184189776585206631246, 97792617731529496070400771613441819735459898605579962617545476502115400299275, 5489923969653148181059593712088804217664493438203827650483673169325915708298, 20749540225630569073993315953415510386031864284057871505712381439660101410115),
 (4339168667107012825844576468452497141872246065858759364380245500704553392110, 56291102618406074903268703401612699474038440671694421613210807622089053574179, 4448990672120462210170316715050371608589913759123937228947380998188567353979, 43155537686479924679735447318582491109447562453895207815985951419333605731315),
 (993347817194910476017874456569105669183011381122301091690245161358789611226, 60962612099492435743816250449874138943801539939947962110290241397987559072491, 1496411350560764271562942785166797143031427562210272377720944120079874991964, 79150488236565675138862412938412777959597262962806991723125824847755485394562),
 (5549819765034060514034355963856711987983803706861052236370660997865683338818, 86011003702591212921712286764104321983850662658724271805017418026388525046920, 3919787001536757176813548108174256920031006237671479076829604743063114111634, 64670560555120962705809065234144120886628311579257321931306589281809683942643),
 (4328939246841069054606367913182518546961970887109397385225694725310315952747, 101330659532015362746263444107745064723207076847235953972760183913718374914927, 792232919997342987143641938087220093036924750501891620417663261171245936538, 100852532960255066969358069858326407041849452033845386670000463976384411209445),
 (2683664574399061213258242821388491540707248451275659946100563362927173888862, 98208079233900852604621493123221491630941054147771041353303968217114750232087, 2155103652716829160643174450480316846354332466568981028886009849963553081253, 32778542426294939522596617779186593662501511988678836335767237996603582315285),
 (931359075685501001191134121447467485870677813225983965688148225171422979046, 26013723349589265176428120394783203719193552828268410998250115799533366131100, 6550681303130761826189775714866115175390227723065986772604301529905548094045, 14227620082334919868323533967066460336507432768216377305602204784712865429767),
 (6869440182986508492858996481892509665484663630646816443185016494824179792684, 106693226307073667110571090341605043011014914567400066943760017058329004553987, 1749660586995954654954584657929794625906439237670374773091544549373928416423, 14065362880118457023090484514429047194707870511103315946539345413756378320962),
 (600956746819734770796208753225633939522464975105660093075632534247603432170, 299567932449602275253860964242480189653190206763564054597405332232551453842, 6752313640481890096715959772793969392229542268968465703732138549202122000147, 12927849681075522332296138522822924491237685240058119259991827780773454984921),
 (638699139301776567907721436093777017493107718540726030915860972930070112594, 34020931817892955174718569665573610325321773684983401052514609793096017000322, 4206686285079593957218746717330646390053318836746297572578812591155774309719, 16649635767667763879857480711828486843114094816655014657498717290324051234469),
 (3824592819805278543810919170949062819318713635522220457218385920504068573176, 86177636726616891484076376828896726915065860375907370786998643771471076314357, 1309907809700697256566437518006622882600904400333799217867230192854642974225, 65932600394897545103278679680077555425697003197482015861147318014761667912641)]
def fRow (i : Nat) : Nat × Nat × Nat × Nat := fTab.getD i (0, 0, 0, 0)
def fN (i : Nat) : List UInt8 := leb 32 (fRow i).2.2.2
def fPrev : Nat → List UInt8
  | 0 => List.replicate 32 0
  | i + 1 => fN i
def fD0 (i : Nat) : DB := { DB.zero with seq := UInt64.ofNat i, prev := fPrev i }
def fK (i : Nat) : Prop := blkOk s3H s3K 34147140121318315113140598323397753471910007791945350257681154638415600160160 (fD0 i) (fRow i).1 (fRow i).2.1 (fRow i).2.2.1 (fRow i).2.2.2 = true
def fO0 : DB := { DB.zero with ls := [9 :: List.replicate 31 0] }
def fO : Nat × Nat × Nat × Nat := (4744393433447503683947237911092013124206516986838938955150827248117116641134, 30104396116447968857759144008664987307061535233324618335620379867599587615059, 769722009331724043853943595765357998753006698905186191620185760743109678, 95603079843405712185655028759365664214189585700723653349356736795618321736147)
def fF : Nat × Nat × Nat × Nat := (5083733118881732124746250962962690044377877873933202731576939621282004465404, 97931082559311133366967087140507416511043254282666024444015328807876836118843, 318349988531599053391911093277061323683327653112502856959372195203229954221, 102328398544177040234642485484236982257243437085618832343952406393193538393541)
theorem fo_ok : blkOk s4H s4K 57128756209988775365813218029248631029189498847512232951528100040102394324920 fO0 fO.1 fO.2.1 fO.2.2.1 fO.2.2.2 = true := by kernel_rfl
theorem ff_ok : blkOk s4H s4K 57128756209988775365813218029248631029189498847512232951528100040102394324920 DB.zero fF.1 fF.2.1 fF.2.2.1 fF.2.2.2 = true := by kernel_rfl
end Go.Proofs.YtfcbgdkpagcbbaaGreat
end

section
namespace Go.Proofs.YtfcbgdkpagcbbaaGreat
open Go Hw Ed
theorem f_0 : fK 0 := by unfold fK; kernel_rfl
theorem f_1 : fK 1 := by unfold fK; kernel_rfl
theorem f_2 : fK 2 := by unfold fK; kernel_rfl
theorem f_3 : fK 3 := by unfold fK; kernel_rfl
theorem f_4 : fK 4 := by unfold fK; kernel_rfl
theorem f_5 : fK 5 := by unfold fK; kernel_rfl
theorem f_6 : fK 6 := by unfold fK; kernel_rfl
theorem f_7 : fK 7 := by unfold fK; kernel_rfl
theorem f_8 : fK 8 := by unfold fK; kernel_rfl
theorem f_9 : fK 9 := by unfold fK; kernel_rfl
theorem f_10 : fK 10 := by unfold fK; kernel_rfl
theorem f_11 : fK 11 := by unfold fK; kernel_rfl
theorem f_12 : fK 12 := by unfold fK; kernel_rfl
theorem f_13 : fK 13 := by unfold fK; kernel_rfl
theorem f_14 : fK 14 := by unfold fK; kernel_rfl
theorem f_15 : fK 15 := by unfold fK; kernel_rfl
end Go.Proofs.YtfcbgdkpagcbbaaGreat
end

section
namespace Go.Proofs.YtfcbgdkpagcbbaaGreat
open Go Hw Ed
theorem f_16 : fK 16 := by unfold fK; kernel_rfl
theorem f_17 : fK 17 := by unfold fK; kernel_rfl
theorem f_18 : fK 18 := by unfold fK; kernel_rfl
theorem f_19 : fK 19 := by unfold fK; kernel_rfl
theorem f_20 : fK 20 := by unfold fK; kernel_rfl
theorem f_21 : fK 21 := by unfold fK; kernel_rfl
theorem f_22 : fK 22 := by unfold fK; kernel_rfl
theorem f_23 : fK 23 := by unfold fK; kernel_rfl
theorem f_24 : fK 24 := by unfold fK; kernel_rfl
theorem f_25 : fK 25 := by unfold fK; kernel_rfl
theorem f_26 : fK 26 := by unfold fK; kernel_rfl
theorem f_27 : fK 27 := by unfold fK; kernel_rfl
theorem f_28 : fK 28 := by unfold fK; kernel_rfl
theorem f_29 : fK 29 := by unfold fK; kernel_rfl
theorem f_30 : fK 30 := by unfold fK; kernel_rfl
theorem f_31 : fK 31 := by unfold fK; kernel_rfl
theorem f_32 : fK 32 := by unfold fK; kernel_rfl
end Go.Proofs.YtfcbgdkpagcbbaaGreat
end

section
namespace Go.Proofs.YtfcbgdkpagcbbaaGreat
open Go Hw Ed
theorem f_33 : fK 33 := by unfold fK; kernel_rfl
theorem f_34 : fK 34 := by unfold fK; kernel_rfl
theorem f_35 : fK 35 := by unfold fK; kernel_rfl
theorem f_36 : fK 36 := by unfold fK; kernel_rfl
theorem f_37 : fK 37 := by unfold fK; kernel_rfl
theorem f_38 : fK 38 := by unfold fK; kernel_rfl
theorem f_39 : fK 39 := by unfold fK; kernel_rfl
theorem f_40 : fK 40 := by unfold fK; kernel_rfl
theorem f_41 : fK 41 := by unfold fK; kernel_rfl
theorem f_42 : fK 42 := by unfold fK; kernel_rfl
theorem f_43 : fK 43 := by unfold fK; kernel_rfl
theorem f_44 : fK 44 := by unfold fK; kernel_rfl
theorem f_45 : fK 45 := by unfold fK; kernel_rfl
theorem f_46 : fK 46 := by unfold fK; kernel_rfl
theorem f_47 : fK 47 := by unfold fK; kernel_rfl
theorem f_48 : fK 48 := by unfold fK; kernel_rfl
end Go.Proofs.YtfcbgdkpagcbbaaGreat
end

section
namespace Go.Proofs.YtfcbgdkpagcbbaaGreat
open Go Hw Ed
theorem f_49 : fK 49 := by unfold fK; kernel_rfl
theorem f_50 : fK 50 := by unfold fK; kernel_rfl
theorem f_51 : fK 51 := by unfold fK; kernel_rfl
theorem f_52 : fK 52 := by unfold fK; kernel_rfl
theorem f_53 : fK 53 := by unfold fK; kernel_rfl
theorem f_54 : fK 54 := by unfold fK; kernel_rfl
theorem f_55 : fK 55 := by unfold fK; kernel_rfl
theorem f_56 : fK 56 := by unfold fK; kernel_rfl
theorem f_57 : fK 57 := by unfold fK; kernel_rfl
theorem f_58 : fK 58 := by unfold fK; kernel_rfl
theorem f_59 : fK 59 := by unfold fK; kernel_rfl
theorem f_60 : fK 60 := by unfold fK; kernel_rfl
theorem f_61 : fK 61 := by unfold fK; kernel_rfl
theorem f_62 : fK 62 := by unfold fK; kernel_rfl
theorem f_63 : fK 63 := by unfold fK; kernel_rfl
theorem f_64 : fK 64 := by unfold fK; kernel_rfl
theorem f_65 : fK 65 := by unfold fK; kernel_rfl
end Go.Proofs.YtfcbgdkpagcbbaaGreat
end

section
namespace Go.Proofs.YtfcbgdkpagcbbaaGreat
open Go Hw

open Ed

theorem Ax {p : Nat → Prop} {k : Nat} (h : ∀ i, i < k → p i) (hk : p k) : ∀ i, i < k + 1 → p i := fun i hi => by
  rcases Nat.lt_or_eq_of_le (Nat.le_of_lt_succ hi) with h2 | h2
  · exact h i h2
  · rw [h2]; exact hk
theorem f_all : ∀ i, i < 66 → fK i := by
  have h : ∀ i, i < 0 → fK i := fun i h => absurd h (Nat.not_lt_zero i)
  replace h := Ax h f_0
  replace h := Ax h f_1
  replace h := Ax h f_2
  replace h := Ax h f_3
  replace h := Ax h f_4
  replace h := Ax h f_5
  replace h := Ax h f_6
  replace h := Ax h f_7
  replace h := Ax h f_8
  replace h := Ax h f_9
  replace h := Ax h f_10
  replace h := Ax h f_11
  replace h := Ax h f_12
  replace h := Ax h f_13
  replace h := Ax h f_14
  replace h := Ax h f_15
  replace h := Ax h f_16
  replace h := Ax h f_17
  replace h := Ax h f_18
  replace h := Ax h f_19
  replace h := Ax h f_20
  replace h := Ax h f_21
  replace h := Ax h f_22
  replace h := Ax h f_23
  replace h := Ax h f_24
  replace h := Ax h f_25
  replace h := Ax h f_26
  replace h := Ax h f_27
  replace h := Ax h f_28
  replace h := Ax h f_29
  replace h := Ax h f_30
  replace h := Ax h f_31
  replace h := Ax h f_32
  replace h := Ax h f_33
  replace h := Ax h f_34
  replace h := Ax h f_35
  replace h := Ax h f_36
  replace h := Ax h f_37
  replace h := Ax h f_38
  replace h := Ax h f_39
  replace h := Ax h f_40
  replace h := Ax h f_41
  replace h := Ax h f_42
  replace h := Ax h f_43
  replace h := Ax h f_44
  replace h := Ax h f_45
  replace h := Ax h f_46
  replace h := Ax h f_47
  replace h := Ax h f_48
  replace h := Ax h f_49
  replace h := Ax h f_50
  replace h := Ax h f_51
  replace h := Ax h f_52
  replace h := Ax h f_53
  replace h := Ax h f_54
  replace h := Ax h f_55
  replace h := Ax h f_56
  replace h := Ax h f_57
  replace h := Ax h f_58
  replace h := Ax h f_59
  replace h := Ax h f_60
  replace h := Ax h f_61
  replace h := Ax h f_62
  replace h := Ax h f_63
  replace h := Ax h f_64
  replace h := Ax h f_65
  exact h

def fCD (i : Nat) : DB := blkD s3K (fD0 i) (fRow i).2.1 (fRow i).2.2.1
theorem fPrev_length (i : Nat) : (fPrev i).length = 32 := by
  cases i with
  | zero => rfl
  | succ i => exact Ah 32 _
theorem fD0_ok (i : Nat) : (fD0 i).ok := ⟨rfl, fPrev_length i, rfl, fun l hl => by cases hl⟩
theorem fF_all {i : Nat} (h : i < 66) : BlkF s3B s3K (fD0 i) (fRow i).2.1 (fRow i).2.2.1 (fRow i).2.2.2 := blk_facts (H := s3H) rfl s3_h s3_n s3_k (Nat.zero_le _) (Nat.zero_le _) (fD0_ok i) (f_all i h)
def fNs : List Nat := (fF.2.2.2 % 256 ^ 32) :: (fO.2.2.2 % 256 ^ 32) :: fTab.map fun r => r.2.2.2 % 256 ^ 32
theorem fNs_nodup : fNs.Nodup := of_decide_eq_true zK
theorem fTab_length : fTab.length = 66 := by kernel_rfl
theorem fNs_at {i : Nat} (h : i < 66) : fNs[i + 2]? = some (le (fN i)) := by
  have h1 : i < fTab.length := by rw [fTab_length]; exact h
  show (fTab.map fun r => r.2.2.2 % 256 ^ 32)[i]? = _
  rw [List.getElem?_map, List.getElem?_eq_getElem h1, fN, le_leb, fRow, List.getD_eq_getElem?_getD, List.getElem?_eq_getElem h1]
  rfl
theorem fNs_inj {i j : Nat} {x : Nat} (hi : fNs[i]? = some x) (hj : fNs[j]? = some x) : i = j := by
  obtain ⟨h1, e1⟩ := List.getElem?_eq_some_iff.1 hi
  obtain ⟨h2, e2⟩ := List.getElem?_eq_some_iff.1 hj
  rcases Nat.lt_trichotomy i j with h | h | h
  · exact absurd (e1.trans e2.symm) (List.pairwise_iff_getElem.1 fNs_nodup i j h1 h2 h)
  · exact h
  · exact absurd (e2.trans e1.symm) (List.pairwise_iff_getElem.1 fNs_nodup j i h2 h1 h)
theorem f_full : CFull fCD fN where
  nm := fun i h => (fF_all h).2.1
  good := fun i h => (fF_all h).2.2.1
  ls := fun i _ => rfl
  w := fun i h => (rfl : s3K = s3K)
  seq := fun i h => (rfl : UInt64.ofNat i = UInt64.ofNat i)
  prev := fun i h => (rfl : fN i = fN i)
  inj := fun i j hi hj e => by
    have h2 : fNs[j + 2]? = some (le (fN i)) := by rw [e]; exact fNs_at hj
    have h := fNs_inj (fNs_at hi) h2
    omega
theorem fD0_zero : fD0 0 = DB.zero := rfl
theorem fC0 : ∀ B : Block, B.ok → Meets Tryz.prog 56 [agg (Aa s3B), agg B.cells] [] (fun W => BlockIs W B DB.zero) (BlkR 0 (fCD 0)) := by
  have c : ∀ B : Block, B.ok → Meets Tryz.prog 56 [agg (Aa s3B), agg B.cells] [] (fun W => BlockIs W B (fD0 0)) (BlkR 0 (fCD 0)) := (fF_all (i := 0) dE).2.2.2
  rw [fD0_zero] at c
  exact c
theorem fo_facts : BlkF s4B s4K fO0 fO.2.1 fO.2.2.1 fO.2.2.2 := blk_facts (H := s4H) rfl s4_h s4_n s4_k dE (Nat.zero_le _) ⟨rfl, rfl, rfl, fun l hl => by rw [List.mem_singleton.1 hl]; rfl⟩ fo_ok
theorem ff_facts : BlkF s4B s4K DB.zero fF.2.1 fF.2.2.1 fF.2.2.2 := blk_facts (H := s4H) rfl s4_h s4_n s4_k dE (Nat.zero_le _) ⟨rfl, rfl, rfl, fun l hl => by cases hl⟩ ff_ok
theorem full_facts : ∃ (CD : Nat → DB) (CN : Nat → List UInt8) (Do Df : DB) (X : Nat → PD) (XA XB XC : PD) (nf : List UInt8) (l : List (List UInt8)),
    (∀ i, i < 66 → (CD i).ok ∧ (CD i).ls = [] ∧ (CD i).ds = [] ∧ (CN i).length = 32 ∧ Bn (CD i) = CN i) ∧ Do.ok ∧ Df.ok ∧ Df.ls = [] ∧ Df.ds = []
    ∧ (∀ B : Block, B.ok → Meets Tryz.prog 56 [agg (Aa s3B), agg B.cells] [] (fun W => BlockIs W B DB.zero) (BlkR 0 (CD 0)))
    ∧ (∀ i, i + 1 < 66 → ∀ B : Block, B.ok → Meets Tryz.prog 56 [agg (Aa s3B), agg B.cells] [] (fun W => BlockIs W B { DB.zero with seq := UInt64.ofNat (i + 1), prev := CN i }) (BlkR 0 (CD (i + 1))))
    ∧ (∀ B : Block, B.ok → Meets Tryz.prog 56 [agg (Aa s4B), agg B.cells] [] (fun W => BlockIs W B { DB.zero with ls := [9 :: List.replicate 31 0] }) (BlkR 0 Do))
    ∧ (∀ B : Block, B.ok → Meets Tryz.prog 56 [agg (Aa s4B), agg B.cells] [] (fun W => BlockIs W B DB.zero) (BlkR 0 Df))
    ∧ X 0 = PD.new ∧ (∀ m, m < 64 → (X m).add (CD (m + 2)) = (X (m + 1), [], 0)) ∧ (X 64).add Do = (X 64, [], 7) ∧ (X 64).orphans.length = 64 ∧ (X 64).add Df = (XA, [nf], 0) ∧ XA.add (CD 0) = (XB, [CN 0], 0) ∧ XB.missing.length = 1 ∧ XB.add (CD 1) = (XC, l, 0) ∧ l.length = 65 ∧ XC.orphans.length = 0 ∧ XC.names.length = 67 ∧ XC.hds.length = 2 := by
  obtain ⟨X, XA, XB, XC, l, h⟩ := full_plain f_full fo_facts.2.2.1 ff_facts.2.2.1 fo_facts.2.1 ff_facts.2.1 rfl rfl (m9 := 9 :: List.replicate 31 0) rfl rfl
    (fun j hj e => by
      have h2 : fNs[1]? = some (le (fN j)) := by rw [e, le_leb]; rfl
      have := fNs_inj (fNs_at hj) h2
      omega)
    (fun j hj e => by
      have h2 : fNs[0]? = some (le (fN j)) := by rw [e, le_leb]; rfl
      have := fNs_inj (fNs_at hj) h2
      omega)
  refine ⟨fCD, fN, _, _, X, XA, XB, XC, _, l, fun i hi => ⟨(fF_all hi).1, rfl, rfl, Ah 32 _, (fF_all hi).2.1⟩, fo_facts.1, ff_facts.1, rfl, rfl, fC0, fun i hi => (fF_all hi).2.2.2, fo_facts.2.2.2, ff_facts.2.2.2, h⟩

end Go.Proofs.YtfcbgdkpagcbbaaGreat
end

section
namespace Go.Proofs.YtfcbgdkpagcbbaaGreat
open Go Hw

def PD.heads (X : PD) : List (List UInt8) := isort (X.hds.map (·.1))
theorem heads_len (X : PD) : X.heads.length = X.hds.length := by unfold PD.heads; rw [(isort_perm _).length_eq, List.length_map]
theorem meets_knowN {P : Program} {f : FuncId} {args : List Value} {Pre : World → Prop} {R R' : Value → List Blk → Prop} (h : Meets P f args [] Pre R) (hr : ∀ v out w, R v out → Lies out w → R' v out) : Meets P f args [] Pre R' :=
  fun W hW => (h W hW).mono fun e W' ⟨v, out, h1, h2, h3⟩ => ⟨v, out, h1, hr v out W' h2 h3.cells, h3⟩
def BlkN (D : DB) (v : Value) (out : List Blk) : Prop := ∃ B : Block, v = agg B.cells ∧ Held [] B D
theorem any_is {w : World} {B : Block} {D : DB} (h : BlockIs w B D) (hl : D.ls = []) (hd : D.ds = []) (W : World) : BlockIs W B D := by
  have n1 : B.fLinks.n = 0 := by rw [← h.ls.len, hl]; rfl
  have n2 : B.fData.n = 0 := by rw [← h.ds.len, hd]; rfl
  refine ⟨h.ok, h.w, h.seq, h.prev, ⟨h.ls.len, h.ls.row, h.ls.cap, ?_, h.ls.max, h.ls.nil⟩, ⟨h.ds.len, h.ds.cap, ?_, h.ds.max, h.ds.nil⟩, h.sg⟩
  · rw [hl]; cases B.fLinks.p <;> simp [SeesP, Sees]
  · rw [hd]; cases B.fData.p <;> simp [SeesP, Sees, Aa]
theorem blkN_know {D : DB} (hl : D.ls = []) (hd : D.ds = []) : ∀ v out w, BlkV D v out → Lies out w → BlkN D v out := fun v out w ⟨B, h1, h2, h3⟩ hw => ⟨B, h2, h1, fun W _ => any_is (h3 w hw) hl hd W⟩
theorem Held.at {B : Block} {D : DB} (h : Held [] B D) (W : World) : BlockIs W B D := h.2 W (fun b hb => by cases hb)
abbrev RowN (sl : Sl) (bl : List Blk) (rs : List Block) (ds : List DB) (n : Nat) : Prop := OwnSeq Block.cells 131 (fun _ B D => Held [] B D) 31 sl bl [] rs ds n
theorem rowN_one {B : Block} {D : DB} (h : Held [] B D) (q : Nat) : RowN ⟨some ⟨q, 0, none⟩, 1, 1⟩ [⟨q, B.cells, 31, B.cells.length⟩] [B] [D] 1 where
  acc := by
    have e : ([B].map Block.cells).flatten = B.cells := by simp
    have hl := Block.length h.1.ok
    rw [e, show B.cells.length = 1 * 131 from hl]
    exact Acc.some (n := 1) (c := 1) (size := 131) (Nat.le_refl 1) hl
  nr := rfl
  nd := rfl
  len := fun r hr => by rw [List.mem_singleton.1 hr]; exact Block.length h.1.ok
  is := fun W _ i r d hr hd => by
    match i with
    | 0 => cases hr; cases hd; exact h
    | i + 1 => simp at hr
theorem rowN_at {sl : Sl} {bl : List Blk} {rs : List Block} {ds : List DB} {n k : Nat} (h : RowN sl bl rs ds n) (hk : k < n) : ∃ (q c : Nat) (B : Block) (D : DB), sl = ⟨some ⟨q, 0, none⟩, n, c⟩ ∧ rs[k]? = some B ∧ ds[k]? = some D ∧ Held [] B D ∧ B.cells.length = 131 ∧ ∀ w, Lies bl w → Sees w q (k * 131) B.cells := by
  have hr : k < rs.length := by rw [h.nr]; exact hk
  have hd : k < ds.length := by rw [h.nd]; exact hk
  rcases h.acc with ⟨_, _, _, h0⟩ | ⟨q, c, e, _⟩
  · omega
  · refine ⟨q, c, rs[k], ds[k], e, List.getElem?_eq_getElem hr, List.getElem?_eq_getElem hd, h.is default (fun b hb => by cases hb) k _ _ (List.getElem?_eq_getElem hr) (List.getElem?_eq_getElem hd), h.len _ (List.getElem_mem hr), fun w hw => ?_⟩
    have hs := h.acc.see hw
    rw [e] at hs
    intro j v hj
    have hj2 : j < 131 := by
      have := (List.getElem?_eq_some_iff.1 hj).1
      rw [h.len _ (List.getElem_mem hr)] at this
      exact this
    have g := flatten_get 131 (rs.map Block.cells) k j rs[k].cells (fun l hl => by obtain ⟨r, hr, rfl⟩ := List.mem_map.1 hl; exact h.len r hr) (by rw [List.getElem?_map, List.getElem?_eq_getElem hr]; rfl) hj2
    rw [hj] at g
    obtain ⟨b, o, e2, this⟩ := hs (k * 131 + j) v g
    cases e2
    simpa using this
theorem rowN_snoc {sl s' : Sl} {bl bl' : List Blk} {rs : List Block} {CD : Nat → DB} {n : Nat} {r : Block} (h : RowN sl bl rs ((List.range n).map CD) n) (ha : Acc s' bl' ((rs.map Block.cells).flatten ++ r.cells) 31 (n + 1) 131) (hi : Held [] r (CD n)) : RowN s' bl' (rs ++ [r]) ((List.range (n + 1)).map CD) (n + 1) := by
  have k := OwnSeq.snoc (bl3 := []) h ha (Block.length hi.1.ok) (fun _ _ => hi)
  rw [List.range_succ, List.map_append]
  exact k
theorem rowN_D {CD : Nat → DB} {n k : Nat} {D : DB} (h : ((List.range n).map CD)[k]? = some D) : D = CD k := by
  obtain ⟨h1, h2⟩ := List.getElem?_eq_some_iff.1 h
  rw [← h2]; simp
theorem dag_add0 (x : DD) (hx : x.ok) (p : Nat) (B : Block) (D : DB) (hB : Held [] B D) (hroom : x.names.length + x.orp.length < 20000) : Meets Tryz.prog 10 [ptr p 0, agg B.cells] ((x.blks p).map (·.n)) (fun W => Lent (x.blks p) W) (AddR x p D []) := by
  have h := dag_add x hx p B D [] hB hroom
  rw [List.append_nil] at h
  exact h
theorem pm_in0 {hp l R : List Blk} {x : Blk} (h : hp.Perm ((x :: l) ++ R)) : hp.Perm (([x] ++ l) ++ R) := h
def d9 : List UInt8 := 9 :: List.replicate 31 0
theorem d9_length : d9.length = 32 := rfl

theorem dag_heads (x : DD) (hx : x.ok) (p : Nat) : Meets Tryz.prog 15 [ptr p 0] [] (fun W => Lies (x.blks p) W) (RowA x.pl.heads) := by
 intro W hW
 refine Ad Tryz.func15 J 11 Tryz.ntmps15 J (G9 ?_)
 refine .cV J J J J Body33 (dag_valid x p) (fun w h => DagSee.ext h (DagSee.lies hW)) (G3 ?_)
 refine .cond_f J J (G7 ?_)
 refine .loadE J J J Y70.h J sP ((DagSee.lies hW).at (o := 3) J) (.call4 J J J J J Body40 (dag_sortedU MH x.bH x.hds hx.hds (by have := hx.hdsn; have := hx.big; omega)) (fun w h => mblk_keep (hW _ (x.mH p)) h) ?_)
 rintro v10 out10 ⟨s10, ks, hkp, hks, rfl, hac⟩
 obtain rfl : ks = x.pl.heads := isort_eq hkp hks
 refine G3 ?_
 -- ret
 refine G2 ?_
 refine Bg (out := (out10 ++ [])) (Ao J J) (Aj sG Aq) ?_
 exact ⟨s10, rfl, by simpa using hac⟩

theorem dag_names (x : DD) (hx : x.ok) (p : Nat) : Meets Tryz.prog 14 [ptr p 0] [] (fun W => Lies (x.blks p) W) (RowA x.pl.names) := by
 intro W hW
 refine Ad Tryz.func14 J 11 Tryz.ntmps14 J (G9 ?_)
 refine .cV J J J J Body33 (dag_valid x p) (fun w h => DagSee.ext h (DagSee.lies hW)) (G3 ?_)
 refine .cond_f J J (G7 ?_)
 refine .loadE J J J Y26.h J sP ((DagSee.lies hW).at (o := 1) J) (.call4 J J J J J Body42 (cl_digs x.nm x.names (by have := hx.nm.num; have := hx.big; omega)) (fun w h => acc_rows hx.nm ((lies_keep hW h).sub (x.mnb p)) hx.n32 J (by have := hx.nm.num; have := hx.big; omega)) ?_)
 rintro v10 out10 ⟨s10, rfl, hac⟩
 have hn10 := hx.nm.num
 rw [hn10] at hac
 refine G3 ?_
 -- ret
 refine G2 ?_
 refine Bg (out := (out10 ++ [])) (Ao J J) (Aj sG Aq) ?_
 refine ⟨s10, rfl, ?_⟩
 rw [List.append_nil]
 exact hac

theorem s3B_length : s3B.length = 32 := rfl
theorem s4B_length : s4B.length = 32 := rfl
def bo9 (q : Nat) : Block := { Block.zero with fLinks := ⟨some ⟨q, 0, none⟩, 1, 1⟩ }
theorem bo9_ok (q : Nat) : (bo9 q).ok := ⟨rfl, rfl, rfl⟩
theorem bo9_is {q : Nat} {w : World} (h : Sees w q 0 (Aa d9)) : BlockIs w (bo9 q) { DB.zero with ls := [9 :: List.replicate 31 0] } := ⟨bo9_ok q, rfl, rfl, rfl, ⟨rfl, fun l hl => by rw [List.mem_singleton.1 hl]; rfl, Nat.le_refl 1, SeesP.of (by simpa [d9] using h), (by show 1 ≤ maxLen; decide), fun e => by cases e⟩, (zero_is w).ds, rfl⟩
theorem kit_seed3  : Meets Tryz.prog 57 [i64 3] [] (fun _ => True) (fun v out => v = agg (Aa s3B) ∧ out = []) := by
 intro W hW
 refine Ad Tryz.func57 J 9 Tryz.ntmps57 J (G2 ?_)
 refine .alloc (cs := (Aa (List.replicate 32 0))) J Zr22 J ?_
 intro n2 hn2 hf2
 refine G5 ?_
 refine .conv J J J Y3.h Y5.h (show Value.int .u8 (IntKind.u8.wrap 3) = u8 3 from rfl) (G1 ?_)
 refine .shrN 3 8 J J J J J dE (.conv J J J Y3.h Y5.h (show Value.int .u8 (IntKind.u8.wrap ((3 / 2 ^ 8 : Nat) : Int)) = u8 0 from rfl) (.build (cs := Aa s3B) J J J (fun w => by kernel_rfl) ?_))
 refine .sA J J J J zE Sz22 (by (simp [s3B_length]; done)) Z0 sP zU ?_
 refine G2 ?_
 -- ret
 refine G2 ?_
 refine ⟨_, [], An J J Y22 J Sz22 Z0 (by simp [s3B_length]), sP, sP, ?_, rfl⟩
 rfl

theorem kit_seed4  : Meets Tryz.prog 57 [i64 4] [] (fun _ => True) (fun v out => v = agg (Aa s4B) ∧ out = []) := by
 intro W hW
 refine Ad Tryz.func57 J 9 Tryz.ntmps57 J (G2 ?_)
 refine .alloc (cs := (Aa (List.replicate 32 0))) J Zr22 J ?_
 intro n2 hn2 hf2
 refine G5 ?_
 refine .conv J J J Y3.h Y5.h (show Value.int .u8 (IntKind.u8.wrap 4) = u8 4 from rfl) (G1 ?_)
 refine .shrN 4 8 J J J J J dE (.conv J J J Y3.h Y5.h (show Value.int .u8 (IntKind.u8.wrap ((4 / 2 ^ 8 : Nat) : Int)) = u8 0 from rfl) (.build (cs := Aa s4B) J J J (fun w => by kernel_rfl) ?_))
 refine .sA J J J J zE Sz22 (by (simp [s4B_length]; done)) Z0 sP zU ?_
 refine G2 ?_
 -- ret
 refine G2 ?_
 refine ⟨_, [], An J J Y22 J Sz22 Z0 (by simp [s4B_length]), sP, sP, ?_, rfl⟩
 rfl

theorem law_dagfull  : Meets Tryz.prog 5 [] [] (fun _ => True) (fun v out => v = .bool true ∧ out = []) := by
 intro W hW
 obtain ⟨CD, CN, Do, Df, X, XA, XB, XC, nf, l, hF, hDo, hDf, hfl, hfd, c0, cs, co, cf, hX0, hadd, haddo, horp, haddf, hadd0, hmis, hadd1, hl65, horp2, hnm2, hhd2⟩ := full_facts
 refine Ad Tryz.func5 J 152 Tryz.ntmps5 J (G8 ?_)
 refine .cV J J J J Body8 (law16_lives) tV (G3 ?_)
 refine .cond_f J J (G4 ?_)
 refine .build (cs := Block.zero.cells) J J J (fun w => by kernel_rfl) ?_
 refine .call4 J J J J J Body25 (meets_knowN (law16_signed 3 s3B J Block.zero Block.zero_ok DB.zero (CD 0) (hF 0 dE).1 kit_seed3 c0) (blkN_know (hF 0 dE).2.1 (hF 0 dE).2.2.1)) (fun w h => zero_is w) ?_
 rintro v20 out20 ⟨B0, rfl, h1⟩
 refine .mkRow (z := agg Block.zero.cells) [agg (B0).cells] (B0).cells J J J Y34.h Sz31 Block.zr J J (by intro v hv; rw [List.mem_singleton.1 hv]; exact Block.length h1.1.ok) dE (by simp [Value.cells]) ?_
 intro q21
 refine G10 ?_
 refine .loop (ι := Nat × Sl × List Blk × List Block) (fun p => ⟨[(1, p.2.1.v), (2, i64 (p.1 : Int))], (p.2.2.1 ++ [])⟩) (fun p => 1 ≤ p.1 ∧ p.1 ≤ 66 ∧ RowN p.2.1 p.2.2.1 p.2.2.2 ((List.range p.1).map CD) p.1) (fun p => 66 - p.1) ((1, ⟨some ⟨q21, 0, none⟩, 1, 1⟩, [⟨q21, B0.cells, 31, B0.cells.length⟩], [B0])) ?_ ?_ ?_
 · exact ⟨Nat.le_refl 1, (by show 1 ≤ 66; omega), rowN_one h1 q21⟩
 · exact Aw (wk1 rfl (wk1 rfl wk0)) (pm_in0 (Ab rM Aq))
 rintro ⟨k, sl, bl, rs⟩ ⟨hk1, hk66, hrow⟩
 simp only at hk1 hk66 hrow ⊢
 refine G7 ?_
 refine .condP J (fun hc1 => ?_) (fun hc1 => ?_)
 ·
  have hk2 : k < 66 := by omega
  obtain ⟨i, rfl⟩ : ∃ i, k = i + 1 := ⟨k - 1, by omega⟩
  obtain ⟨qB, cB, B, DB, eB, rB, dB, hB, lB, seeB⟩ := rowN_at hrow (k := i) oM
  subst eB
  obtain rfl := rowN_D dB
  obtain ⟨hok, hls, hds, hi32, hnm⟩ := hF i oM
  have cN := r15_Name B (CD i) hB.1.ok
  rw [hnm] at cN
  refine G8 ?_
  rw [word_nat (n := i + 1) oM]
  refine G3 ?_
  refine .idxSlP 131 J J J J J Y34.h Sz31 i oM (by show i < i + 1; omega) ?_
  refine .loadSN (n := 131) B.cells J J J Y31.h J Sz31 lB (fun w h => by simpa using seeB w (Lies.of h (by repeat (exact Bp)))) ?_
  refine .cV J J J J Body26 (cN) (fun w h => hB.at w) (.build (cs := ({ Block.zero with fSeq := UInt64.ofNat (i + 1), fPrev := CN i } : Block).cells) J J J (fun w => build_sp (UInt64.ofNat (i + 1)) (CN i) hi32 w) (.call4 J J J J J Body25 (meets_knowN (law16_signed 3 s3B J _ (sp_ok (UInt64.ofNat (i + 1)) hi32) _ (CD (i + 1)) (hF (i + 1) hk2).1 kit_seed3 (cs i hk2)) (blkN_know (hF (i + 1) hk2).2.1 (hF (i + 1) hk2).2.2.1)) (fun w h => sp_is w (UInt64.ofNat (i + 1)) hi32) ?_))
  rintro v36 out36 ⟨B2, rfl, h2⟩
  refine .mkRow (z := agg Block.zero.cells) [agg (B2).cells] (B2).cells J J J Y34.h Sz31 Block.zr J J (by intro v hv; rw [List.mem_singleton.1 hv]; exact Block.length h2.1.ok) dE (by simp [Value.cells]) ?_
  intro q37
  refine .appendAcc (z := agg Block.zero.cells) (by' := 184) (B2.cells) J J J J J Y34.h Y34.h Sz31 Block.zr (by unfold By; kernel_rfl) J hrow.acc sG (fun w h => SeesP.of (As h Z0)) (fun e => by cases e) (Block.isCell h2.1.ok) oM oM (by rw [Block.length h2.1.ok]) ?_
  intro s38 bl38 hac38
  refine G10 ?_
  exact ⟨(i + 1 + 1, s38, bl38, rs ++ [B2]), ⟨by simp only; omega, by simp only; omega, rowN_snoc hrow hac38 h2⟩, by simp only; omega, Aw (wk1 rfl (wk1 rfl wk0)) (Aj sG Aq)⟩
 have hke : k = 66 := by omega
 have hsn : sl.n = k := hrow.acc.num
 refine G7 ?_
 refine .call4 J J J J J Body23 (dag_new2) tV ?_
 rintro v39 out39 ⟨p, x0, rfl, rfl, hx0, hplx0, hnx0⟩
 refine G10 ?_
 refine .loop (ι := Nat × DD) (fun r => ⟨[(1, sl.v), (3, ptr p 0), (4, i64 (r.1 : Int))], (r.2.blks p ++ (bl ++ []))⟩) (fun r => 2 ≤ r.1 ∧ r.1 ≤ 66 ∧ r.2.ok ∧ r.2.pl = X (r.1 - 2) ∧ r.2.names.length + r.2.orp.length ≤ r.1 - 2) (fun r => 66 - r.1) ((2, x0)) ?_ ?_ ?_
 · exact ⟨Nat.le_refl 2, (by show 2 ≤ 66; omega), hx0, hplx0.trans hX0.symm, (by show x0.names.length + x0.orp.length ≤ 2 - 2; omega)⟩
 · exact Aw (wk1 rfl (wk1 rfl (wk1 rfl wk0))) (Aj sG (Aj sG Aq))
 rintro ⟨m, x⟩ ⟨hm1, hm2, hx, hplx, hnx⟩
 simp only at hm1 hm2 hx hplx hnx ⊢
 refine G9 ?_
 refine .condP J (fun hc2 => ?_) (fun hc2 => ?_)
 ·
  obtain ⟨j, rfl⟩ : ∃ j, m = j + 2 := ⟨m - 2, by omega⟩
  have hj64 : j < 64 := by omega
  obtain ⟨qB, cB, B, DB, eB, rB, dB, hB, lB, seeB⟩ := rowN_at hrow (k := j + 2) oM
  subst eB
  obtain rfl := rowN_D dB
  have ha := hadd j hj64
  rw [show j + 2 - 2 = j by omega] at hplx hnx
  refine G9 ?_
  refine .idxSlP 131 J J J J J Y34.h Sz31 (j + 2) J (by show (j + 2) < k; omega) ?_
  refine .loadSN (n := 131) B.cells J J J Y31.h J Sz31 lB (fun w h => by simpa using seeB w (Lies.of h (by repeat (first | exact Bp | refine Ca ?_ | refine in_seg ?_)))) ?_
  refine .callL (L := (x.blks p)) J J J J J Body10 (dag_add0 x hx p B (CD (j + 2)) hB oM) sG (C3 J) (fun w h => Lent.of h sG) ?_
  rintro v52 out52 ⟨x1, ⟨p52, n52, c52⟩, bl52, rfl, rfl, hx1, hac52, h3252, hplx1, hnx1⟩
  rw [hplx, ha] at hac52 h3252 hplx1 ⊢
  simp only [List.append_assoc] at hac52 h3252 hplx1 ⊢
  obtain rfl : n52 = 0 := hac52.num
  refine G10 ?_
  refine .nei J J J J (show (!decide _) = false from congrArg not (decide_eq_true (rfl))) (G3 ?_)
  refine .nei J J J J (show (!decide _) = false from congrArg not (decide_eq_true (rfl))) (G3 ?_)
  refine .cond_f J J (G9 ?_)
  refine ⟨(j + 2 + 1, x1), ⟨by simp only; omega, by simp only; omega, hx1, (by show x1.pl = X (j + 2 + 1 - 2); rw [show j + 2 + 1 - 2 = j + 1 by omega]; exact hplx1), by simp only; omega⟩, by simp only; omega, ?_⟩
  exact Aw (wk1 rfl (wk1 rfl (wk1 rfl wk0))) (Aj sG (Aj (by repeat (first | exact Cu | apply sg_seg)) Aq))
 have hme : m = 66 := by omega
 have hplx : x.pl = X 64 := by rw [hplx, hme]
 obtain ⟨qBz, cBz, Bz, DBz, eBz, rBz, dBz, hBz, lBz, seeBz⟩ := rowN_at hrow (k := 0) oM
 obtain ⟨qBy, cBy, By, DBy, eBy, rBy, dBy, hBy, lBy, seeBy⟩ := rowN_at hrow (k := 1) oM
 subst eBz
 cases eBy
 obtain rfl := rowN_D dBz
 obtain rfl := rowN_D dBy
 have lo9 : (Aa d9).length = 32 := rfl
 refine G7 ?_
 refine .build (cs := Aa d9) J J J (fun w => by kernel_rfl) ?_
 refine .mkRow (z := agg (Aa (List.replicate 32 0))) [agg (Aa d9)] (Aa d9) J J J Y26.h Sz25 Zr25 J J (by intro v hv; rw [List.mem_singleton.1 hv]; simp [Value.cells, Aa, d9_length]) dE (by simp [Value.cells, agg]) ?_
 intro q63
 refine .build (cs := (bo9 q63).cells) J J J (fun w => by kernel_rfl) ?_
 refine .call J J J J Body25 (law16_signed 4 s4B J (bo9 q63) (bo9_ok q63) _ Do hDo kit_seed4 co) (BlkV.loose Do hDo) (fun w h => bo9_is (As h Z0)) ?_
 rintro v65 out65 ⟨Bo, ho1, rfl, ho2⟩
 refine .alloc (cs := Block.zero.cells) J Block.zr J ?_
 intro n7 hn7 hf7
 refine .sA J J J J (Block.isCell (by exact ho1.ok)) Sz31 (Block.length (by exact ho1.ok)) Z0 (Block.length (by exact Block.zero_ok)) zU ?_
 refine G4 ?_
 refine .build (cs := Block.zero.cells) J J J (fun w => by kernel_rfl) ?_
 refine .call4 J J J J J Body25 (meets_knowN (law16_signed 4 s4B J Block.zero Block.zero_ok DB.zero Df (And.intro hDf trivial).1 kit_seed4 cf) (blkN_know hfl hfd)) (fun w h => zero_is w) ?_
 rintro v67 out67 ⟨Bf, rfl, hf1⟩
 refine .alloc (cs := Block.zero.cells) J Block.zr J ?_
 intro n8 hn8 hf8
 refine .sA J J J J (Block.isCell (by exact hf1.1.ok)) Sz31 (Block.length (by exact hf1.1.ok)) Z0 (Block.length (by exact Block.zero_ok)) zU ?_
 refine G6 ?_
 refine .lA J J J Y31.h J Sz31 mR (Block.length (by exact ho1.ok)) ?_
 refine .callL (L := (x.blks p ++ out65)) J J J J J Body10 (dag_add x hx p Bo Do out65 ⟨ho1, ho2⟩ oM) (sg_two sG sG) (C3 J) (fun w h => Lent.of h (sg_two sG sG)) ?_
 rintro v71 out71 ⟨x2, ⟨p71, n71, c71⟩, bl71, rfl, rfl, hx2, hac71, h3271, hplx2, hnx2⟩
 rw [hplx, haddo] at hac71 h3271 hplx2 ⊢
 simp only [List.append_assoc] at hac71 h3271 hplx2 ⊢
 obtain rfl : n71 = 0 := hac71.num
 refine G10 ?_
 refine .nei J J J J (show (!decide _) = false from congrArg not (decide_eq_true (rfl))) (G2 ?_)
 refine .call4 J J J J J Body16 (dag_orphans x2 hx2 p) (fun w h => Lies.of h (by repeat (exact Bp))) ?_
 rintro v78 out78 ⟨⟨p78, n78, c78⟩, rfl, hac78⟩
 obtain rfl : n78 = 64 := by have h9 := hac78.num; rw [hplx2, horp] at h9; exact h9
 refine G1 ?_
 refine .nei J J J J (show (!decide _) = false from congrArg not (decide_eq_true (rfl))) (G3 ?_)
 refine .cond_f J J (G6 ?_)
 refine .lA J J J Y31.h J Sz31 mR (Block.length (by exact hf1.1.ok)) ?_
 refine .callL (L := (x2.blks p)) J J J J J Body10 (dag_add0 x2 hx2 p Bf Df hf1 oM) (by repeat (first | exact Cu | apply sg_seg)) (C3 J) (fun w h => Lent.of h (by repeat (first | exact Cu | apply sg_seg))) ?_
 rintro v85 out85 ⟨x3, ⟨p85, n85, c85⟩, bl85, rfl, rfl, hx3, hac85, h3285, hplx3, hnx3⟩
 rw [hplx2, haddf] at hac85 h3285 hplx3 ⊢
 simp only [List.append_assoc] at hac85 h3285 hplx3 ⊢
 obtain rfl : n85 = 1 := hac85.num
 refine G10 ?_
 refine .nei J J J J (show (!decide _) = false from congrArg not (decide_eq_true (rfl))) (G3 ?_)
 refine .nei J J J J (show (!decide _) = false from congrArg not (decide_eq_true (rfl))) (G3 ?_)
 refine .cond_f J J (G7 ?_)
 refine .idxSlP 131 J J J J J Y34.h Sz31 0 J (by show 0 < k; omega) ?_
 refine .loadSN (n := 131) Bz.cells J J J Y31.h J Sz31 lBz (fun w h => by simpa using seeBz w (Lies.of h (by repeat (first | exact Bp | refine Ca ?_ | refine in_seg ?_)))) ?_
 refine .callL (L := (x3.blks p)) J J J J J Body10 (dag_add0 x3 hx3 p Bz (CD 0) hBz oM) sG (C3 J) (fun w h => Lent.of h sG) ?_
 rintro v100 out100 ⟨x4, ⟨p100, n100, c100⟩, bl100, rfl, rfl, hx4, hac100, h32100, hplx4, hnx4⟩
 rw [hplx3, hadd0] at hac100 h32100 hplx4 ⊢
 simp only [List.append_assoc] at hac100 h32100 hplx4 ⊢
 obtain rfl : n100 = 1 := hac100.num
 refine G10 ?_
 refine .nei J J J J (show (!decide _) = false from congrArg not (decide_eq_true (rfl))) (G3 ?_)
 refine .nei J J J J (show (!decide _) = false from congrArg not (decide_eq_true (rfl))) (G3 ?_)
 refine .call4 J J J J J Body17 (dag_missing x4 hx4 p) (fun w h => Lies.of h (by repeat (exact Bp))) ?_
 rintro v112 out112 ⟨⟨p112, n112, c112⟩, rfl, hac112⟩
 obtain rfl : n112 = 1 := by have h9 := hac112.num; rw [hplx4, hmis] at h9; exact h9
 refine G1 ?_
 refine .nei J J J J (show (!decide _) = false from congrArg not (decide_eq_true (rfl))) (G3 ?_)
 refine .cond_f J J (G6 ?_)
 refine .idxSlP 131 J J J J J Y34.h Sz31 1 J (by show 1 < k; omega) ?_
 refine .loadSN (n := 131) By.cells J J J Y31.h J Sz31 lBy (fun w h => by simpa using seeBy w (Lies.of h (by repeat (first | exact Bp | refine Ca ?_ | refine in_seg ?_)))) ?_
 refine .callL (L := (x4.blks p)) J J J J J Body10 (dag_add0 x4 hx4 p By (CD 1) hBy oM) (by repeat (first | exact Cu | apply sg_seg)) (C3 J) (fun w h => Lent.of h (by repeat (first | exact Cu | apply sg_seg))) ?_
 rintro v121 out121 ⟨x5, ⟨p121, n121, c121⟩, bl121, rfl, rfl, hx5, hac121, h32121, hplx5, hnx5⟩
 rw [hplx4, hadd1] at hac121 h32121 hplx5 ⊢
 simp only [List.append_assoc] at hac121 h32121 hplx5 ⊢
 obtain rfl : n121 = 65 := hac121.num.trans hl65
 refine G10 ?_
 refine .eqi J J J J (decide_eq_true (rfl)) (G3 ?_)
 refine .eqi J J J J (decide_eq_true (rfl)) (G3 ?_)
 refine .call4 J J J J J Body16 (dag_orphans x5 hx5 p) (fun w h => Lies.of h (by repeat (exact Bp))) ?_
 rintro v133 out133 ⟨⟨p133, n133, c133⟩, rfl, hac133⟩
 obtain rfl : n133 = 0 := by have h9 := hac133.num; rw [hplx5, horp2] at h9; exact h9
 refine G1 ?_
 refine .eqi J J J J (decide_eq_true (rfl)) (G3 ?_)
 refine .call4 J J J J J Body14 (dag_names x5 hx5 p) (fun w h => Lies.of h (by repeat (first | exact Bp | refine in_seg ?_))) ?_
 rintro v139 out139 ⟨⟨p139, n139, c139⟩, rfl, hac139⟩
 obtain rfl : n139 = 67 := by have h9 := hac139.num; rw [hplx5, hnm2] at h9; exact h9
 refine G4 ?_
 refine .eqi J J J J (decide_eq_true ((by show (67 : Int) = (k : Int) + 1; omega))) ?_
 refine G3 ?_
 refine .call4 J J J J J Body15 (dag_heads x5 hx5 p) (fun w h => Lies.of h (by repeat (first | exact Bp | refine in_seg ?_))) ?_
 rintro v148 out148 ⟨⟨p148, n148, c148⟩, rfl, hac148⟩
 obtain rfl : n148 = 2 := by have h9 := hac148.num; rw [heads_len, hplx5, hhd2] at h9; exact h9
 refine G1 ?_
 refine .eqi J J J J (decide_eq_true (rfl)) (G4 ?_)
 -- ret
 refine G2 ?_
 refine Bg (out := []) (Ao J J) Aq ?_
 exact ⟨rfl, rfl⟩
end Go.Proofs.YtfcbgdkpagcbbaaGreat
end

section
namespace Go.Proofs.YtfcbgdkpagcbbaaGreat
open Go Go.ChangeShapes Go.WideShapes Go.ChangeAt Go.RowKit

theorem ownDFuls : ownKnob Tryz.prog.godebug = none := by kernel_rfl
theorem walkDFul (w : World) : Calls Tryz.prog 5 #[] w fun e w' => e = .returned (.bool true) ∧ Below w.heap.size w w' :=
  (law_dagfull w trivial).mono fun e w' ⟨v, out, he, ⟨hv, ho⟩, hr⟩ => ⟨by rw [he, hv], Hw.Keeps.below hr.keeps⟩

theorem liftedDFul (os : Os) (started : os.Started) (H : Type) (enc : TypeId × Value → H) :
    ReturnsInHanded {} Tryz.checked os 5 .any (Rows.dagFullSpec.pre6 enc Tryz.prog Tryz.f5 Rows.dagFullRow.domain false) (Rows.dagFullSpec.post enc Tryz.prog Tryz.f5 false true false false) := by
  refine returnsInHanded_of_change (C := Tryz.checked) ownDFuls started (by kernel_rfl) Tryz.func5
    (ChangeSpec.witness6 (enc := enc) (C := Tryz.checked) false ⟨#[], #[], []⟩ 8 (by kernel_rfl) (by kernel_rfl) (by kernel_rfl) (by kernel_rfl)) ?_
  intro W base args ds gs before hval0 hW hcnd _
  have hW' := hW
  obtain ⟨p, q, hA0, hV, rfl, hfz, hnd⟩ := hW
  have hA : DataW.TrodAll enc Tryz.prog W 0 (fun _ => true) true Tryz.f5.params.toList args.toList ds p := hA0
  rw [Tryz.params5] at hA
  obtain ⟨hargs, rfl, rfl⟩ := trodAll_nil hA
  obtain rfl : args = #[] := by cases args; simp_all
  obtain ⟨rfl, rfl⟩ := trodVars_none hV
  clear hA0 hval0
  refine (walkDFul W).mono fun e W' ⟨he, bel⟩ => ?_
  subst he
  exact ⟨_, rfl, _, _, _, [], _, [], hW', trodAll_mk1 (shut_bool Tryz.underlying4 _), trodAll_mk0, rfl, bel.frame _, fun h => by cases h⟩

theorem dagFull_holds : Rows.DagFullSaid :=
  OpenClaim.holds_of_wide 5 Tryz.f5 rfl rfl rfl rfl rfl rfl rfl ⟨rfl, rfl, rfl, rfl, rfl⟩ rfl rfl rfl rfl rfl (by kernel_rfl) Tryz.func5 (by kernel_rfl)
    (of_decide_eq_true (by kernel_rfl)) (by unfold Func.isWrapper; first | (rw [if_pos (by decide +kernel)]; kernel_rfl) | (rw [if_neg (by decide +kernel)]; exact ⟨rfl, rfl⟩))
    (fun os started H enc _ => liftedDFul os started H enc)

end Go.Proofs.YtfcbgdkpagcbbaaGreat
end
