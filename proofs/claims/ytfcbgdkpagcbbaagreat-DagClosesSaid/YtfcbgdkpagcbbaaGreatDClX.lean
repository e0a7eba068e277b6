/- headwaterlaw16.DagCloses returns true at every input, and all that it reads reads behind the call as before. Conditions: none beyond the given statement's own. -/
import Derived.WalkKit
import Derived.Orders
import Derived.Deep.LoopGhost
import Derived.IntWalk
import Derived.Laws.StructEq
import Derived.ArgAppend
import Derived.Deep.AppendSrc
import Derived.Lib.Bytealg
import Derived.Lib.BytesEntry
import Derived.Laws.IdiomStrings
import Derived.WideKeyArr2
import Derived.ProofKit
import Derived.OpenShut
import Derived.Deep.Slices
import Derived.Laws.Pointers
import Derived.Laws.Cover3
import Derived.LaidEqlPtr
import Derived.LoopN
import Derived.RangeFuncLeaves
import Derived.RangeFuncSeq
import Derived.OrdersIn
import Derived.Maps.Keyed
import Derived.Maps.RangeRun
import Derived.DeepKeys4
import Derived.Below
import Derived.Test.YtfcbgdkpagcbbaaGreatRows
import Derived.KernelRfl
import Derived.Laws.Externs
import Derived.Defers
import Derived.Laws.MathBits
import Derived.Shelf.SlSortCmp.WholeK
import Derived.Shelf.SlGeneric
import Derived.Test.YtfcbgdkpagcbbaaGreatProg
import Derived.Shelf.SlSortCmp.NoneTotal
import Derived.Deep.QuietTactic
import Derived.BigQuiet
import Derived.ScopeJumps
import Derived.DeepKeys3
import Derived.ChangeOld
import Derived.Test.YtfcbgdkpagcbbaaGreatDClX5
set_option maxRecDepth 100000
set_option maxHeartbeats 8000000
set_option linter.unusedVariables false
set_option linter.unusedSimpArgs false
set_option linter.unusedSectionVars false
set_option linter.unnecessarySimpa false
section
namespace Go.Proofs.YtfcbgdkpagcbbaaGreat
open Go Hw

def PD.heads (X : PD) : List (List UInt8) := isort (X.hds.map (·.1))
theorem heads_len (X : PD) : X.heads.length = X.hds.length := by unfold PD.heads; rw [(isort_perm _).length_eq, List.length_map]
theorem Held.at {B : Block} {D : DB} (h : Held [] B D) (W : World) : BlockIs W B D := h.2 W (fun b hb => by cases hb)
theorem pm_in0 {hp l R : List Blk} {x : Blk} (h : hp.Perm ((x :: l) ++ R)) : hp.Perm (([x] ++ l) ++ R) := h
theorem dag_heads (x : DD) (hx : x.ok) (p : Nat) : Meets Tryz.prog 15 [ptr p 0] [] (fun W => Lies (x.blks p) W) (RowA x.pl.heads) := by
 intro W hW
 refine Ad Tryz.func15 J 11 Tryz.ntmps15 J (G9 ?_)
 refine .cV J J J J Body33 (dag_valid x p) (fun w h => DagSee.ext h (DagSee.lies hW)) (G3 ?_)
 refine .cond_f J J (G7 ?_)
 refine .loadE J J J Y70.h J sP ((DagSee.lies hW).at (o := 3) J) (.call4 J J J J J Body40 (dag_sortedU MH x.bH x.hds hx.hds (by have := hx.hdsn; have := hx.big; omega)) (fun w h => mblk_keep (hW _ (x.mH p)) h) ?_)
 rintro v10 out10 ⟨s10, ks, hkp, hks, rfl, hac⟩
 obtain rfl : ks = x.pl.heads := isort_eq hkp hks
 refine G3 ?_
 -- ret
 refine G2 ?_
 refine A1 (out := (out10 ++ [])) (An J J) (Ac sG Aj) ?_
 exact ⟨s10, rfl, by simpa using hac⟩

theorem dag_names (x : DD) (hx : x.ok) (p : Nat) : Meets Tryz.prog 14 [ptr p 0] [] (fun W => Lies (x.blks p) W) (RowA x.pl.names) := by
 intro W hW
 refine Ad Tryz.func14 J 11 Tryz.ntmps14 J (G9 ?_)
 refine .cV J J J J Body33 (dag_valid x p) (fun w h => DagSee.ext h (DagSee.lies hW)) (G3 ?_)
 refine .cond_f J J (G7 ?_)
 refine .loadE J J J Y26.h J sP ((DagSee.lies hW).at (o := 1) J) (.call4 J J J J J Body42 (cl_digs x.nm x.names (by have := hx.nm.num; have := hx.big; omega)) (fun w h => acc_rows hx.nm ((lies_keep hW h).sub (x.mnb p)) hx.n32 J (by have := hx.nm.num; have := hx.big; omega)) ?_)
 rintro v10 out10 ⟨s10, rfl, hac⟩
 have hn10 := hx.nm.num
 rw [hn10] at hac
 refine G3 ?_
 -- ret
 refine G2 ?_
 refine A1 (out := (out10 ++ [])) (An J J) (Ac sG Aj) ?_
 refine ⟨s10, rfl, ?_⟩
 rw [List.append_nil]
 exact hac


inductive PD.Reach (X : PD) (above : Int) (L : List (List UInt8)) : List UInt8 → Prop
  | base {n : List UInt8} {D : DB} (h : n ∈ L) (hP : Au X.P n = some D) (hd : above < (Au X.dep n).getD 0) : Reach X above L n
  | step {m n : List UInt8} {D E : DB} (h : Reach X above L m) (hP : Au X.P m = some D) (hn : n ∈ Bn D) (hE : Au X.P n = some E) (hd : above < (Au X.dep n).getD 0) : Reach X above L n
def PD.Edge (X : PD) (L : List (List UInt8)) (ms : List (List UInt8 × Unit)) (n : List UInt8) : Prop := n ∈ L ∨ ∃ m D, m ∈ ms.map (·.1) ∧ Au X.P m = some D ∧ n ∈ Bn D
def cntW : List (List UInt8 × DB) → List (List UInt8 × Unit) → Nat
  | [], _ => 0
  | p :: P, ms => (if (Au ms p.1).isSome = true then 0 else 1) + cntW P ms
theorem put_some {ms : List (List UInt8 × Unit)} {n : List UInt8} (h : Au ms n = none) (k : List UInt8) : (Au (Bg ms n ()) k).isSome = (decide (n = k) || (Au ms k).isSome) := by
  by_cases e : n = k
  · subst e; rw [mget_new h]; simp
  · rw [mget_old h _ e]; simp [e]
theorem cnt_le {ms : List (List UInt8 × Unit)} {n : List UInt8} (h : Au ms n = none) : ∀ P : List (List UInt8 × DB), cntW P (Bg ms n ()) ≤ cntW P ms
  | [] => Nat.le_refl _
  | p :: P => by
    have ih := cnt_le h P
    have h1 : (if (decide (n = p.1) || (Au ms p.1).isSome) = true then 0 else 1) ≤ (if (Au ms p.1).isSome = true then 0 else 1) := by
      cases (Au ms p.1).isSome <;> cases decide (n = p.1) <;> decide
    rw [cntW, cntW, put_some h]
    omega
theorem cnt_put {ms : List (List UInt8 × Unit)} {n : List UInt8} (h : Au ms n = none) : ∀ P : List (List UInt8 × DB), n ∈ P.map (·.1) → cntW P (Bg ms n ()) + 1 ≤ cntW P ms
  | [], hn => by cases hn
  | p :: P, hn => by
    have hle := cnt_le h P
    rw [cntW, cntW, put_some h]
    by_cases e : n = p.1
    · rw [← e, h, decide_eq_true rfl, if_pos (by rfl), if_neg sP]
      omega
    · have hn2 : n ∈ P.map (·.1) := by
        rcases List.mem_cons.1 hn with h3 | h3
        · exact absurd h3 e
        · exact h3
      have ih := cnt_put h P hn2
      rw [decide_eq_false e, Bool.false_or]
      omega
theorem cnt_nil : ∀ P : List (List UInt8 × DB), cntW P [] = P.length
  | [] => rfl
  | p :: P => by
    have h : Au ([] : List (List UInt8 × Unit)) p.1 = none := rfl
    rw [cntW, cnt_nil P, h, List.length_cons]
    simp
    omega
structure WalkI (X : PD) (above : Int) (L : List (List UInt8)) (ms : List (List UInt8 × Unit)) (st : List (List UInt8)) : Prop where
  r32 : ∀ q ∈ ms, q.1.length = 32
  s32 : ∀ n ∈ st, n.length = 32
  nd : (ms.map (·.1)).Nodup
  snd : ∀ n ∈ ms.map (·.1), X.Reach above L n
  sub : ∀ n ∈ st, X.Edge L ms n
  cov : ∀ n, X.Edge L ms n → n ∈ st ∨ n ∈ ms.map (·.1) ∨ Au X.P n = none ∨ (Au X.dep n).getD 0 ≤ above
  cnt : ms.length + cntW X.P ms ≤ X.P.length
  len : st.length + 17 * cntW X.P ms ≤ L.length + 17 * X.P.length
theorem WalkI.start (X : PD) (above : Int) {L : List (List UInt8)} (h : ∀ n ∈ L, n.length = 32) : WalkI X above L [] L where
  r32 := fun q hq => by cases hq
  s32 := h
  nd := List.nodup_nil
  snd := fun n hn => by cases hn
  sub := fun n hn => .inl hn
  cov := fun n hn => by
    rcases hn with hn | ⟨m, D, hm, _⟩
    · exact .inl hn
    · cases hm
  cnt := by rw [cnt_nil]; exact Nat.le_of_eq (Nat.zero_add _)
  len := by rw [cnt_nil]; exact Nat.le_refl _
theorem WalkI.pass {X : PD} {above : Int} {L : List (List UInt8)} {ms : List (List UInt8 × Unit)} {st : List (List UInt8)} {n : List UInt8} (h : WalkI X above L ms (st ++ [n])) (hn : n ∈ ms.map (·.1) ∨ Au X.P n = none ∨ (Au X.dep n).getD 0 ≤ above) : WalkI X above L ms st := { h with
  s32 := fun m hm => h.s32 m (List.mem_append_left _ hm)
  sub := fun m hm => h.sub m (List.mem_append_left _ hm)
  cov := fun m hm => by
    rcases h.cov m hm with h1 | h1
    · rcases List.mem_append.1 h1 with h2 | h2
      · exact .inl h2
      · rw [List.mem_singleton.1 h2]; exact .inr hn
    · exact .inr h1
  len := by have := h.len; rw [List.length_append, List.length_singleton] at this; omega }
theorem keys_in {X : PD} {n : List UInt8} {D : DB} (h : Au X.P n = some D) : n ∈ X.P.map (·.1) := List.mem_map.2 ⟨(n, D), B5 h, rfl⟩
theorem WalkI.meet {X : PD} {above : Int} {L : List (List UInt8)} {ms : List (List UInt8 × Unit)} {st : List (List UInt8)} {n : List UInt8} {D : DB} (h : WalkI X above L ms (st ++ [n])) (hm : Au ms n = none) (hP : Au X.P n = some D) (hd : above < (Au X.dep n).getD 0) (hpar : ∀ l ∈ Bn D, l.length = 32) (h17 : (Bn D).length ≤ 17) : WalkI X above L (Bg ms n ()) (st ++ Bn D) where
  r32 := fun q hq => by
    rcases mput_mem hq with hq | rfl
    · exact h.r32 q hq
    · exact h.s32 n (List.mem_append_right _ (List.mem_singleton.2 rfl))
  s32 := fun m hm2 => by
    rcases List.mem_append.1 hm2 with h1 | h1
    · exact h.s32 m (List.mem_append_left _ h1)
    · exact hpar m h1
  nd := mput_nodup h.nd n ()
  snd := fun m hm2 => by
    rcases (keys_put ms n () m).1 hm2 with h1 | rfl
    · exact h.snd m h1
    · rcases h.sub m (List.mem_append_right _ (List.mem_singleton.2 rfl)) with h1 | ⟨k, E, hk, hE, hn⟩
      · exact .base h1 hP hd
      · exact .step (h.snd k hk) hE hn hP hd
  sub := fun m hm2 => by
    rcases List.mem_append.1 hm2 with h1 | h1
    · rcases h.sub m (List.mem_append_left _ h1) with h2 | ⟨k, E, hk, hE, hn⟩
      · exact .inl h2
      · exact .inr ⟨k, E, (keys_put ms n () k).2 (.inl hk), hE, hn⟩
    · exact .inr ⟨n, D, (keys_put ms n () n).2 (.inr rfl), hP, h1⟩
  cov := fun m hm2 => by
    have old : X.Edge L ms m → m ∈ st ++ Bn D ∨ m ∈ (Bg ms n ()).map (·.1) ∨ Au X.P m = none ∨ (Au X.dep m).getD 0 ≤ above := fun he => by
      rcases h.cov m he with h1 | h1 | h1
      · rcases List.mem_append.1 h1 with h2 | h2
        · exact .inl (List.mem_append_left _ h2)
        · exact .inr (.inl ((keys_put ms n () m).2 (.inr (List.mem_singleton.1 h2))))
      · exact .inr (.inl ((keys_put ms n () m).2 (.inl h1)))
      · exact .inr (.inr h1)
    rcases hm2 with h1 | ⟨k, E, hk, hE, hn⟩
    · exact old (.inl h1)
    · rcases (keys_put ms n () k).1 hk with h1 | rfl
      · exact old (.inr ⟨k, E, h1, hE, hn⟩)
      · rw [hP] at hE
        rw [← Option.some.inj hE] at hn
        exact .inl (List.mem_append_right _ hn)
  cnt := by
    have h1 := h.cnt
    have h2 := cnt_put hm X.P (keys_in hP)
    have h3 := mput_len ms n ()
    omega
  len := by
    have h1 := h.len
    have h2 := cnt_put hm X.P (keys_in hP)
    rw [List.length_append, List.length_singleton] at h1
    rw [List.length_append]
    omega
theorem WalkI.fin {X : PD} {above : Int} {L : List (List UInt8)} {ms : List (List UInt8 × Unit)} (h : WalkI X above L ms []) (n : List UInt8) : n ∈ ms.map (·.1) ↔ X.Reach above L n := by
  refine ⟨h.snd n, fun hr => ?_⟩
  have key : ∀ {n D}, X.Edge L ms n → Au X.P n = some D → above < (Au X.dep n).getD 0 → n ∈ ms.map (·.1) := fun {n D} he hP hd => by
    rcases h.cov n he with h1 | h1 | h1 | h1
    · cases h1
    · exact h1
    · rw [hP] at h1; cases h1
    · omega
  induction hr with
  | base h1 hP hd => exact key (.inl h1) hP hd
  | step h1 hP hn hE hd ih => exact key (.inr ⟨_, _, ih, hP, hn⟩) hE hd
theorem DD.getDep (x : DD) (k : List UInt8) : Au x.pl.dep k = (Au x.ent k).map (fun e => e.1.fDepth) := mget_map (fun e : EV => e.1.fDepth) x.ent k
theorem DD.atP {x : DD} {n : List UInt8} {e : EV} (h : Au x.ent n = some e) : Au x.pl.P n = some e.2 ∧ (Au x.pl.dep n).getD 0 = e.1.fDepth := ⟨by rw [show x.pl.P = x.P from rfl, x.getP, h]; rfl, by rw [x.getDep, h]; rfl⟩
theorem DD.noP {x : DD} {n : List UInt8} (h : Au x.ent n = none) : Au x.pl.P n = none := by rw [show x.pl.P = x.P from rfl, x.getP, h]; rfl
theorem mget_keys {ms : List (List UInt8 × Unit)} {n : List UInt8} (h : Au ms n = some ()) : n ∈ ms.map (·.1) := List.mem_map.2 ⟨(n, ()), B5 h, rfl⟩
def WalkR (X : PD) (above : Int) (L : List (List UInt8)) (v : Value) (out : List Blk) : Prop := ∃ (m : Nat) (ms : List (List UInt8 × Unit)), v = .map (some m) ∧ out = [Aw m (Am 32 evU) ms] ∧ WalkI X above L ms []

theorem sees_last {w : World} {b : Nat} {st : List (List UInt8)} {kk : List UInt8} (h : ∀ l ∈ st ++ [kk], l.length = 32) (hs : Sees w b 0 (A2 (st ++ [kk]))) : Sees w b (0 + st.length * 32) (Aa kk) := by
  have := sees_row h hs (k := st.length) sP
  simpa [List.getD_eq_getElem?_getD] using this

theorem dag_walk (x : DD) (hx : x.ok) (h16 : ∀ p ∈ x.P, p.2.ls.length ≤ 16) (p : Nat) (s0 : Sl) (L : List (List UInt8)) (hL : s0.n ≤ 90000) (above : Int) : Meets Tryz.prog 41 [ptr p 0, s0.v, i64 above] [] (fun W => Lies (x.blks p) W ∧ RowsAt W s0 32 L) (WalkR x.pl above L) := by
 intro W hW
 have hlies := hW.1
 have hd := DagSee.lies hW.1
 have hbig := hx.big
 have hen := hx.entn
 have hPl : x.pl.P.length = x.ent.length := by show (x.ent.map _).length = _; rw [List.length_map]
 have hL2 := hW.2.len
 refine Ad Tryz.func41 J 66 Tryz.ntmps41 J (G7 ?_)
 refine .mkMap (Am 32 evU) J J ?_
 intro m14
 refine G6 ?_
 refine .call4 J J J J J Body42 (cl_digs s0 L hL) (fun w h => rows_ext h J hW.2) ?_
 rintro v16 out16 ⟨s16, rfl, hac16⟩
 have hn16 := hac16.num
 refine G5 ?_
 refine .loop (ι := List (List UInt8 × Unit) × List (List UInt8) × Sl × List Blk) (fun r => ⟨[(0, ptr p 0), (2, i64 above), (7, .map (some m14)), (8, r.2.2.1.v)], (Aw m14 (Am 32 evU) r.1 :: (r.2.2.2 ++ []))⟩) (fun r => WalkI x.pl above L r.1 r.2.1 ∧ Hw.Acc r.2.2.1 r.2.2.2 (A2 r.2.1) 25 r.2.1.length 32) (fun r => r.2.1.length + 18 * cntW x.pl.P r.1) (([], L, s16, out16)) ?_ ?_ ?_
 · exact ⟨WalkI.start x.pl above hW.2.row, (by simp only; rw [hL2]; exact hac16)⟩
 · exact Al (wk1 rfl (wk1 rfl (wk1 rfl (wk1 rfl wk0)))) (Ab (by repeat (first | exact A8 | apply Cl)) (Ac sG Aj))
 rintro ⟨ms, st, sl, bl⟩ ⟨hI, hac⟩
 simp only at hI hac ⊢
 have hsn := hac.num
 refine G8 ?_
 refine .condP J (fun hc0 => ?_) (fun hc0 => ?_)
 ·
  have hpos : 0 < st.length := by omega
  obtain ⟨st2, kk, rfl⟩ := snoc_of hpos
  have hlen : (st2 ++ [kk]).length = st2.length + 1 := by simp
  have hmx := hI.len
  obtain ⟨NN, hNN⟩ : ∃ NN, NN = (st2 ++ [kk]).length := ⟨_, rfl⟩
  rw [← hNN] at hac
  have h32k : kk.length = 32 := hI.s32 kk sP
  have hlast := fun (w : World) (b : Nat) => sees_last (w := w) (b := b) hI.s32
  rcases hac with ⟨_, _, _, h0⟩ | ⟨qr, cr, rfl, hnc, hfl, rfl⟩
  · exfalso; omega
  refine G9 ?_
  refine .idxSlP 32 J J J J J Y26.h Sz25 st2.length (by show (NN : Int) - 1 = (st2.length : Int); omega) (by show st2.length < NN; omega) ?_
  refine .loadSN (n := 32) (Aa kk) J J J Y25.h J Sz25 (by rw [Aa, List.length_map]; exact h32k) (fun w h => hlast w qr (As h Z1)) ?_
  refine .alloc (cs := (Aa (List.replicate 32 0))) J Zr25 J ?_
  intro n9 hn9 hf9
  refine .sA J J J J zE Sz25 (by (simp [h32k]; done)) Z0 sP zU ?_
  refine G8 ?_
  refine .sliceHiA ⟨some ⟨qr, 0, none⟩, NN, cr⟩ st2.length J J J J (by show (NN : Int) - 1 = (st2.length : Int); omega) (by show st2.length ≤ cr; omega) Y26.h Sz25 ?_
  refine G4 ?_
  rw [flatB_append]
  refine .trunc (q := qr) rM ?_
  have hacn : Hw.Acc ⟨some ⟨qr, 0, none⟩, st2.length, cr⟩ [⟨qr, A2 st2, 25, cr * 32⟩] (A2 st2) 25 st2.length 32 := Acc.some oM (A9 (fun l hl => hI.s32 l (List.mem_append_left _ hl)))
  refine .draw [(0, 0), (0, 1), (0, 2), (1, 3), (1, 4), (1, 5), (0, 6), (0, 7), (0, 8), (2, 9), (4, 10), (0, 11)] Aq zK (G3 ?_)
  refine .loadE J J J Y69.h J sP (hd.at (o := 2) J) (.lA J J J Y25.h J Sz25 Z1 (by (simp [h32k]; done)) ?_)
  refine .lookFC evE ME hd.2 sP J J J J h32k (fun hg => ?_) (fun e hg => ?_)
  ·
   skip
   refine G3 ?_
   refine .alloc (cs := DEnt.zero.cells) J DEnt.zr J ?_
   intro n10 hn10 hf10
   refine G8 ?_
   refine .lA J J J Y25.h J Sz25 Z2 (by (simp [h32k]; done)) ?_
   refine .lookF evU MH J J J J h32k Z3 (fun hg2 => ?_) (fun e2 hg2 => ?_)
   ·
    skip
    refine G3 ?_
    refine .alloc (cs := []) J Zr82 J ?_
    intro n12 hn12 hf12
    refine .sA J J J J zB Sz82 sP Z0 sP zU ?_
    refine G18 ?_
    refine .cond_t J J (G4 ?_)
    (refine ⟨(ms, st2, ⟨some ⟨qr, 0, none⟩, st2.length, cr⟩, [⟨qr, A2 st2, 25, cr * 32⟩]), ⟨hI.pass (by exact .inr (.inl (DD.noP hg))), hacn⟩, (by simp only [List.length_append, List.length_singleton]; omega), ?_⟩; exact Al (wk1 rfl (wk1 rfl (wk1 rfl (wk1 rfl wk0)))) (Ab rM (pm_in0 (Ab rM Aj))))
   skip
   refine G3 ?_
   refine .alloc (cs := []) J Zr82 J ?_
   intro n12 hn12 hf12
   refine .sA J J J J zB Sz82 sP Z0 sP zU ?_
   refine G18 ?_
   refine .cond_t J J (G4 ?_)
   (refine ⟨(ms, st2, ⟨some ⟨qr, 0, none⟩, st2.length, cr⟩, [⟨qr, A2 st2, 25, cr * 32⟩]), ⟨hI.pass (by exact .inl (mget_keys hg2)), hacn⟩, (by simp only [List.length_append, List.length_singleton]; omega), ?_⟩; exact Al (wk1 rfl (wk1 rfl (wk1 rfl (wk1 rfl wk0)))) (Ab rM (pm_in0 (Ab rM Aj))))
  have hP := (DD.atP hg).1
  have hdp := (DD.atP hg).2
  have h16e : e.2.ls.length ≤ 16 := h16 _ (List.mem_map.2 ⟨_, B5 hg, rfl⟩)
  have h17 : (Bn e.2).length ≤ 17 := by have := parL_len e.2; omega
  have hprow := parL_row ((hx.ent _ (B5 hg)).2.1.2 W (hlies.sub (x.mcb p))).dok
  refine G3 ?_
  refine .alloc (cs := DEnt.zero.cells) J DEnt.zr J ?_
  intro n10 hn10 hf10
  refine .sA J J J J (DEnt.isCell (by exact hx.entOk hg)) Sz79 (DEnt.length (by exact hx.entOk hg)) Z0 (DEnt.length (by exact DEnt.zero_ok)) zU ?_
  refine G7 ?_
  refine .lA J J J Y25.h J Sz25 Z2 (by (simp [h32k]; done)) ?_
  refine .lookF evU MH J J J J h32k Z3 (fun hg2 => ?_) (fun e2 hg2 => ?_)
  ·
   skip
   refine G3 ?_
   refine .alloc (cs := []) J Zr82 J ?_
   intro n12 hn12 hf12
   refine .sA J J J J zB Sz82 sP Z0 sP zU ?_
   refine G12 ?_
   refine .load1 J J J Y3.h J Z1 (DEnt.get_fDepth (hx.entOk hg)) ?_
   refine G5 ?_
   refine .condP J (fun hc1 => ?_) (fun hc1 => ?_)
   ·
    refine G4 ?_
    (refine ⟨(ms, st2, ⟨some ⟨qr, 0, none⟩, st2.length, cr⟩, [⟨qr, A2 st2, 25, cr * 32⟩]), ⟨hI.pass (by exact .inr (.inr (by rw [(DD.atP hg).2]; omega))), hacn⟩, (by simp only [List.length_append, List.length_singleton]; omega), ?_⟩; exact Al (wk1 rfl (wk1 rfl (wk1 rfl (wk1 rfl wk0)))) (Ab rM (pm_in0 (Ab rM Aj))))
   refine G5 ?_
   refine .lA J J J Y25.h J Sz25 Z3 (by (simp [h32k]; done)) ?_
   refine .build (cs := []) J J J (fun w => by kernel_rfl) ?_
   refine .mapPut (v := ()) MH J J J J J h32k rM ?_
   refine G5 ?_
   refine .lN (Block.cells _) J J J Y31.h J Sz31 Z2 (DEnt.row_fBlock (by exact hx.entOk hg)) (DEnt.rl_fBlock (by exact hx.entOk hg)) ?_
   refine .call4 J J J J J Body44 (db_parA e.1.fBlock e.2 oM) (fun w h => (hx.ent _ (B5 hg)).2.1.2 w ((lies_keep hlies h).sub (x.mcb p))) ?_
   rintro v63 out63 ⟨⟨p63, n63, c63⟩, rfl, hac63⟩
   have hn63 : n63 = (Bn e.2).length := hac63.num
   refine .appendAcc (n := st2.length) (z := agg (Aa (List.replicate 32 0))) (by' := 32) (A2 (Bn e.2)) J J J J J Y26.h Y26.h Sz25 Zr25 (by unfold By; kernel_rfl) J hacn rM (fun w h => hac63.see (Lies.of h (by repeat (exact Ay)))) (fun e => hac63.nil e) (flatB_cell _) (by show st2.length + n63 ≤ 1000000; omega) (by show (st2.length + n63) * 32 ≤ 140737488355328; omega) (by rw [A9 hprow, ← hn63]) ?_
   intro s64 bl64 hac64
   refine G4 ?_
   (refine ⟨(Bg ms kk (), st2 ++ Bn e.2, s64, bl64), ⟨hI.meet hg2 hP (by rw [hdp]; omega) hprow h17, by simp only; rw [flatB_append, List.length_append, ← hn63]; exact hac64⟩, (by have := cnt_put hg2 x.pl.P (keys_in hP); simp only [List.length_append, List.length_singleton]; omega), ?_⟩; exact Al (wk1 rfl (wk1 rfl (wk1 rfl (wk1 rfl wk0)))) (Ab (by repeat (first | exact A8 | apply Cl)) (Ac sG Aj)))
  skip
  refine G3 ?_
  refine .alloc (cs := []) J Zr82 J ?_
  intro n12 hn12 hf12
  refine .sA J J J J zB Sz82 sP Z0 sP zU ?_
  refine G18 ?_
  refine .cond_t J J (G4 ?_)
  (refine ⟨(ms, st2, ⟨some ⟨qr, 0, none⟩, st2.length, cr⟩, [⟨qr, A2 st2, 25, cr * 32⟩]), ⟨hI.pass (by exact .inl (mget_keys hg2)), hacn⟩, (by simp only [List.length_append, List.length_singleton]; omega), ?_⟩; exact Al (wk1 rfl (wk1 rfl (wk1 rfl (wk1 rfl wk0)))) (Ab rM (pm_in0 (Ab rM Aj))))
 obtain rfl : st = [] := List.eq_nil_of_length_eq_zero oM
 refine G11 ?_
 -- ret
 refine G2 ?_
 refine A1 (out := (Aw m14 (Am 32 evU) ms :: [])) (An J J) (Ab rM Aj) ?_
 exact ⟨m14, ms, rfl, rfl, hI⟩
theorem WalkR.keys {X : PD} {above : Int} {L : List (List UInt8)} {ms : List (List UInt8 × Unit)} {ks : List (List UInt8)} (h : WalkI X above L ms []) (hp : ks.Perm (ms.map (·.1))) : ks.Nodup ∧ ∀ n, n ∈ ks ↔ X.Reach above L n := ⟨hp.nodup_iff.2 h.nd, fun n => hp.mem_iff.trans (h.fin n)⟩
def ClosR (X : PD) (L : List (List UInt8)) (v : Value) (out : List Blk) : Prop :=
  (∃ n ∈ L, Au X.P n = none) ∧ v = .tuple #[.slice none 0 0, i64 6] ∧ out = []
  ∨ (∀ n ∈ L, (Au X.P n).isSome = true) ∧ ∃ (s : Sl) (ks : List (List UInt8)), v = .tuple #[s.v, i64 0] ∧ Hw.Acc s out (A2 ks) 25 ks.length 32 ∧ SortB ks ∧ ks.Nodup ∧ ∀ n, n ∈ ks ↔ X.Reach (-1) L n
theorem has_P (x : DD) (n : List UInt8) : (Au x.pl.P n).isSome = (Au x.ent n).isSome := by rw [show x.pl.P = x.P from rfl, x.getP, Option.isSome_map]

theorem dag_closure (x : DD) (hx : x.ok) (h16 : ∀ p ∈ x.P, p.2.ls.length ≤ 16) (p : Nat) (s0 : Sl) (L : List (List UInt8)) (hL : s0.n ≤ 90000) : Meets Tryz.prog 12 [ptr p 0, s0.v] [] (fun W => Lies (x.blks p) W ∧ RowsAt W s0 32 L) (ClosR x.pl L) := by
  intro W hW
  have hlies := hW.1
  have hd := DagSee.lies hW.1
  have hbig := hx.big
  have hen := hx.entn
  have hPl : x.pl.P.length = x.ent.length := by show (x.ent.map _).length = _; rw [List.length_map]
  have hL2 := hW.2.len
  refine Ad Tryz.func12 J 26 Tryz.ntmps12 J (G10 ?_)
  refine .cV J J J J Body33 (dag_valid x p) (fun w h => hd.ext h) (G3 ?_)
  refine .cond_f J J (G11 ?_)
  refine .loop (ι := Nat) (fun k => ⟨[(0, ptr p 0), (1, s0.v), (11, s0.v), (12, i64 (s0.n : Int)), (13, i64 (k : Int))], []⟩) (fun k => k ≤ s0.n ∧ ∀ j, j < k → (Au x.pl.P (L.getD j [])).isSome = true) (fun k => s0.n - k) (0) ?_ ?_ ?_
  · exact ⟨Nat.zero_le _, fun j hj => by omega⟩
  · exact Al (wk1 rfl (wk1 rfl (wk1 rfl (wk1 rfl (wk1 rfl wk0))))) Aj
  rintro k ⟨hk, hall⟩
  refine G6 ?_
  refine .condP J (fun hc1 => ?_) (fun hc1 => ?_)
  ·
    have hk2 : k < s0.n := by omega
    refine G6 ?_
    obtain ⟨kk, hkk⟩ : ∃ kk, kk = L.getD k [] := ⟨_, rfl⟩
    have h32k : kk.length = 32 := by rw [hkk, List.getD_eq_getElem?_getD, List.getElem?_eq_getElem oM]; exact hW.2.row _ (List.getElem_mem oM)
    obtain ⟨b0, o0, hs0, hsee0⟩ := hW.2.see.at (by rw [show (L.map Aa).flatten = A2 L from rfl, A9 hW.2.row]; omega)
    refine .idxSlP 32 J J J hs0 J Y26.h Sz25 k J oM (.loadSN (n := 32) (Aa kk) J J J Y25.h J Sz25 (by rw [Aa, List.length_map]; exact h32k) (fun w h => by rw [hkk]; exact sees_row hW.2.row (fun j v hj => h.keeps.cell (p := ⟨b0, o0 + j, none⟩) sP (hsee0 j v hj)) oM) ?_)
    refine .alloc (cs := (Aa (List.replicate 32 0))) J Zr25 J ?_
    intro n7 hn7 hf7
    refine .sA J J J J zE Sz25 (by (simp [h32k]; done)) Z0 sP zU ?_
    refine G5 ?_
    refine .lA J J J Y25.h J Sz25 Z0 (by (simp [h32k]; done)) ?_
    refine .cV J J J J Body13 (dag_has x hx p kk h32k) (fun w h => hd.ext h) (G3 ?_)
    refine .cond J (fun hc2 => ?_) (fun hc2 => ?_)
    ·
      refine G6 ?_
      -- ret
      refine G7 ?_
      refine A1 (out := []) (res_tmp2 J J J) Aj (.inl ⟨⟨kk, ?_, ?_⟩, rfl, rfl⟩)
      · rw [hkk, List.getD_eq_getElem?_getD, List.getElem?_eq_getElem oM]
        exact List.getElem_mem oM
      · cases h9 : Au x.ent kk with
        | none => exact DD.noP h9
        | some e => rw [h9] at hc2; simp at hc2
    refine G8 ?_
    exact ⟨k + 1, ⟨by omega, fun j hj => by rcases Nat.lt_or_eq_of_le (Nat.le_of_lt_succ hj) with h | h; exact hall j h; rw [h, ← hkk, has_P]; simpa using hc2⟩, by omega, Al (wk1 rfl (wk1 rfl (wk1 rfl (wk1 rfl (wk1 rfl wk0))))) Aj⟩
  have hke : k = s0.n := by omega
  refine G9 ?_
  refine .call4 J J J J J Body41 (dag_walk x hx h16 p s0 L hL (-1)) (fun w h => ⟨lies_keep hlies h, rows_ext h J hW.2⟩) ?_
  rintro v24 out24 ⟨m24, ms, rfl, rfl, hI⟩
  have hmc := hI.cnt
  refine .call4 J J J J J Body40 (dag_sortedU MH m24 ms hI.r32 oM) (fun w h => h.cells _ Z0) ?_
  rintro v25 out25 ⟨s25, ks, hkp, hks, rfl, hac⟩
  have hwk := WalkR.keys hI hkp
  refine G4 ?_
  -- ret
  refine G2 ?_
  refine A1 (out := (out25 ++ [])) (res_tmp2 J J J) (Ac sG Aj) ?_
  refine .inr ⟨fun n hn => ?_, s25, ks, rfl, by simpa using hac, hks, hwk.1, hwk.2⟩
  obtain ⟨j, hj, rfl⟩ := List.getElem_of_mem hn
  have h9 := hall j oM
  rwa [List.getD_eq_getElem?_getD, List.getElem?_eq_getElem hj] at h9

theorem mem_erase_nd {α : Type} {l : List α} (h : l.Nodup) {j : Nat} (hj : j < l.length) (n : α) : n ∈ l.eraseIdx j ↔ n ≠ l[j] ∧ n ∈ l := by
  rw [List.eraseIdx_eq_take_drop_succ, List.mem_append]
  have e : l = l.take j ++ l[j] :: l.drop (j + 1) := by rw [← List.drop_eq_getElem_cons hj, List.take_append_drop]
  generalize hx : l[j] = x at *
  have h2 := h
  rw [e] at h2
  obtain ⟨h3, h4, h5⟩ := List.nodup_append.1 h2
  have h6 := (List.nodup_cons.1 h4).1
  constructor
  · rintro (h1 | h1)
    · exact ⟨fun e2 => h5 n h1 x List.mem_cons_self e2, List.mem_of_mem_take h1⟩
    · exact ⟨fun e2 => h6 (e2 ▸ h1), List.mem_of_mem_drop h1⟩
  · rintro ⟨h1, h7⟩
    rw [e, List.mem_append, List.mem_cons] at h7
    rcases h7 with h7 | h7 | h7
    · exact .inl h7
    · exact absurd h7 h1
    · exact .inr h7
theorem map_erase {α β : Type} (f : α → β) (l : List α) (j : Nat) : (l.eraseIdx j).map f = (l.map f).eraseIdx j := by
  rw [List.eraseIdx_eq_take_drop_succ, List.eraseIdx_eq_take_drop_succ, List.map_append, List.map_take, List.map_drop]
theorem mdel_keys {κ ν : Type} [DecidableEq κ] {fs : List (κ × ν)} (hn : (fs.map (·.1)).Nodup) (k n : κ) : n ∈ (mdel fs k).map (·.1) ↔ n ∈ fs.map (·.1) ∧ n ≠ k := by
  unfold mdel
  cases h : midx fs k with
  | none =>
    refine ⟨fun h1 => ⟨h1, fun e => ?_⟩, fun h1 => h1.1⟩
    unfold midx at h
    rw [List.findIdx?_eq_none_iff] at h
    obtain ⟨p, hp, e2⟩ := List.mem_map.1 h1
    have := h p hp
    simp [e2, e] at this
  | some j =>
    unfold midx at h
    rw [List.findIdx?_eq_some_iff_getElem] at h
    obtain ⟨hj, he, _⟩ := h
    have e : fs[j].1 = k := by simpa using he
    have hj2 : j < (fs.map (·.1)).length := by rw [List.length_map]; exact hj
    have e2 : (fs.map (·.1))[j] = k := by rw [List.getElem_map]; exact e
    show n ∈ (fs.eraseIdx j).map (·.1) ↔ _
    rw [map_erase, mem_erase_nd hn hj2, e2]
    exact ⟨fun h => ⟨h.2, h.1⟩, fun h => ⟨h.2, h.1⟩⟩
theorem delL_keys : ∀ (L : List (List UInt8)) {hds : List (List UInt8 × Unit)}, (hds.map (·.1)).Nodup → ((delL hds L).map (·.1)).Nodup ∧ ∀ n, n ∈ (delL hds L).map (·.1) ↔ n ∈ hds.map (·.1) ∧ n ∉ L
  | [], hds, hn => ⟨hn, fun n => by simp [delL]⟩
  | k :: L, hds, hn => by
    have ih := delL_keys L (mdel_nodup hn k)
    have e : delL hds (k :: L) = delL (mdel hds k) L := rfl
    rw [e]
    refine ⟨ih.1, fun n => ?_⟩
    rw [ih.2, mdel_keys hn, List.mem_cons]
    constructor
    · rintro ⟨⟨h1, h2⟩, h3⟩
      exact ⟨h1, fun h => by rcases h with h | h; exact h2 h; exact h3 h⟩
    · rintro ⟨h1, h2⟩
      exact ⟨⟨h1, fun h => h2 (.inl h)⟩, fun h => h2 (.inr h)⟩
theorem key_some {κ ν : Type} [DecidableEq κ] {fs : List (κ × ν)} {n : κ} : n ∈ fs.map (·.1) ↔ ∃ v, Au fs n = some v := ⟨mget_of_key, fun ⟨v, h⟩ => List.mem_map.2 ⟨(n, v), B5 h, rfl⟩⟩
theorem key_none {κ ν : Type} [DecidableEq κ] {fs : List (κ × ν)} {n : κ} (h : n ∉ fs.map (·.1)) : Au fs n = none := by
  cases h2 : Au fs n with
  | none => rfl
  | some v => exact absurd (key_some.2 ⟨v, h2⟩) h
theorem foldP_ge (dep : List (List UInt8 × Int)) : ∀ (L : List (List UInt8)) (d : Int), d ≤ L.foldl (stepP dep) d ∧ ∀ m ∈ L, (Au dep m).getD 0 < L.foldl (stepP dep) d
  | [], d => ⟨Int.le_refl d, fun m hm => by cases hm⟩
  | k :: L, d => by
    have ih := foldP_ge dep L (stepP dep d k)
    have h1 : d ≤ stepP dep d k ∧ (Au dep k).getD 0 < stepP dep d k := by unfold stepP; split <;> omega
    refine ⟨Int.le_trans h1.1 ih.1, fun m hm => ?_⟩
    rcases List.mem_cons.1 hm with rfl | hm
    · exact Int.lt_of_lt_of_le h1.2 ih.1
    · exact ih.2 m hm
theorem judge_ready {P : List (List UInt8 × DB)} {D : DB} (h : Cg P D = 1) : readyB P D = true := by
  unfold Cg at h
  split at h
  · omega
  · split at h
    · assumption
    · omega
structure PD.Inv (X : PD) : Prop where
  nn : X.names = X.P.map (·.1)
  dk : X.dep.map (·.1) = X.P.map (·.1)
  nd : (X.P.map (·.1)).Nodup
  ck : ∀ p ∈ X.P, p.2.check = 0
  par : ∀ n D, Au X.P n = some D → ∀ m ∈ Bn D, (∃ E, Au X.P m = some E) ∧ (Au X.dep m).getD 0 < (Au X.dep n).getD 0
  d0 : ∀ n D, Au X.P n = some D → 0 ≤ (Au X.dep n).getD 0
  hn : (X.hds.map (·.1)).Nodup
  hd : ∀ n, n ∈ X.hds.map (·.1) ↔ (∃ D, Au X.P n = some D) ∧ ∀ m D, Au X.P m = some D → n ∉ Bn D
  od : (X.orp.map (·.1)).Nodup
  oc : ∀ p ∈ X.orp, p.2.check = 0 ∧ p.1 ∉ X.P.map (·.1)
theorem PD.Inv.new : PD.new.Inv where
  nn := rfl
  dk := rfl
  nd := List.nodup_nil
  ck := fun p hp => by cases hp
  par := fun n D h => by cases h
  d0 := fun n D h => by cases h
  hn := List.nodup_nil
  hd := fun n => ⟨fun h => (by cases h), fun ⟨⟨D, h⟩, _⟩ => (by cases h)⟩
  od := List.nodup_nil
  oc := fun p hp => by cases hp
theorem PD.Inv.drop {X : PD} (h : X.Inv) (n : List UInt8) : (X.drop1 n).Inv := { h with
  od := mdel_nodup h.od n
  oc := fun p hp => h.oc p (mdel_mem hp) }
theorem PD.Inv.adm {X : PD} (h : X.Inv) {n : List UInt8} {D : DB} (hnP : n ∉ X.P.map (·.1)) (hno : n ∉ X.orp.map (·.1)) (hc : D.check = 0) (hr : readyB X.P D = true) : (X.adm n D).Inv := by
  have hP0 := key_none hnP
  have hD0 : Au X.dep n = none := key_none (by rw [h.dk]; exact hnP)
  have eP : (X.adm n D).P = X.P ++ [(n, D)] := mput_app hP0 D
  have eD : (X.adm n D).dep = X.dep ++ [(n, (Bn D).foldl (stepP X.dep) 0)] := mput_app hD0 _
  have gP : ∀ m, m ≠ n → Au (X.adm n D).P m = Au X.P m := fun m hm => mget_old hP0 D (fun e => hm e.symm)
  have gPn : Au (X.adm n D).P n = some D := mget_new hP0 D
  have gD : ∀ m, m ≠ n → Au (X.adm n D).dep m = Au X.dep m := fun m hm => mget_old hD0 _ (fun e => hm e.symm)
  have gDn : Au (X.adm n D).dep n = some ((Bn D).foldl (stepP X.dep) 0) := mget_new hD0 _
  have rdy : ∀ m ∈ Bn D, ∃ E, Au X.P m = some E := fun m hm => by
    have := List.all_eq_true.1 hr m hm
    exact Option.isSome_iff_exists.1 this
  have ne : ∀ {m E}, Au X.P m = some E → m ≠ n := fun {m E} hm e => by rw [e, hP0] at hm; cases hm
  have old : ∀ {m E}, Au (X.adm n D).P m = some E → m = n ∧ E = D ∨ m ≠ n ∧ Au X.P m = some E := fun {m E} hm => by
    by_cases e : m = n
    · rw [e, gPn] at hm
      exact .inl ⟨e, (Option.some.inj hm).symm⟩
    · rw [gP m e] at hm
      exact .inr ⟨e, hm⟩
  have hk := delL_keys (Bn D) h.hn
  refine ⟨?_, ?_, ?_, ?_, ?_, ?_, ?_, ?_, h.od, ?_⟩
  · show X.names ++ [n] = _
    rw [eP, List.map_append, h.nn]; rfl
  · rw [eP, eD, List.map_append, List.map_append, h.dk]; rfl
  · rw [eP, List.map_append]
    refine List.nodup_append.2 ⟨h.nd, by simp, fun a ha b hb e => ?_⟩
    rw [List.map_cons, List.map_nil, List.mem_singleton] at hb
    rw [e, hb] at ha
    exact hnP ha
  · intro p hp
    rw [eP] at hp
    rcases List.mem_append.1 hp with hp | hp
    · exact h.ck p hp
    · rw [List.mem_singleton.1 hp]; exact hc
  · intro m E hm k hk2
    rcases old hm with ⟨rfl, rfl⟩ | ⟨e, hm⟩
    · obtain ⟨F, hF⟩ := rdy k hk2
      refine ⟨⟨F, by rw [gP k (ne hF)]; exact hF⟩, ?_⟩
      rw [gD k (ne hF), gDn]
      exact (foldP_ge X.dep (Bn E) 0).2 k hk2
    · obtain ⟨⟨F, hF⟩, hlt⟩ := h.par m E hm k hk2
      refine ⟨⟨F, by rw [gP k (ne hF)]; exact hF⟩, ?_⟩
      rw [gD k (ne hF), gD m e]
      exact hlt
  · intro m E hm
    rcases old hm with ⟨rfl, rfl⟩ | ⟨e, hm⟩
    · rw [gDn]
      exact (foldP_ge X.dep (Bn E) 0).1
    · rw [gD m e]; exact h.d0 m E hm
  · exact mput_nodup hk.1 n ()
  · intro k
    show k ∈ (Bg (delL X.hds (Bn D)) n ()).map (·.1) ↔ _
    rw [keys_put, hk.2, h.hd]
    constructor
    · rintro (⟨⟨⟨E, hE⟩, h1⟩, h2⟩ | rfl)
      · refine ⟨⟨E, by rw [gP k (ne hE)]; exact hE⟩, fun m F hm => ?_⟩
        rcases old hm with ⟨rfl, rfl⟩ | ⟨e, hm⟩
        · exact h2
        · exact h1 m F hm
      · refine ⟨⟨D, gPn⟩, fun m F hm hk2 => ?_⟩
        rcases old hm with ⟨rfl, rfl⟩ | ⟨e, hm⟩
        · obtain ⟨G, hG⟩ := rdy _ hk2
          exact ne hG rfl
        · obtain ⟨⟨G, hG⟩, _⟩ := h.par m F hm _ hk2
          exact ne hG rfl
    · rintro ⟨⟨E, hE⟩, h1⟩
      rcases old hE with ⟨rfl, rfl⟩ | ⟨e, hE⟩
      · exact .inr rfl
      · exact .inl ⟨⟨⟨E, hE⟩, fun m F hm => h1 m F (by rw [gP m (ne hm)]; exact hm)⟩, h1 n D gPn⟩
  · intro p hp
    have := h.oc p hp
    refine ⟨this.1, fun hm => ?_⟩
    rw [eP, List.map_append] at hm
    rcases List.mem_append.1 hm with hm | hm
    · exact this.2 hm
    · rw [List.map_cons, List.map_nil, List.mem_singleton] at hm
      have e9 : p.1 = n := hm
      exact hno (by rw [← e9]; exact List.mem_map.2 ⟨p, hp, rfl⟩)
theorem first_key {X : PD} {n : List UInt8} (h : X.first = some n) : ∃ D, Au X.orp n = some D ∧ Cg X.P D ≠ 0 := by
  have h1 := List.mem_of_find?_eq_some h
  have h2 := List.find?_some h
  obtain ⟨D, hD⟩ := mget_of_key ((isort_perm _).mem_iff.1 h1)
  refine ⟨D, hD, ?_⟩
  rw [hD, Option.getD_some] at h2
  simpa using h2
theorem PD.Inv.settle : ∀ (f : Nat) {X : PD}, X.Inv → (PD.settle f X).1.Inv
  | 0, X, h => h
  | f + 1, X, h => by
    cases hf : X.first with
    | none => rw [settle_done hf]; exact h
    | some n =>
      obtain ⟨D, hD, hj⟩ := first_key hf
      have hm := h.oc _ (B5 hD)
      by_cases h1 : Cg X.P D = 1
      · rw [settle_fit hf hD h1]
        exact PD.Inv.settle f ((h.drop n).adm hm.2 (fun h2 => ((mdel_keys h.od n n).1 h2).2 rfl) hm.1 (judge_ready h1))
      · rw [settle_wrong hf hD h1]
        exact PD.Inv.settle f (h.drop n)
theorem PD.Inv.add {X : PD} (h : X.Inv) (D : DB) : (X.add D).1.Inv := by
  by_cases hg : dgood D = 0
  · cases ht : ((Au X.orp (Bh D)).isSome || (Au X.P (Bh D)).isSome) with
    | true => rw [add_there hg ht]; exact h
    | false =>
      rw [Bool.or_eq_false_iff] at ht
      have n1 : Bh D ∉ X.orp.map (·.1) := fun hm => by
        obtain ⟨v, hv⟩ := mget_of_key hm
        rw [hv] at ht; cases ht.1
      have n2 : Bh D ∉ X.P.map (·.1) := fun hm => by
        obtain ⟨v, hv⟩ := mget_of_key hm
        rw [hv] at ht; cases ht.2
      have hf : ((Au X.orp (Bh D)).isSome || (Au X.P (Bh D)).isSome) = false := by rw [ht.1, ht.2]; rfl
      rcases judge_cases X.P D with hj | hj | hj
      · by_cases h64 : 64 ≤ X.orp.length
        · rw [add_full hg hf hj h64]; exact h
        · rw [add_keep hg hf hj h64]
          exact { h with
            od := mput_nodup h.od _ _
            oc := fun p hp => by
              rcases mput_mem hp with hp | rfl
              · exact h.oc p hp
              · exact ⟨good_check hg, n2⟩ }
      · rw [add_fits hg hf hj]
        exact PD.Inv.settle _ (h.adm n2 n1 (good_check hg) (judge_ready hj))
      · rw [add_wrong hg hf hj]; exact h
  · rw [add_bad hg]; exact h
noncomputable def fillP (X : PD) (ds : List DB) : PD := ds.foldl (fun X D => (X.add D).1) X
theorem PD.Inv.fill : ∀ (ds : List DB) {X : PD}, X.Inv → (fillP X ds).Inv
  | [], X, h => h
  | D :: ds, X, h => PD.Inv.fill ds (h.add D)
section
variable {X : PD}
theorem reach_P {a : Int} {L : List (List UInt8)} {n : List UInt8} (h : X.Reach a L n) : ∃ D, Au X.P n = some D := by
  cases h with
  | base _ hP _ => exact ⟨_, hP⟩
  | step _ _ _ hE _ => exact ⟨_, hE⟩
theorem reach_mono {a : Int} {L M : List (List UInt8)} (hs : ∀ n ∈ L, n ∈ M) {n : List UInt8} (h : X.Reach a L n) : X.Reach a M n := by
  induction h with
  | base h hP hd => exact .base (hs _ h) hP hd
  | step _ hP hn hE hd ih => exact .step ih hP hn hE hd
theorem reach_down {a b : Int} (hab : a ≤ b) {L : List (List UInt8)} {n : List UInt8} (h : X.Reach b L n) : X.Reach a L n := by
  induction h with
  | base h hP hd => exact .base h hP oM
  | step _ hP hn hE hd ih => exact .step ih hP hn hE oM
theorem reach_up (hI : X.Inv) {a : Int} {L : List (List UInt8)} {n : List UInt8} (h : X.Reach a L n) : ∀ b, b < (Au X.dep n).getD 0 → X.Reach b L n := by
  induction h with
  | base h hP hd => exact fun b hb => .base h hP hb
  | step h1 hP hn hE hd ih => exact fun b hb => .step (ih b (by have := ((hI.par _ _ hP) _ hn).2; omega)) hP hn hE hb
theorem reach_two {a : Int} {x y n : List UInt8} : X.Reach a [x, y] n ↔ X.Reach a [x] n ∨ X.Reach a [y] n := by
  constructor
  · intro h
    induction h with
    | base h hP hd =>
      rcases List.mem_cons.1 h with rfl | h
      · exact .inl (.base (List.mem_singleton.2 rfl) hP hd)
      · exact .inr (.base h hP hd)
    | step _ hP hn hE hd ih =>
      rcases ih with ih | ih
      · exact .inl (.step ih hP hn hE hd)
      · exact .inr (.step ih hP hn hE hd)
  · rintro (h | h)
    · exact reach_mono (fun n hn => by rw [List.mem_singleton.1 hn]; exact List.mem_cons_self) h
    · exact reach_mono (fun n hn => List.mem_cons_of_mem _ hn) h
theorem reach_head (hI : X.Inv) {a : Int} {n h : List UInt8} (hh : h ∈ X.hds.map (·.1)) (hr : X.Reach a [n] h) : h = n := by
  cases hr with
  | base h1 _ _ => exact List.mem_singleton.1 h1
  | step _ hP hn _ _ => exact absurd hn (((hI.hd h).1 hh).2 _ _ hP)
theorem reach_all (hI : X.Inv) {n : List UInt8} {D : DB} (h : Au X.P n = some D) : X.Reach (-1) (X.hds.map (·.1)) n := by
  obtain ⟨b, hb⟩ : ∃ b : Int, ∀ p ∈ X.dep, p.2 ≤ b := by
    generalize X.dep = l
    induction l with
    | nil => exact ⟨0, fun p hp => by cases hp⟩
    | cons p l ih =>
      obtain ⟨b, hb⟩ := ih
      exact ⟨if p.2 ≤ b then b else p.2, fun q hq => by
        rcases List.mem_cons.1 hq with rfl | hq
        · split <;> omega
        · have := hb q hq
          split <;> omega⟩
  have top : ∀ {m E}, Au X.P m = some E → (Au X.dep m).getD 0 ≤ b := fun {m E} hm => by
    have hk : m ∈ X.dep.map (·.1) := by rw [hI.dk]; exact key_some.2 ⟨E, hm⟩
    obtain ⟨d, hd⟩ := mget_of_key hk
    rw [hd]
    exact hb _ (B5 hd)
  have key : ∀ (k : Nat) {n D}, Au X.P n = some D → (b - (Au X.dep n).getD 0).toNat ≤ k → X.Reach (-1) (X.hds.map (·.1)) n := by
    intro k
    induction k with
    | zero =>
      intro n D h hk
      have h1 := top h
      by_cases hh : n ∈ X.hds.map (·.1)
      · exact .base hh h (by have := hI.d0 n D h; omega)
      · rw [hI.hd] at hh
        have h2 : ∃ m E, Au X.P m = some E ∧ n ∈ Bn E := by
          refine Classical.byContradiction fun hno => hh ⟨⟨D, h⟩, fun m E hm hn => hno ⟨m, E, hm, hn⟩⟩
        obtain ⟨m, E, hm, hn⟩ := h2
        have h3 := ((hI.par m E hm) n hn).2
        have h4 := top hm
        omega
    | succ k ih =>
      intro n D h hk
      by_cases hh : n ∈ X.hds.map (·.1)
      · exact .base hh h (by have := hI.d0 n D h; omega)
      · rw [hI.hd] at hh
        have h2 : ∃ m E, Au X.P m = some E ∧ n ∈ Bn E := by
          refine Classical.byContradiction fun hno => hh ⟨⟨D, h⟩, fun m E hm hn => hno ⟨m, E, hm, hn⟩⟩
        obtain ⟨m, E, hm, hn⟩ := h2
        have h3 := ((hI.par m E hm) n hn).2
        have h4 := top hm
        exact .step (ih hm oM) hm hn h (by have := hI.d0 n D h; omega)
  exact key _ h (Nat.le_refl _)
end

end Go.Proofs.YtfcbgdkpagcbbaaGreat
end

section
namespace Go.Proofs.YtfcbgdkpagcbbaaGreat
open Go Hw

theorem tmod_lo (a : Int) {n : Nat} (h : 0 < n) : -(n : Int) < a.tmod n ∧ a.tmod n < n := ⟨Int.lt_tmod_of_pos a oM, Int.tmod_lt_of_pos a oM⟩
def pickN (a : Int) (n : Nat) : Nat := if a.tmod n < 0 then (a.tmod n + n).toNat else (a.tmod n).toNat
theorem pickN_lt (a : Int) {n : Nat} (h : 0 < n) : pickN a n < n := by
  have := tmod_lo a h
  unfold pickN
  split <;> omega
theorem pickN_neg {a : Int} {n : Nat} (h : 0 < n) (hc : a.tmod n < 0) : a.tmod n + (n : Int) = ((pickN a n : Nat) : Int) := by
  have := tmod_lo a h
  rw [pickN, if_pos hc]; omega
theorem pickN_pos {a : Int} {n : Nat} (h : 0 < n) (hc : ¬ a.tmod n < 0) : a.tmod n = ((pickN a n : Nat) : Int) := by
  rw [pickN, if_neg hc]; omega
section
variable {C : Cx} {ops : Array Oper} {rest : List (Nat × Oper)} {sl : List (Nat × Value)} {hp : List Blk} {Q : St → Prop} {c d : Nat} {ty : TypeId} {pos : String} {af : Array Edge} {g : Option (Nat × Bool)}
variable {xT yT : TypeId} {x y : Operand} {a b : Int}
theorem Tr.rem_i64t (hg : Ah ops sl g = true) (hk : okD c d C.N = true) (hx : Ag sl x = some (i64 a)) (hy : Ag sl y = some (i64 b)) (hr : 1 ≤ b)
    (k : Tr C ops rest ⟨(d, i64 (a.tmod b)) :: sl, hp⟩ Q) : Tr C ops ((c, ⟨some d, .binOp .rem xT x y yT, ty, pos, af, g⟩) :: rest) ⟨sl, hp⟩ Q :=
  .bin hg hk hx hy (fun w => by simp [binOp, Op.intDiv, show b ≠ 0 by omega]) k
end
def GetR (X : PD) (n : List UInt8) (v : Value) (out : List Blk) : Prop :=
  Au X.P n = none ∧ v = .tuple #[agg Block.zero.cells, i64 6] ∧ out = []
  ∨ ∃ D B, Au X.P n = some D ∧ SameB B D ∧ v = .tuple #[agg B.cells, i64 0] ∧ ∀ W2, Lies out W2 → BlockIs W2 B D
theorem ck_small {D : DB} (h : D.check = 0) : D.ls.length ≤ 16 ∧ D.ds.length ≤ 90000 := by
  obtain ⟨h1, h2⟩ := D.head_small h
  exact ⟨by omega, by omega⟩
def LeadsP (X : PD) (a b : List UInt8) : Prop := (∃ D, Au X.P a = some D) ∧ (∃ D, Au X.P b = some D) ∧ X.Reach ((Au X.dep b).getD 0 - 1) [a] b
theorem leads_iff {X : PD} (hI : X.Inv) {a b : List UInt8} : LeadsP X a b ↔ X.Reach (-1) [a] b := by
  constructor
  · rintro ⟨_, ⟨D, hD⟩, h⟩
    exact reach_down (by have := hI.d0 b D hD; omega) h
  · intro h
    have hb := reach_P h
    refine ⟨?_, hb, reach_up hI h _ oM⟩
    have : ∀ {n}, X.Reach (-1) [a] n → ∃ D, Au X.P a = some D := fun {n} h => by
      induction h with
      | base h1 hP _ => exact ⟨_, List.mem_singleton.1 h1 ▸ hP⟩
      | step _ _ _ _ _ ih => exact ih
    exact this h

theorem kit_pickN (g : Int) (n : Nat) (hn : 0 < n) (hn2 : n ≤ 1000000) : Meets Tryz.prog 30 [i64 g, i64 (n : Int)] [] (fun _ => True) (fun v out => v = i64 ((pickN g n : Nat) : Int) ∧ out = []) := by
 intro W hW
 have htm := tmod_lo g hn
 refine Ad Tryz.func30 J 16 Tryz.ntmps30 J (G9 ?_)
 refine .lss J J J J (decide_eq_false oM) (G2 ?_)
 refine .cond_f J (rfl) (G6 ?_)
 refine Tr.rem_i64t J J J J oM (G10 ?_)
 refine .condP J (fun hc1 => ?_) (fun hc1 => ?_)
 ·
  refine G13 ?_
  -- ret
  refine G2 ?_
  refine ⟨_, [], An J J, sP, sP, ?_, rfl⟩
  rw [pickN_neg hn hc1]
 refine G8 ?_
 -- ret
 refine G2 ?_
 refine ⟨_, [], An J J, sP, sP, ?_, rfl⟩
 rw [pickN_pos hn hc1]
theorem dag_get (x : DD) (hx : x.ok) (hck : ∀ p ∈ x.P, p.2.check = 0) (p : Nat) (n : List UInt8) (h32 : n.length = 32) : Meets Tryz.prog 11 [ptr p 0, agg (Aa n)] [] (fun W => Lies (x.blks p) W) (GetR x.pl n) := by
 intro W hW
 have hlies := hW
 have hd := DagSee.lies hW
 refine Ad Tryz.func11 J 27 Tryz.ntmps11 J (G3 ?_)
 intro n3 hn3 hf3
 refine .alloc (cs := Block.zero.cells) J Block.zr J ?_
 intro n4 hn4 hf4
 refine G7 ?_
 refine .cV J J J J Body33 (dag_valid x p) (fun w h => hd.ext h) (G3 ?_)
 refine .cond_f J J (G3 ?_)
 refine .draw [(0, 0), (0, 1), (0, 2), (1, 3), (1, 4), (1, 5), (0, 6), (0, 7), (0, 8), (2, 9), (4, 10), (0, 11)] Aq zK (G3 ?_)
 refine .loadE J J J Y69.h J sP (hd.at (o := 2) J) (.lA J J J Y25.h J Sz25 Z1 (by (simp [h32]; done)) ?_)
 refine .lookFC evE ME hd.2 sP J J J J h32 (fun hg => ?_) (fun e hg => ?_)
 ·
  skip
  refine G3 ?_
  refine .alloc (cs := DEnt.zero.cells) J DEnt.zr J ?_
  intro n6 hn6 hf6
  refine G11 ?_
  refine .cond_t J J (G2 ?_)
  refine .build (cs := Block.zero.cells) J J J (fun w => by kernel_rfl) ?_
  refine G4 ?_
  -- ret
  refine G3 ?_
  refine A1 (out := []) (Bk J J J Y31.h J Sz31 Z1 (by exact Block.length (by exact Block.zero_ok))) Aj ?_
  exact .inl ⟨DD.noP hg, rfl, rfl⟩
 obtain ⟨hs1, hs2⟩ := ck_small (hck _ (List.mem_map.2 ⟨_, B5 hg, rfl⟩))
 simp only at hs1 hs2
 refine G3 ?_
 refine .alloc (cs := DEnt.zero.cells) J DEnt.zr J ?_
 intro n6 hn6 hf6
 refine .sA J J J J (DEnt.isCell (by exact hx.entOk hg)) Sz79 (DEnt.length (by exact hx.entOk hg)) Z0 (DEnt.length (by exact DEnt.zero_ok)) zU ?_
 refine G10 ?_
 refine .cond_f J J (G5 ?_)
 refine .lN (Block.cells _) J J J Y31.h J Sz31 Z0 (DEnt.row_fBlock (by exact hx.entOk hg)) (DEnt.rl_fBlock (by exact hx.entOk hg)) ?_
 refine .call4 J J J J J Body37 (dag_clone e.1.fBlock e.2 (hx.ent _ (B5 hg)).2.1.1 oM oM) (fun w h => (hx.ent _ (B5 hg)).2.1.2 w ((lies_keep hlies h).sub (x.mcb p))) ?_
 rintro v26 out26 ⟨B26, h26, rfl, hb26⟩
 refine .sA J J J J (Block.isCell (by exact h26.ok)) Sz31 (Block.length (by exact h26.ok)) mR (Block.length (by exact Block.zero_ok)) uU ?_
 refine G3 ?_
 -- ret
 refine G2 ?_
 refine A1 (out := (out26 ++ [])) (Bk J J J Y31.h J Sz31 mR (by exact Block.length (by exact h26.ok))) (Ac sG Aj) ?_
 exact .inr ⟨e.2, B26, (DD.atP hg).1, h26, rfl, fun W2 hl => hb26 W2 (by simpa using hl)⟩
theorem row_one {q : Nat} {w : World} {a : List UInt8} (ha : a.length = 32) (h : Sees w q 0 (Aa a)) : RowsAt w ⟨some ⟨q, 0, none⟩, 1, 1⟩ 32 [a] := ⟨rfl, fun l hl => by rw [List.mem_singleton.1 hl]; exact ha, Nat.le_refl 1, SeesP.of (by simpa using h), (by show 1 ≤ maxLen; decide), fun e => by cases e⟩
theorem DD.hasP {x : DD} {n : List UInt8} (h : (Au x.ent n).isSome = true) : ∃ D, Au x.pl.P n = some D := by
  obtain ⟨e, he⟩ := Option.isSome_iff_exists.1 h
  exact ⟨e.2, (DD.atP he).1⟩
theorem DD.hasNo {x : DD} {n : List UInt8} (h : (Au x.ent n).isSome = false) (k : ∃ D, Au x.pl.P n = some D) : False := by
  obtain ⟨D, hD⟩ := k
  have := has_P x n
  rw [hD, h] at this
  cases this
def LeadsR (X : PD) (a b : List UInt8) (v : Value) (out : List Blk) : Prop := ∃ r : Bool, v = .bool r ∧ out = [] ∧ (r = true ↔ LeadsP X a b)
theorem walk_no {X : PD} {above : Int} {L : List (List UInt8)} {ms : List (List UInt8 × Unit)} (h : WalkI X above L ms []) {n : List UInt8} (hn : Au ms n = none) : ¬ X.Reach above L n := fun hr => by
  obtain ⟨v, hv⟩ := mget_of_key ((h.fin n).2 hr)
  rw [hn] at hv; cases hv
def WalkL (X : PD) (above : Int) (L : List (List UInt8)) (v : Value) (out : List Blk) : Prop := ∃ m : Nat, v = .map (some m) ∧ ∀ W2, Lies out W2 → ∃ ms : List (List UInt8 × Unit), BlkOk W2 (Aw m (Am 32 evU) ms) ∧ WalkI X above L ms []
theorem WalkL.loose (X : PD) (above : Int) (L : List (List UInt8)) : Loose (WalkL X above L) := fun l hl => by
  obtain ⟨n, _, hn⟩ := fresh_is 0 l
  exact ⟨_, [⟨n, [undef], 0, 0⟩], ⟨0, rfl, fun W2 h => (lie_none h).elim⟩, none_nodup hl hn _⟩
theorem dag_walkL (x : DD) (hx : x.ok) (h16 : ∀ p ∈ x.P, p.2.ls.length ≤ 16) (p : Nat) (s0 : Sl) (L : List (List UInt8)) (hL : s0.n ≤ 90000) (above : Int) : Meets Tryz.prog 41 [ptr p 0, s0.v, i64 above] [] (fun W => Lies (x.blks p) W ∧ RowsAt W s0 32 L) (WalkL x.pl above L) :=
  (dag_walk x hx h16 p s0 L hL above).imp (fun w h => h) fun v out ⟨m, ms, h1, h2, h3⟩ => ⟨m, h1, fun W2 h => ⟨ms, h _ (by rw [h2]; exact List.mem_cons_self), h3⟩⟩
open Classical in
noncomputable def rB (X : PD) (above : Int) (L : List (List UInt8)) (n : List UInt8) : Bool := decide (X.Reach above L n)
theorem rB_iff {X : PD} {above : Int} {L : List (List UInt8)} {n : List UInt8} : rB X above L n = true ↔ X.Reach above L n := by unfold rB; simp
theorem rB_look {X : PD} {above : Int} {L : List (List UInt8)} {ms : List (List UInt8 × Unit)} (h : WalkI X above L ms []) (n : List UInt8) : Value.tuple #[((Au ms n).map (Am 32 evU).ev).getD (agg []), .bool (Au ms n).isSome] = .tuple #[agg [], .bool (rB X above L n)] := by
  cases hm : Au ms n with
  | none =>
    have : rB X above L n = false := by
      cases hr : rB X above L n with
      | false => rfl
      | true => exact absurd (rB_iff.1 hr) (walk_no h hm)
    rw [this]; rfl
  | some u => rw [rB_iff.2 ((h.fin n).1 (mget_keys hm))]; rfl
theorem fillP_snoc (X : PD) (l : List DB) (d : DB) : fillP X (l ++ [d]) = ((fillP X l).add d).1 := by unfold fillP; rw [List.foldl_append]; rfl

theorem dag_leads (x : DD) (hx : x.ok) (h16 : ∀ p ∈ x.P, p.2.ls.length ≤ 16) (p : Nat) (a b : List UInt8) (ha : a.length = 32) (hb : b.length = 32) : Meets Tryz.prog 20 [ptr p 0, agg (Aa a), agg (Aa b)] [] (fun W => Lies (x.blks p) W) (LeadsR x.pl a b) := by
 intro W hW
 have hlies := hW
 have hd := DagSee.lies hW
 have hbig := hx.big
 refine Ad Tryz.func20 J 37 Tryz.ntmps20 J (G3 ?_)
 intro n4 hn4 hf4
 refine G1 ?_
 intro n5 hn5 hf5
 refine G7 ?_
 refine .lA J J J Y25.h J Sz25 Z1 (by (simp [ha]; done)) ?_
 refine .callB J J J J Body13 (dag_has x hx p a ha) (fun w h => hd.ext h) (fun hs1_20 => ?_) (fun hs1_20 => ?_)
 ·
  have hs1_2 := hs1_20
  refine G3 ?_
  refine .lA J J J Y25.h J Sz25 Z0 (by (simp [hb]; done)) ?_
  refine .callB J J J J Body13 (dag_has x hx p b hb) (fun w h => hd.ext h) (fun hs1_70 => ?_) (fun hs1_70 => ?_)
  ·
   have hs1_7 := hs1_70
   refine G4 ?_
   refine .cond_f J J (G3 ?_)
   refine .draw [(0, 0), (1, 1), (0, 3), (0, 4), (0, 5), (1, 6), (1, 7), (1, 8), (0, 9), (0, 10), (1, 12), (2, 2), (3, 11), (1, 13), (0, 14), (0, 15), (0, 16), (2, 17), (4, 18), (0, 19)] Aq zK (G1 ?_)
   refine .lA J J J Y25.h J Sz25 Z1 (by (simp [ha]; done)) ?_
   refine G3 ?_
   refine .loadE J J J Y69.h J sP (hd.at (o := 2) J) (.lA J J J Y25.h J Sz25 Z0 (by (simp [hb]; done)) ?_)
   refine .lookGC evE ME hd.2 sP J J J J hb (fun hg => ?_) (fun e hg => ?_)
   ·
    exfalso; rw [hg] at hs1_7; cases hs1_7
   have hdv : 0 ≤ e.1.fDepth ∧ e.1.fDepth ≤ (x.names.length : Int) := (hx.ent _ (B5 hg)).2.2
   refine .field1 J J J Y79.h J Y3.h J (DEnt.get_fDepth (hx.entOk hg)) (G1 ?_)
   refine .lA J J J Y25.h J Sz25 Z0 (by (simp [hb]; done)) ?_
   refine .mkRow2 (z := agg (Aa (List.replicate 32 0))) [agg (Aa a)] (Aa a) J J Y26.h Sz25 Zr25 J J (by intro v hv; rw [List.mem_singleton.1 hv]; simp [Value.cells, Aa, ha]) dE (by simp [Value.cells, agg]) ?_
   intro q22
   refine .call J J J J Body41 (dag_walkL x hx h16 p ⟨some ⟨q22, 0, none⟩, 1, 1⟩ [a] (by show 1 ≤ 90000; omega) (e.1.fDepth - 1)) (WalkL.loose _ _ _) (fun w h => ⟨lies_keep hlies h, row_one ha (As h Z0)⟩) ?_
   rintro v31 out31 ⟨m31, rfl, hw31⟩
   refine .lookW (.tuple #[agg [], .bool (rB x.pl (e.1.fDepth - 1) [a] b)]) MH J J J J hb (fun w h => by obtain ⟨ms, hb1, hI⟩ := hw31 w (Lies.of h (by repeat (exact Ay))); exact ⟨ms, hb1, rB_look hI b⟩) ?_
   refine G3 ?_
   refine .alloc (cs := []) J Zr82 J ?_
   intro n7 hn7 hf7
   refine .sA J J J J zB Sz82 sP Z0 sP zU ?_
   refine G9 ?_
   -- ret
   refine G2 ?_
   refine A1 (out := []) (An J J) Aj ?_
   refine ⟨_, rfl, rfl, ?_⟩
   exact rB_iff.trans ⟨fun h => ⟨DD.hasP hs1_2, ⟨e.2, (DD.atP hg).1⟩, by rw [(DD.atP hg).2]; exact h⟩, fun h => by have := h.2.2; rwa [(DD.atP hg).2] at this⟩
  have hs1_7 := hs1_70
  refine G4 ?_
  refine .cond_t J J (G5 ?_)
  -- ret
  refine G3 ?_
  refine A1 (out := []) (An J J) Aj ?_
  refine ⟨_, rfl, rfl, ?_⟩
  exact iff_of_false dE (fun h => DD.hasNo hs1_7 h.2.1)
 have hs1_2 := hs1_20
 refine G9 ?_
 refine .cond_t J J (G5 ?_)
 -- ret
 refine G3 ?_
 refine A1 (out := []) (An J J) Aj ?_
 refine ⟨_, rfl, rfl, ?_⟩
 exact iff_of_false dE (fun h => DD.hasNo hs1_2 h.1)
theorem law16_filled (s : Sl) (ds : List DB) (hn : s.n ≤ 1000) (hsm : ∀ d ∈ ds, d.ls.length ≤ 500000 ∧ d.ds.length ≤ 500000) : Meets Tryz.prog 27 [s.v] [] (fun W => BlocksAt W s ds) (fun v out => ∃ (p : Nat) (x : DD), v = ptr p 0 ∧ out = x.blks p ∧ x.ok ∧ x.pl = fillP PD.new ds ∧ x.names.length + x.orp.length ≤ ds.length) := by
 intro W hW
 obtain ⟨rs, hs⟩ := hW
 have hnd := hs.nd
 refine Ad Tryz.func27 J 20 Tryz.ntmps27 J (G7 ?_)
 refine .call4 J J J J J Body23 (dag_new2) tV ?_
 rintro v5 out5 ⟨p, x0, rfl, rfl, hx0, hplx0, hnx0⟩
 refine G10 ?_
 refine .loop (ι := Nat × DD) (fun r => ⟨[(0, s.v), (3, ptr p 0), (4, i64 (r.1 : Int))], (r.2.blks p ++ [])⟩) (fun r => r.1 ≤ s.n ∧ r.2.ok ∧ r.2.pl = fillP PD.new (ds.take r.1) ∧ r.2.names.length + r.2.orp.length ≤ r.1) (fun r => s.n - r.1) ((0, x0)) ?_ ?_ ?_
 · exact ⟨Nat.zero_le _, hx0, hplx0, Nat.le_of_eq hnx0⟩
 · exact Al (wk1 rfl (wk1 rfl (wk1 rfl wk0))) (Ac sG Aj)
 rintro ⟨k, x⟩ ⟨hk, hx, hplx, hnx⟩
 simp only at hk hx hplx hnx ⊢
 refine G9 ?_
 refine .condP J (fun hc0 => ?_) (fun hc0 => ?_)
 ·
  have hk2 : k < s.n := by omega
  obtain ⟨b, o, r, d, hsp, hr, hd, his, hlen, hsee⟩ := hs.at dE hk2
  refine G8 ?_
  refine .idxSlP 131 J J J hsp J Y34.h Sz31 k J oM (.loadEN r.cells J J J Y31.h J Sz31 sP hlen hsee (.call4 J J J J J Body24 (db_own r d (hsm d (List.mem_of_getElem? hd)).1 (hsm d (List.mem_of_getElem? hd)).2) (fun w h => his.ext h J) ?_))
  rintro v17 out17 ⟨B17, h17, rfl, hb17⟩
  refine .callL (L := (x.blks p ++ out17)) J J J J J Body10 (dag_add x hx p B17 d out17 ⟨h17, hb17⟩ oM) (sg_two (by repeat (first | exact Ce | apply sg_seg)) sG) (lent_ok J) (fun w h => Lent.of h (sg_two (by repeat (first | exact Ce | apply sg_seg)) sG)) ?_
  rintro v18 out18 ⟨x1, ⟨p18, n18, c18⟩, bl18, rfl, rfl, hx1, hac18, h3218, hplx1, hnx1⟩
  simp only [List.append_assoc]
  refine G9 ?_
  exact ⟨(k + 1, x1), ⟨by simp only; omega, hx1, by show x1.pl = _; rw [hplx1, hplx, take_snoc hd, fillP_snoc], by simp only; omega⟩, by simp only; omega, Al (wk1 rfl (wk1 rfl (wk1 rfl wk0))) (Ac sG Aj)⟩
 have hke : k = s.n := by omega
 refine G11 ?_
 -- ret
 refine G2 ?_
 refine A1 (out := (x.blks p ++ [])) (An J J) (Ac sG Aj) ?_
 refine ⟨p, x, rfl, by simp, hx, ?_, by omega⟩
 rw [hke, List.take_of_length_le oM] at hplx
 exact hplx
end Go.Proofs.YtfcbgdkpagcbbaaGreat
end

section
namespace Go.Proofs.YtfcbgdkpagcbbaaGreat
open Go Hw

abbrev evI (x : Int) : Value := i64 x
theorem MI : MOk Tryz.prog 63 25 3 (Am 32 evI) (i64 0) := bytesT_ok _ Tryz.underlying63 A25 Y5.h size_pos K25 (zr_run Zr3)
structure KI (ms : List (List UInt8 × Int)) (S : List UInt8 → Prop) : Prop where
  one : ∀ p ∈ ms, p.1.length = 32 ∧ p.2 = 1
  nd : (ms.map (·.1)).Nodup
  mem : ∀ n, n ∈ ms.map (·.1) ↔ S n
theorem KI.none : KI [] (fun _ => False) := ⟨fun p h => (by cases h), List.nodup_nil, fun n => ⟨fun h => (by cases h), fun h => h.elim⟩⟩
theorem KI.put {ms : List (List UInt8 × Int)} {S T : List UInt8 → Prop} (h : KI ms S) {n : List UInt8} (h32 : n.length = 32) (hT : ∀ k, T k ↔ S k ∨ k = n) : KI (Bg ms n 1) T where
  one := fun p hp => by
    rcases mput_mem hp with hp | rfl
    · exact h.one p hp
    · exact ⟨h32, rfl⟩
  nd := mput_nodup h.nd n 1
  mem := fun k => by rw [keys_put, h.mem, hT]
theorem KI.iff {ms : List (List UInt8 × Int)} {S T : List UInt8 → Prop} (h : KI ms S) (hT : ∀ k, T k ↔ S k) : KI ms T := { h with mem := fun k => (h.mem k).trans (hT k).symm }
theorem KI.no {ms : List (List UInt8 × Int)} {S : List UInt8 → Prop} (h : KI ms S) {n : List UInt8} (hg : Au ms n = Option.none) : ¬ S n := fun hs => by
  obtain ⟨v, hv⟩ := mget_of_key ((h.mem n).2 hs)
  rw [hg] at hv; cases hv
theorem KI.yes {ms : List (List UInt8 × Int)} {S : List UInt8 → Prop} (h : KI ms S) {n : List UInt8} {v : Int} (hg : Au ms n = some v) : v = 1 ∧ S n := ⟨(h.one _ (B5 hg)).2, (h.mem n).1 (List.mem_map.2 ⟨_, B5 hg, rfl⟩)⟩
theorem row_open {s : Sl} {bl : List Blk} {L : List (List UInt8)} (h : Hw.Acc s bl (A2 L) 25 L.length 32) (h32 : ∀ l ∈ L, l.length = 32) (h0 : 0 < L.length) : ∃ q c, s = ⟨some ⟨q, 0, none⟩, L.length, c⟩ ∧ ∀ k, k < L.length → ∀ w, Lies bl w → Sees w q (0 + k * 32) (Aa (L.getD k [])) := by
  rcases h with ⟨_, _, _, e⟩ | ⟨q, c, e, h1, h2, h3⟩
  · omega
  · refine ⟨q, c, e, fun k hk w hw => sees_row h32 ?_ hk⟩
    have := (Acc.some (q := q) (E := 25) h1 h2).see (w := w) (by rw [← h3]; exact hw)
    intro j v hj
    obtain ⟨b, o, e2, e3⟩ := this j v hj
    cases e2
    exact e3
theorem row_two {q : Nat} {w : World} {a b : List UInt8} (ha : a.length = 32) (hb : b.length = 32) (h : Sees w q 0 (A2 [a, b])) : RowsAt w ⟨some ⟨q, 0, none⟩, 2, 2⟩ 32 [a, b] := ⟨rfl, two_32 ha hb, Nat.le_refl 2, SeesP.of h, (by show 2 ≤ maxLen; decide), fun e => by cases e⟩
theorem getD_mem {L : List (List UInt8)} {k : Nat} (h : k < L.length) : L.getD k [] ∈ L := by
  rw [List.getD_eq_getElem?_getD, List.getElem?_eq_getElem h]; exact List.getElem_mem h
theorem take_mem {L : List (List UInt8)} {k : Nat} (h : k < L.length) (n : List UInt8) : n ∈ L.take (k + 1) ↔ n ∈ L.take k ∨ n = L.getD k [] := by
  rw [take_one h rfl, List.mem_append, List.mem_singleton]
theorem dag_leads2 (x : DD) (hx : x.ok) (hI : x.pl.Inv) (h16 : ∀ p ∈ x.P, p.2.ls.length ≤ 16) (p : Nat) (a b : List UInt8) (ha : a.length = 32) (hb : b.length = 32) : Meets Tryz.prog 20 [ptr p 0, agg (Aa a), agg (Aa b)] [] (fun W => Lies (x.blks p) W) (fun v out => v = .bool (rB x.pl (-1) [a] b) ∧ out = []) :=
  (dag_leads x hx h16 p a b ha hb).imp (fun w h => h) fun v out ⟨r, h1, h2, h3⟩ => by
    have : r = rB x.pl (-1) [a] b := by
      rw [Bool.eq_iff_iff, h3, leads_iff hI, rB_iff]
    rw [← this]; exact ⟨h1, h2⟩
theorem dag_leadsT (x : DD) (hx : x.ok) (hI : x.pl.Inv) (h16 : ∀ p ∈ x.P, p.2.ls.length ≤ 16) (p : Nat) (a b : List UInt8) (ha : a.length = 32) (hb : b.length = 32) (h : rB x.pl (-1) [a] b = true) : Meets Tryz.prog 20 [ptr p 0, agg (Aa a), agg (Aa b)] [] (fun W => Lies (x.blks p) W) (fun v out => v = .bool true ∧ out = []) := by
  have := dag_leads2 x hx hI h16 p a b ha hb
  rwa [h] at this
theorem dag_leadsF (x : DD) (hx : x.ok) (hI : x.pl.Inv) (h16 : ∀ p ∈ x.P, p.2.ls.length ≤ 16) (p : Nat) (a b : List UInt8) (ha : a.length = 32) (hb : b.length = 32) (h : rB x.pl (-1) [a] b = false) : Meets Tryz.prog 20 [ptr p 0, agg (Aa a), agg (Aa b)] [] (fun W => Lies (x.blks p) W) (fun v out => v = .bool false ∧ out = []) := by
  have := dag_leads2 x hx hI h16 p a b ha hb
  rwa [h] at this
theorem heads_ne {X : PD} (hI : X.Inv) {n : List UInt8} {D : DB} (h : Au X.P n = some D) : 0 < X.heads.length := by
  rw [heads_len]
  refine Nat.pos_of_ne_zero fun h0 => ?_
  have e : X.hds = [] := List.eq_nil_of_length_eq_zero h0
  have hr := reach_all hI h
  rw [e] at hr
  have : ∀ {n}, X.Reach (-1) [] n → False := fun {n} h => by
    induction h with
    | base h1 _ _ => cases h1
    | step _ _ _ _ _ ih => exact ih
  exact this hr
theorem heads_none {X : PD} (hI : X.Inv) (h : X.names.length = 0) : X.heads.length = 0 := by
  rw [heads_len]
  rw [hI.nn, List.length_map] at h
  have e : X.P = [] := List.eq_nil_of_length_eq_zero h
  cases hh : X.hds with
  | nil => rfl
  | cons p l =>
    obtain ⟨D, hD⟩ := ((hI.hd p.1).1 (by rw [hh]; exact List.mem_cons_self)).1
    rw [e] at hD; cases hD
theorem heads_mem (X : PD) (n : List UInt8) : n ∈ X.heads ↔ n ∈ X.hds.map (·.1) := (isort_perm _).mem_iff
theorem names_mem {X : PD} (hI : X.Inv) (n : List UInt8) : n ∈ X.names ↔ ∃ D, Au X.P n = some D := by rw [hI.nn]; exact key_some
theorem all_len {X : PD} (hI : X.Inv) {ks : List (List UInt8)} (hn : ks.Nodup) (hk : ∀ n, n ∈ ks ↔ X.Reach (-1) X.heads n) : ks.length = X.names.length := by
  refine ((List.perm_ext_iff_of_nodup hn (by rw [hI.nn]; exact hI.nd)).2 fun n => ?_).length_eq
  rw [hk, names_mem hI]
  refine ⟨reach_P, fun ⟨D, hD⟩ => ?_⟩
  exact reach_mono (fun m hm => (heads_mem X m).2 hm) (reach_all hI hD)
theorem sort_lt {ks : List (List UInt8)} (hs : SortB ks) (hn : ks.Nodup) {j : Nat} (h0 : 0 < j) (hj : j < ks.length) : cmpB (ks.getD (j - 1) []) (ks.getD j []) < 0 := by
  rw [List.getD_eq_getElem?_getD, List.getD_eq_getElem?_getD, List.getElem?_eq_getElem hj, List.getElem?_eq_getElem (show j - 1 < ks.length by omega)]
  have h1 := List.pairwise_iff_getElem.1 hs (j - 1) j oM hj oM
  have h2 := List.pairwise_iff_getElem.1 hn (j - 1) j oM hj oM
  simp only [Option.getD_some]
  rcases Int.lt_or_eq_of_le h1 with h | h
  · exact h
  · exact absurd ((cmpB_zero _ _).1 h) h2
structure Clo (X : PD) (a b : List UInt8) (xs : List (List UInt8)) : Prop where
  I : X.Inv
  nd : xs.Nodup
  mem : ∀ n, n ∈ xs ↔ X.Reach (-1) [a, b] n
  Pa : ∃ D, Au X.P a = some D
  Pb : ∃ D, Au X.P b = some D
section
variable {X : PD} {a b : List UInt8} {xs : List (List UInt8)} (C : Clo X a b xs)
include C
theorem Clo.ab {n : List UInt8} (h : n ∈ xs) : rB X (-1) [a] n = true ∨ rB X (-1) [b] n = true := by
  rw [rB_iff, rB_iff]; exact reach_two.1 ((C.mem n).1 h)
theorem Clo.not {n : List UInt8} (h : n ∉ xs) : rB X (-1) [a] n = false ∧ rB X (-1) [b] n = false := by
  constructor
  · cases hr : rB X (-1) [a] n with
    | false => rfl
    | true => exact absurd ((C.mem n).2 (reach_two.2 (.inl (rB_iff.1 hr)))) h
  · cases hr : rB X (-1) [b] n with
    | false => rfl
    | true => exact absurd ((C.mem n).2 (reach_two.2 (.inr (rB_iff.1 hr)))) h
theorem Clo.has_a : a ∈ xs := by
  obtain ⟨D, hD⟩ := C.Pa
  exact (C.mem a).2 (.base List.mem_cons_self hD (by have := C.I.d0 a D hD; omega))
theorem Clo.has_b : b ∈ xs := by
  obtain ⟨D, hD⟩ := C.Pb
  exact (C.mem b).2 (.base (List.mem_cons_of_mem _ List.mem_cons_self) hD (by have := C.I.d0 b D hD; omega))
theorem Clo.at {n : List UInt8} (h : n ∈ xs) : ∃ D, Au X.P n = some D := reach_P ((C.mem n).1 h)
theorem Clo.par {n m : List UInt8} {D : DB} (h : n ∈ xs) (hD : Au X.P n = some D) (hm : m ∈ Bn D) : m ∈ xs := by
  obtain ⟨⟨E, hE⟩, _⟩ := C.I.par n D hD m hm
  exact (C.mem m).2 (.step ((C.mem n).1 h) hD hm hE (by have := C.I.d0 m E hE; omega))
theorem Clo.led {n : List UInt8} (h : n ∈ xs) : n = a ∨ n = b ∨ ∃ m ∈ xs, ∃ D, Au X.P m = some D ∧ n ∈ Bn D := by
  cases (C.mem n).1 h with
  | base h1 _ _ =>
    rcases List.mem_cons.1 h1 with h1 | h1
    · exact .inl h1
    · exact .inr (.inl (List.mem_singleton.1 h1))
  | step h1 hP hn _ _ => exact .inr (.inr ⟨_, (C.mem _).2 h1, _, hP, hn⟩)
end
theorem light_at {ds : List DB} (h : lightOf lightBf ds 24 = true) : ds.length ≤ 24 ∧ ∀ d ∈ ds, d.ls.length ≤ 500000 ∧ d.ds.length ≤ 500000 := by
  unfold lightOf at h
  simp only [Bool.and_eq_true, Bool.not_eq_true', decide_eq_false_iff_not, List.all_eq_true] at h
  refine ⟨by omega, fun d hd => ?_⟩
  have := h.2 d hd
  unfold lightBf at this
  simp only [Bool.and_eq_true, decide_eq_true_eq] at this
  omega

theorem law16_smallD (s : Sl) (ds : List DB) : Meets Tryz.prog 9 [s.v] [] (fun W => BlocksAt W s ds) (fun v out => v = .bool (lightOf lightBf ds 24) ∧ out = []) := by
 intro W hW
 refine Ad Tryz.func9 J 5 Tryz.ntmps9 J (G8 ?_)
 refine .cV J J J J Body32 (lightd_blocks s ds 24) (fun w h => Blocks_ext h J hW) (G3 ?_)
 -- ret
 refine G2 ?_
 refine ⟨_, [], An J J, sP, sP, ?_, rfl⟩
 rfl

theorem P32 {x : DD} (hx : x.ok) {n : List UInt8} (h : ∃ D, Au x.pl.P n = some D) : n.length = 32 := by
  obtain ⟨D, hD⟩ := h
  obtain ⟨p, hp, e⟩ := List.mem_map.1 (B5 (show Au x.P n = some D from hD))
  rw [← (Prod.mk.inj e).1]; exact (hx.ent p hp).1
theorem led_step {P : List (List UInt8 × DB)} {a b kk : List UInt8} {xs : List (List UInt8)} {j : Nat} {D : DB} (hj : j < xs.length) (hkk : kk = xs.getD j []) (hD : Au P kk = some D) (n : List UInt8) :
    (n = a ∨ n = b ∨ ∃ m ∈ xs.take (j + 1), ∃ E, Au P m = some E ∧ n ∈ Bn E) ↔ ((n = a ∨ n = b ∨ ∃ m ∈ xs.take j, ∃ E, Au P m = some E ∧ n ∈ Bn E) ∨ n ∈ (Bn D).take (Bn D).length) := by
  rw [List.take_length]
  constructor
  · rintro (h | h | ⟨m, hm, E, hE, hn⟩)
    · exact .inl (.inl h)
    · exact .inl (.inr (.inl h))
    · rcases (take_mem hj m).1 hm with h1 | h1
      · exact .inl (.inr (.inr ⟨m, h1, E, hE, hn⟩))
      · rw [← hkk] at h1
        rw [h1, hD] at hE
        rw [Option.some.inj hE]; exact .inr hn
  · rintro ((h | h | ⟨m, hm, h⟩) | h)
    · exact .inl h
    · exact .inr (.inl h)
    · exact .inr (.inr ⟨m, (take_mem hj m).2 (.inl hm), h⟩)
    · exact .inr (.inr ⟨kk, (take_mem hj kk).2 (.inr hkk), D, hD, h⟩)
theorem nd_len : ∀ {l m : List (List UInt8)}, l.Nodup → (∀ n ∈ l, n ∈ m) → l.length ≤ m.length
  | [], m, _, _ => Nat.zero_le _
  | a :: l, m, h, hs => by
    obtain ⟨h1, h2⟩ := List.nodup_cons.1 h
    have ha := hs a List.mem_cons_self
    have ih := nd_len (l := l) (m := m.erase a) h2 (fun n hn => (List.mem_erase_of_ne (fun e => h1 (by rw [← e]; exact hn))).2 (hs n (List.mem_cons_of_mem _ hn)))
    have hl := List.length_erase_of_mem ha
    have hp := List.length_pos_of_mem ha
    rw [List.length_cons]; omega
theorem KI.len {ms : List (List UInt8 × Int)} {xs : List (List UInt8)} (h : KI ms (fun n => n ∈ xs)) (hn : xs.Nodup) : ms.length = xs.length := by
  have := ((List.perm_ext_iff_of_nodup h.nd hn).2 h.mem).length_eq
  rwa [List.length_map] at this

def T15 (m1 m2 : Nat) (a b : List UInt8) : List (Nat × Nat × Value) := [(0, 86, .map (some m1)), (1, 87, agg (Aa a)), (3, 88, agg (Aa b)), (5, 89, .map (some m1)), (6, 90, .map (some m2)), (7, 91, agg (Aa a)), (9, 92, agg (Aa b)), (11, 93, .map (some m2)), (12, 16, .map (some m1)), (13, 17, .map (some m2))]
theorem T15_ops (m1 m2 : Nat) (a b : List UInt8) : (T15 m1 m2 a b).map (·.1) = [0, 1, 3, 5, 6, 7, 9, 11, 12, 13] ∧ (T15 m1 m2 a b).map (·.2.1) = [86, 87, 88, 89, 90, 91, 92, 93, 16, 17] := ⟨rfl, rfl⟩
theorem inj_of_nodup {α : Type} (f : α → Nat) : ∀ {l : List α}, (l.map f).Nodup → ∀ x ∈ l, ∀ y ∈ l, f x = f y → x = y
  | [], _, _, h, _, _, _ => by cases h
  | z :: l, hn, x, hx, y, hy, e => by
    obtain ⟨h1, h2⟩ := List.nodup_cons.1 hn
    rcases List.mem_cons.1 hx with rfl | hx2 <;> rcases List.mem_cons.1 hy with rfl | hy2
    · rfl
    · exact absurd (List.mem_map.2 ⟨y, hy2, e.symm⟩) h1
    · exact absurd (List.mem_map.2 ⟨x, hx2, e⟩) h1
    · exact inj_of_nodup f h2 x hx2 y hy2 e
theorem T15_one {m1 m2 : Nat} {a b : List UInt8} {x y : Nat × Nat × Value} (hx : x ∈ T15 m1 m2 a b) (hy : y ∈ T15 m1 m2 a b) : (x.1 = y.1 → x = y) ∧ (x.2.1 = y.2.1 → x = y) :=
  ⟨inj_of_nodup (·.1) (by rw [(T15_ops m1 m2 a b).1]; decide) x hx y hy, inj_of_nodup (·.2.1) (by rw [(T15_ops m1 m2 a b).2]; decide) x hx y hy⟩
structure A15 (B : List (Nat × Value)) (K : List Blk) (a b : List UInt8) (m1 m2 : Nat) (f1 f2 : List (List UInt8 × Int)) (l : Nat → Bool) (s : St) : Prop where
  k1 : KI f1 (fun k => (l 2 = true ∧ k = a) ∨ (l 4 = true ∧ k = b))
  k2 : KI f2 (fun k => (l 8 = true ∧ k = a) ∨ (l 10 = true ∧ k = b))
  fs : ∀ e ∈ T15 m1 m2 a b, l e.1 = true → Hw.look s.sl e.2.1 = some e.2.2
  bs : ∀ e ∈ B, Hw.look s.sl e.1 = some e.2
  hp : s.hp.Perm ((bif l 0 then [Aw m1 (Am 32 evI) f1] else []) ++ ((bif l 6 then [Aw m2 (Am 32 evI) f2] else []) ++ K))
def J15 (B : List (Nat × Value)) (K : List Blk) (a b : List UInt8) (l : Nat → Bool) (s : St) : Prop := ∃ m1 m2 f1 f2, A15 B K a b m1 m2 f1 f2 l s
theorem A15.start {B : List (Nat × Value)} {a b : List UInt8} {s : St} (h : ∀ e ∈ B, Hw.look s.sl e.1 = some e.2) : J15 B s.hp a b (fun _ => false) s :=
  ⟨0, 0, [], [], KI.none.iff (fun n => by simp), KI.none.iff (fun n => by simp), (fun _ _ h => by cases h), h, List.Perm.refl _⟩
theorem weak_tr {sl : List (Nat × Value)} {hp hq : List Blk} {s' : St} (p : hp.Perm hq) (h : Weak ⟨sl, hq⟩ s') : Weak ⟨sl, hp⟩ s' := ⟨h.sl, fun b hb => p.symm.subset (h.hp b hb), fun hn => h.nodup ((p.map _).nodup_iff.1 hn)⟩
theorem Bt {j i : Nat} {l : Nat → Bool} (h : j ≠ i) : also j l i = l i := by simp [also, h]
theorem also_eq {j : Nat} {l : Nat → Bool} : also j l j = true := by simp [also]
section
variable {B : List (Nat × Value)} {K : List Blk} {a b : List UInt8} {m1 m2 : Nat} {f1 f2 : List (List UInt8 × Int)} {l : Nat → Bool} {sl : List (Nat × Value)} {hp hp' : List Blk} (h : A15 B K a b m1 m2 f1 f2 l ⟨sl, hp⟩)
include h
theorem A15.put {j d : Nat} {v : Value} (hT : (j, d, v) ∈ T15 m1 m2 a b) (hj : j ≠ 0 ∧ j ≠ 2 ∧ j ≠ 4 ∧ j ≠ 6 ∧ j ≠ 8 ∧ j ≠ 10) (hB : ∀ e ∈ B, d ≠ e.1) : J15 B K a b (also j l) ⟨(d, v) :: sl, hp⟩ := by
  obtain ⟨j0, j2, j4, j6, j8, j10⟩ := hj
  refine ⟨m1, m2, f1, f2, ?_, ?_, fun e he hl => ?_, fun e he => by rw [Bv _ _ (hB e he)]; exact h.bs e he, ?_⟩
  · simp only [Bt j2, Bt j4]; exact h.k1
  · simp only [Bt j8, Bt j10]; exact h.k2
  · by_cases hd : d = e.2.1
    · have := (T15_one hT he).2 hd
      rw [← this]; exact look_cons_eq _ _ _
    · rw [Bv _ _ hd]
      refine h.fs e he ?_
      by_cases hje : j = e.1
      · exact absurd (congrArg (·.2.1) ((T15_one hT he).1 hje)) hd
      · rwa [Bt hje] at hl
  · simp only [Bt j0, Bt j6]; exact h.hp
theorem A15.mk1 (h0 : l 0 = false) (h2 : l 2 = false) (h4 : l 4 = false) (h5 : l 5 = false) (h12 : l 12 = false) (hB : ∀ e ∈ B, 86 ≠ e.1) (n : Nat) : J15 B K a b (also 0 l) ⟨(86, .map (some n)) :: sl, Aw n (Am 32 evI) [] :: hp⟩ := by
  refine ⟨n, m2, [], f2, ?_, ?_, fun e he hl => ?_, fun e he => by rw [Bv _ _ (hB e he)]; exact h.bs e he, ?_⟩
  · simp only [Bt (show 0 ≠ 2 by decide), Bt (show 0 ≠ 4 by decide), h2, h4]; exact KI.none.iff (fun n => by simp)
  · simp only [Bt (show 0 ≠ 8 by decide), Bt (show 0 ≠ 10 by decide)]; exact h.k2
  · have hf := h.fs
    simp only [T15, List.mem_cons, List.not_mem_nil, or_false] at he hf
    rcases he with rfl | rfl | rfl | rfl | rfl | rfl | rfl | rfl | rfl | rfl <;> first | exact look_cons_eq _ _ _ | (rw [Bt sP, h5] at hl; cases hl) | (rw [Bt sP, h12] at hl; cases hl) | exact (Bv _ _ sP).trans (hf _ sP hl)
  · have hq := h.hp
    rw [h0] at hq
    rw [also_eq, Bt (show 0 ≠ 6 by decide)]
    exact hq.cons _
theorem A15.mk2 (h6 : l 6 = false) (h8 : l 8 = false) (h10 : l 10 = false) (h11 : l 11 = false) (h13 : l 13 = false) (hB : ∀ e ∈ B, 90 ≠ e.1) (n : Nat) : J15 B K a b (also 6 l) ⟨(90, .map (some n)) :: sl, Aw n (Am 32 evI) [] :: hp⟩ := by
  refine ⟨m1, n, f1, [], ?_, ?_, fun e he hl => ?_, fun e he => by rw [Bv _ _ (hB e he)]; exact h.bs e he, ?_⟩
  · simp only [Bt (show 6 ≠ 2 by decide), Bt (show 6 ≠ 4 by decide)]; exact h.k1
  · simp only [Bt (show 6 ≠ 8 by decide), Bt (show 6 ≠ 10 by decide), h8, h10]; exact KI.none.iff (fun n => by simp)
  · have hf := h.fs
    simp only [T15, List.mem_cons, List.not_mem_nil, or_false] at he hf
    rcases he with rfl | rfl | rfl | rfl | rfl | rfl | rfl | rfl | rfl | rfl <;> first | exact look_cons_eq _ _ _ | (rw [Bt sP, h11] at hl; cases hl) | (rw [Bt sP, h13] at hl; cases hl) | exact (Bv _ _ sP).trans (hf _ sP hl)
  · have hq := h.hp
    rw [h6] at hq
    rw [also_eq, Bt (show 6 ≠ 0 by decide)]
    exact (hq.cons _).trans List.perm_middle.symm
theorem A15.fin (h0 : l 0 = true) (h6 : l 6 = true) : hp.Perm (Aw m1 (Am 32 evI) f1 :: Aw m2 (Am 32 evI) f2 :: K) := by
  have hq := h.hp
  rw [h0, h6] at hq
  exact hq
theorem A15.at1 (h0 : l 0 = true) : ∃ R, hp.Perm (Aw m1 (Am 32 evI) f1 :: R) ∧ R.Perm ((bif l 6 then [Aw m2 (Am 32 evI) f2] else []) ++ K) := by
  have hq := h.hp
  rw [h0] at hq
  exact ⟨_, hq, .refl _⟩
theorem A15.at2 (h6 : l 6 = true) : ∃ R, hp.Perm (Aw m2 (Am 32 evI) f2 :: R) ∧ R.Perm ((bif l 0 then [Aw m1 (Am 32 evI) f1] else []) ++ K) := by
  have hq := h.hp
  rw [h6] at hq
  exact ⟨_, hq.trans List.perm_middle, .refl _⟩
theorem A15.ins1 {j : Nat} {n : List UInt8} (h32 : n.length = 32) (h0 : l 0 = true) (hj : j = 2 ∧ n = a ∨ j = 4 ∧ n = b) (hR : hp'.Perm ((bif l 6 then [Aw m2 (Am 32 evI) f2] else []) ++ K)) : J15 B K a b (also j l) ⟨sl, Aw m1 (Am 32 evI) (Bg f1 n 1) :: hp'⟩ := by
  have hjj : j ≠ 0 ∧ j ≠ 6 ∧ j ≠ 8 ∧ j ≠ 10 := by omega
  refine ⟨m1, m2, Bg f1 n 1, f2, h.k1.put h32 (fun k => ?_), ?_, fun e he hl => h.fs e he ?_, h.bs, ?_⟩
  · rcases hj with ⟨rfl, rfl⟩ | ⟨rfl, rfl⟩
    · rw [also_eq, Bt (show 2 ≠ 4 by decide)]; simp only [true_and]
      constructor
      · rintro (h | h); exact .inr h; exact .inl (.inr h)
      · rintro ((h | h) | h); exact .inl h.2; exact .inr h; exact .inl h
    · rw [also_eq, Bt (show 4 ≠ 2 by decide)]; simp only [true_and]
      constructor
      · rintro (h | h); exact .inl (.inl h); exact .inr h
      · rintro ((h | h) | h); exact .inl h; exact .inr h.2; exact .inr h
  · simp only [Bt hjj.2.2.1, Bt hjj.2.2.2]; exact h.k2
  · by_cases hje : j = e.1
    · exfalso
      have : e.1 ∈ (T15 m1 m2 a b).map (·.1) := List.mem_map.2 ⟨e, he, rfl⟩
      rw [(T15_ops m1 m2 a b).1, ← hje] at this
      rcases hj with ⟨rfl, _⟩ | ⟨rfl, _⟩ <;> simp at this
    · rwa [Bt hje] at hl
  · rw [Bt hjj.1, Bt hjj.2.1, h0]; exact hR.cons _
theorem A15.ins2 {j : Nat} {n : List UInt8} (h32 : n.length = 32) (h6 : l 6 = true) (hj : j = 8 ∧ n = a ∨ j = 10 ∧ n = b) (hR : hp'.Perm ((bif l 0 then [Aw m1 (Am 32 evI) f1] else []) ++ K)) : J15 B K a b (also j l) ⟨sl, Aw m2 (Am 32 evI) (Bg f2 n 1) :: hp'⟩ := by
  have hjj : j ≠ 0 ∧ j ≠ 6 ∧ j ≠ 2 ∧ j ≠ 4 := by omega
  refine ⟨m1, m2, f1, Bg f2 n 1, ?_, h.k2.put h32 (fun k => ?_), fun e he hl => h.fs e he ?_, h.bs, ?_⟩
  · simp only [Bt hjj.2.2.1, Bt hjj.2.2.2]; exact h.k1
  · rcases hj with ⟨rfl, rfl⟩ | ⟨rfl, rfl⟩
    · rw [also_eq, Bt (show 8 ≠ 10 by decide)]; simp only [true_and]
      constructor
      · rintro (h | h); exact .inr h; exact .inl (.inr h)
      · rintro ((h | h) | h); exact .inl h.2; exact .inr h; exact .inl h
    · rw [also_eq, Bt (show 10 ≠ 8 by decide)]; simp only [true_and]
      constructor
      · rintro (h | h); exact .inl (.inl h); exact .inr h
      · rintro ((h | h) | h); exact .inl h; exact .inr h.2; exact .inr h
  · by_cases hje : j = e.1
    · exfalso
      have : e.1 ∈ (T15 m1 m2 a b).map (·.1) := List.mem_map.2 ⟨e, he, rfl⟩
      rw [(T15_ops m1 m2 a b).1, ← hje] at this
      rcases hj with ⟨rfl, _⟩ | ⟨rfl, _⟩ <;> simp at this
    · rwa [Bt hje] at hl
  · rw [Bt hjj.1, Bt hjj.2.1, h6]; exact (hR.cons _).trans List.perm_middle.symm
end
theorem any15 {C : Cx} {id : Nat} {ops : List Oper} {sl : List (Nat × Value)} {hp : List Blk} {Q : Exit → St → Prop} (perm : List (Nat × Nat)) (hm : C.P.follows .mixedOrders = true) (ht : topoOk ops.toArray [] perm = true) (ha : (List.range ops.toArray.size).all (fun i => (perm.map (·.2)).contains i) = true)
    (hlen : Nat.ble perm.length ops.length = true) (B : List (Nat × Value)) (a b : List UInt8) (h0 : wkl sl B) (x y : Blk) (hx : x ∈ hp) (hy : y ∈ hp)
    (hstep : x ∈ hp → y ∈ hp → ∀ l s j o, ops.toArray[j]? = some o → l j = false → (∀ i, l i = true → ∀ k ∈ bindsIn ops.toArray i, l k = true) → (∀ k ∈ bindsIn ops.toArray j, l k = true) → J15 B hp a b l s → Tr C ops.toArray [(4, o)] s (J15 B hp a b (also j l)))
    (hend : ∀ l s, (∀ j, j < ops.toArray.size → l j = true) → J15 B hp a b l s → Q .normal s) : Sat C (.region id ops.toArray true) ⟨sl, hp⟩ Q :=
  Sat.any perm hm ht ha hlen (J15 B hp a b) (A15.start (s := ⟨sl, hp⟩) (wkl_mem h0)) (hstep hx hy) hend
theorem not_yet {l : Nat → Bool} {bi : Nat → List Nat} (hs : ∀ i, l i = true → ∀ k ∈ bi i, l k = true) {k : Nat} (hk : l k = false) (i : Nat) (hi : (bi i).contains k = true) : l i = false := by
  cases h : l i with
  | false => rfl
  | true =>
    have := hs i h k (by simpa using hi)
    rw [hk] at this; cases this
theorem is_done {l : Nat → Bool} {bs : List Nat} (hb : ∀ k ∈ bs, l k = true) (k : Nat) (hk : bs.contains k = true) : l k = true := hb k (by simpa using hk)

theorem law_dagcloses (s : Sl) (ds : List DB) (i k : Int) : Meets Tryz.prog 7 [s.v, i64 i, i64 k] [] (fun W => BlocksAt W s ds) (fun v out => v = .bool true ∧ out = []) := by
  intro W hW
  refine Ad Tryz.func7 J 250 Tryz.ntmps7 J (G8 ?_)
  refine .cV J J J J Body8 (law16_lives) tV (G3 ?_)
  refine .cond_f J J (G6 ?_)
  refine .cV J J J J Body9 (law16_smallD s ds) (fun w h => Blocks_ext h J hW) (G3 ?_)
  refine .cond J (fun hc1 => ?_) (fun hc1 => ?_)
  ·
    refine G5 ?_
    -- ret
    refine G3 ?_
    refine A1 (out := []) (An J J) Aj ?_
    exact ⟨rfl, rfl⟩
  have hsm0 : lightOf lightBf ds 24 = true := by simpa using hc1
  obtain ⟨hd24, hsm⟩ := light_at hsm0
  obtain ⟨rs0, hs0⟩ := hW
  have hsn0 := hs0.nd
  have hW : BlocksAt W s ds := ⟨rs0, hs0⟩
  refine G5 ?_
  refine .call4 J J J J J Body27 (law16_filled s ds oM hsm) (fun w h => Blocks_ext h J hW) ?_
  rintro v33 out33 ⟨p, x, rfl, rfl, hx, hplx, hnx⟩
  have hI : x.pl.Inv := by rw [hplx]; exact PD.Inv.fill ds PD.Inv.new
  have hck : ∀ q ∈ x.P, q.2.check = 0 := hI.ck
  have h16 : ∀ q ∈ x.P, q.2.ls.length ≤ 16 := fun q hq => (ck_small (hck q hq)).1
  have hnm : x.pl.names.length = x.names.length := rfl
  have hh32 : ∀ l ∈ x.pl.heads, l.length = 32 := fun l hl => by obtain ⟨q, hq, e⟩ := List.mem_map.1 ((heads_mem _ _).1 hl); rw [← e]; exact hx.hds q hq
  have hhl : x.pl.heads.length ≤ x.names.length := by rw [heads_len]; exact hx.hdsn
  refine G6 ?_
  refine .call4 J J J J J Body14 (dag_names x hx p) (fun w h => Lies.of h (by repeat (exact Ay))) ?_
  rintro v35 out8 ⟨s8, rfl, hac8⟩
  have hn8 := hac8.num
  refine G11 ?_
  refine .condP J (fun hc2 => ?_) (fun hc2 => ?_)
  ·
    refine G3 ?_
    refine .call4 J J J J J Body15 (dag_heads x hx p) (fun w h => Lies.of h (by repeat (first | exact Ay | refine Bp ?_))) ?_
    rintro v40 out40 ⟨s40, rfl, hac40⟩
    have hn40 := hac40.num
    have hh0 := heads_none hI oM
    refine G1 ?_
    refine .eqi J J J J (decide_eq_true (oM)) (G3 ?_)
    -- ret
    refine G3 ?_
    refine A1 (out := []) (An J J) Aj ?_
    exact ⟨rfl, rfl⟩
  have hn80 : 0 < x.pl.names.length := by omega
  obtain ⟨q8, c8, hs8, see8⟩ := row_open hac8 hx.n32 hn80
  have hp8 : s8.p = some ⟨q8, 0, none⟩ := by rw [hs8]
  have hn8b := hac8.num
  have hpi := pickN_lt i (n := s8.n) oM
  have hpk := pickN_lt k (n := s8.n) oM
  obtain ⟨a, hadef⟩ : ∃ a, a = x.pl.names.getD (pickN i s8.n) [] := ⟨_, rfl⟩
  obtain ⟨b, hbdef⟩ : ∃ b, b = x.pl.names.getD (pickN k s8.n) [] := ⟨_, rfl⟩
  have hPa := (names_mem hI a).1 (by rw [hadef]; exact getD_mem oM)
  have hPb := (names_mem hI b).1 (by rw [hbdef]; exact getD_mem oM)
  have ha32 := P32 hx hPa
  have hb32 := P32 hx hPb
  refine G3 ?_
  refine .withK (sp_s (sp_x sp_n)) J (.draw [(0, 0), (0, 1), (0, 2), (0, 3), (0, 7), (0, 8), (0, 9), (0, 10), (3, 4), (0, 5), (0, 6), (3, 11), (0, 12), (0, 13), (2, 14), (2, 15), (4, 16), (4, 17)] Aq zK (G8 ?_))
  refine .cV J J J J Body30 (kit_pickN i s8.n oM oM) tV (.idxSlP 32 J J J hp8 J Y26.h Sz25 (pickN i s8.n) J oM (.kloadSN (n := 32) (Aa a) J J J Y25.h J Sz25 (by rw [Aa, List.length_map]; exact ha32) (fun w h => by rw [hadef]; exact see8 (pickN i s8.n) oM w (fun b0 hb0 => h b0 (by simp [Cx.with, hb0]))) ?_))
  refine .cV J J J J Body30 (kit_pickN k s8.n oM oM) tV (.idxSlP 32 J J J hp8 J Y26.h Sz25 (pickN k s8.n) J oM (.kloadSN (n := 32) (Aa b) J J J Y25.h J Sz25 (by rw [Aa, List.length_map]; exact hb32) (fun w h => by rw [hbdef]; exact see8 (pickN k s8.n) oM w (fun b0 hb0 => h b0 (by simp [Cx.with, hb0]))) ?_))
  refine .alloc (cs := (Aa (List.replicate 32 0))) J Zr25 J ?_
  intro n9 hn9 hf9
  refine .alloc (cs := (Aa (List.replicate 32 0))) J Zr25 J ?_
  intro n10 hn10 hf10
  refine .sA J J J J zE Sz25 (by (simp [ha32]; done)) Z1 sP zV ?_
  refine .sA J J J J zE Sz25 (by (simp [hb32]; done)) Z0 sP zU ?_
  refine G4 ?_
  simp only [List.cons_append, List.nil_append, List.append_assoc]
  refine G1 ?_
  refine .lA J J J Y25.h J Sz25 Z1 (by (simp [ha32]; done)) ?_
  refine .lA J J J Y25.h J Sz25 Z0 (by (simp [hb32]; done)) ?_
  refine .mkRow (z := agg (Aa (List.replicate 32 0))) [agg (Aa a), agg (Aa b)] (A2 [a, b]) J J J Y26.h Sz25 Zr25 J J (by intro v hv; simp only [List.mem_cons, List.not_mem_nil, or_false] at hv; rcases hv with rfl | rfl <;> simp [Value.cells, Aa, ha32, hb32]) dE (by simp [Value.cells, agg, A2]) ?_
  intro q61
  refine .call4 J J J J J Body12 (dag_closure x hx h16 p ⟨some ⟨q61, 0, none⟩, 2, 2⟩ [a, b] (by show 2 ≤ 90000; omega)) (fun w h => ⟨Lies.of h (by repeat (first | exact Ay | refine A0 ?_)), row_two ha32 hb32 (As h Z0)⟩) ?_
  rintro v62 out62 (⟨⟨n, hn, h0⟩, _⟩ | ⟨hall, s62, xs, rfl, hac62, hso, hnd, hxs⟩)
  · exfalso
    rcases List.mem_cons.1 hn with rfl | hn
    · obtain ⟨D, hD⟩ := hPa; rw [h0] at hD; cases hD
    · rw [List.mem_singleton.1 hn] at h0; obtain ⟨D, hD⟩ := hPb; rw [h0] at hD; cases hD
  have C : Clo x.pl a b xs := ⟨hI, hnd, hxs, hPa, hPb⟩
  have hxl : xs.length ≤ x.pl.names.length := nd_len hnd (fun n hn => (names_mem hI n).2 (C.at hn))
  have hx32 : ∀ l ∈ xs, l.length = 32 := fun l hl => P32 hx (C.at hl)
  obtain ⟨q62, c62, hs62, see62⟩ := row_open hac62 hx32 (List.length_pos_of_mem C.has_a)
  have hp62 : s62.p = some ⟨q62, 0, none⟩ := by rw [hs62]
  have hn62 := hac62.num
  refine G10 ?_
  refine .call4 J J J J J Body15 (dag_heads x hx p) (fun w h => Lies.of h (by repeat (first | exact Ay | refine A0 ?_ | refine Bp ?_))) ?_
  rintro v66 out66 ⟨s66, rfl, hac66⟩
  obtain ⟨Da, hDa⟩ := hPa
  obtain ⟨q66, c66, hs66, see66⟩ := row_open hac66 hh32 (heads_ne hI hDa)
  have hp66 : s66.p = some ⟨q66, 0, none⟩ := by rw [hs66]
  have hn66 := hac66.num
  refine G7 ?_
  refine .call4 J J J J J Body12 (dag_closure x hx h16 p s66 x.pl.heads oM) (fun w h => ⟨Lies.of h (by repeat (first | exact Ay | refine A0 ?_ | refine Bp ?_)), acc_rows hac66 (Lies.of h (by repeat (exact Ay))) hh32 J oM⟩) ?_
  rintro v70 out70 (⟨⟨n, hn, h0⟩, _⟩ | ⟨hall2, s70, al, rfl, hac70, hso2, hnd2, hal⟩)
  · exfalso
    obtain ⟨⟨D, hD⟩, _⟩ := (hI.hd n).1 ((heads_mem _ _).1 hn)
    rw [h0] at hD; cases hD
  have hlen := all_len hI hnd2 hal
  have hn70 := hac70.num
  refine G11 ?_
  refine .nei J J J J (show (!decide _) = false from congrArg not (decide_eq_true (rfl))) (G2 ?_)
  refine .nei J J J J (show (!decide _) = false from congrArg not (decide_eq_true (rfl))) (G6 ?_)
  refine .nei J J J J (show (!decide _) = false from congrArg not (decide_eq_true (oM))) (G3 ?_)
  refine .cond_f J J (G2 ?_)
  refine .join (ι := (Nat × Nat) × List (List UInt8 × Int) × List (List UInt8 × Int)) (fun q => ⟨[(7, ptr p 0), (8, s8.v), (9, ptr n9 0), (10, ptr n10 0), (11, s62.v), (13, s66.v), (16, .map (some q.1.1)), (17, .map (some q.1.2))], (Aw q.1.1 (Am 32 evI) q.2.1 :: (Aw q.1.2 (Am 32 evI) q.2.2 :: (⟨n9, Aa a, 25, 32⟩ :: (⟨n10, Aa b, 25, 32⟩ :: (out8 ++ (out62 ++ (out66 ++ (x.blks p ++ []))))))))⟩) (fun q => KI q.2.1 (fun k => k = a ∨ k = b) ∧ KI q.2.2 (fun k => k = a ∨ k = b)) ?_ ?_
  ·
    have h32a15 := ha32
    have h32b15 := hb32
    refine any15 [(0, 0), (0, 1), (0, 2), (0, 3), (0, 4), (0, 5), (0, 6), (0, 7), (0, 8), (0, 9), (0, 10), (0, 11), (0, 12), (0, 13)] Aq zK zK J ([(7, ptr p 0), (8, s8.v), (9, ptr n9 0), (10, ptr n10 0), (11, s62.v), (13, s66.v)]) a b (wk1 J (wk1 J (wk1 J (wk1 J (wk1 J (wk1 J wk0)))))) ⟨n9, Aa a, 25, 32⟩ ⟨n10, Aa b, 25, 32⟩ mR mR ?_ ?_
    · rintro hK9 hK10 l ⟨sl, hp⟩ j o hj hl hs hb ⟨m1, m2, f1, f2, h⟩
      have h14 : j < 14 := (Array.getElem?_eq_some_iff.1 hj).1
      obtain rfl | rfl | rfl | rfl | rfl | rfl | rfl | rfl | rfl | rfl | rfl | rfl | rfl | rfl : j = 0 ∨ j = 1 ∨ j = 2 ∨ j = 3 ∨ j = 4 ∨ j = 5 ∨ j = 6 ∨ j = 7 ∨ j = 8 ∨ j = 9 ∨ j = 10 ∨ j = 11 ∨ j = 12 ∨ j = 13 := by omega
      all_goals (have e := Option.some.inj hj; subst e)
      ·
        have l0 := hl
        have nn := fun i hi => not_yet hs l0 i hi
        refine .mkMap (Am 32 evI) J J ?_
        intro n
        exact .nil (h.mk1 l0 (nn 2 zK) (nn 4 zK) (nn 5 zK) (nn 12 zK) (by intro e he; simp at he; rcases he with rfl | rfl | rfl | rfl | rfl | rfl <;> simp) n)
      ·
        refine .lA J J (show Hw.look sl 9 = some (ptr n9 0) from h.bs (9, ptr n9 0) sP) Y25.h J Sz25 (h.hp.symm.subset (List.mem_append_right _ (List.mem_append_right _ hK9))) (by rw [Aa, List.length_map]; exact h32a15) (.nil ?_)
        exact h.put (by simp [T15]) dE (by intro e he; simp at he; rcases he with rfl | rfl | rfl | rfl | rfl | rfl <;> simp)
      ·
        have l0 := is_done hb 0 zK
        have l1 := is_done hb 1 zK
        obtain ⟨R, hR1, hR2⟩ := h.at1 l0
        refine .mapIns (v := (1 : Int)) MI J J (show Hw.look sl 86 = some _ from h.fs (0, 86, .map (some m1)) (by simp [T15]) l0) (show Hw.look sl 87 = some _ from h.fs (1, 87, agg (Aa a)) (by simp [T15]) l1) J ha32 hR1 (.nil ?_)
        exact h.ins1 ha32 l0 (.inl ⟨rfl, rfl⟩) hR2
      ·
        refine .lA J J (show Hw.look sl 10 = some (ptr n10 0) from h.bs (10, ptr n10 0) sP) Y25.h J Sz25 (h.hp.symm.subset (List.mem_append_right _ (List.mem_append_right _ hK10))) (by rw [Aa, List.length_map]; exact h32b15) (.nil ?_)
        exact h.put (by simp [T15]) dE (by intro e he; simp at he; rcases he with rfl | rfl | rfl | rfl | rfl | rfl <;> simp)
      ·
        have l0 := is_done hb 0 zK
        have l1 := is_done hb 3 zK
        obtain ⟨R, hR1, hR2⟩ := h.at1 l0
        refine .mapIns (v := (1 : Int)) MI J J (show Hw.look sl 86 = some _ from h.fs (0, 86, .map (some m1)) (by simp [T15]) l0) (show Hw.look sl 88 = some _ from h.fs (3, 88, agg (Aa b)) (by simp [T15]) l1) J hb32 hR1 (.nil ?_)
        exact h.ins1 hb32 l0 (.inr ⟨rfl, rfl⟩) hR2
      ·
        refine .m J J (show Hw.look sl 86 = some (.map (some m1)) from h.fs (0, 86, .map (some m1)) (by simp [T15]) (is_done hb 0 zK)) (.nil ?_)
        exact h.put (by simp [T15]) dE (by intro e he; simp at he; rcases he with rfl | rfl | rfl | rfl | rfl | rfl <;> simp)
      ·
        have l0 := hl
        have nn := fun i hi => not_yet hs l0 i hi
        refine .mkMap (Am 32 evI) J J ?_
        intro n
        exact .nil (h.mk2 l0 (nn 8 zK) (nn 10 zK) (nn 11 zK) (nn 13 zK) (by intro e he; simp at he; rcases he with rfl | rfl | rfl | rfl | rfl | rfl <;> simp) n)
      ·
        refine .lA J J (show Hw.look sl 9 = some (ptr n9 0) from h.bs (9, ptr n9 0) sP) Y25.h J Sz25 (h.hp.symm.subset (List.mem_append_right _ (List.mem_append_right _ hK9))) (by rw [Aa, List.length_map]; exact h32a15) (.nil ?_)
        exact h.put (by simp [T15]) dE (by intro e he; simp at he; rcases he with rfl | rfl | rfl | rfl | rfl | rfl <;> simp)
      ·
        have l0 := is_done hb 6 zK
        have l1 := is_done hb 7 zK
        obtain ⟨R, hR1, hR2⟩ := h.at2 l0
        refine .mapIns (v := (1 : Int)) MI J J (show Hw.look sl 90 = some _ from h.fs (6, 90, .map (some m2)) (by simp [T15]) l0) (show Hw.look sl 91 = some _ from h.fs (7, 91, agg (Aa a)) (by simp [T15]) l1) J ha32 hR1 (.nil ?_)
        exact h.ins2 ha32 l0 (.inl ⟨rfl, rfl⟩) hR2
      ·
        refine .lA J J (show Hw.look sl 10 = some (ptr n10 0) from h.bs (10, ptr n10 0) sP) Y25.h J Sz25 (h.hp.symm.subset (List.mem_append_right _ (List.mem_append_right _ hK10))) (by rw [Aa, List.length_map]; exact h32b15) (.nil ?_)
        exact h.put (by simp [T15]) dE (by intro e he; simp at he; rcases he with rfl | rfl | rfl | rfl | rfl | rfl <;> simp)
      ·
        have l0 := is_done hb 6 zK
        have l1 := is_done hb 9 zK
        obtain ⟨R, hR1, hR2⟩ := h.at2 l0
        refine .mapIns (v := (1 : Int)) MI J J (show Hw.look sl 90 = some _ from h.fs (6, 90, .map (some m2)) (by simp [T15]) l0) (show Hw.look sl 92 = some _ from h.fs (9, 92, agg (Aa b)) (by simp [T15]) l1) J hb32 hR1 (.nil ?_)
        exact h.ins2 hb32 l0 (.inr ⟨rfl, rfl⟩) hR2
      ·
        refine .m J J (show Hw.look sl 90 = some (.map (some m2)) from h.fs (6, 90, .map (some m2)) (by simp [T15]) (is_done hb 6 zK)) (.nil ?_)
        exact h.put (by simp [T15]) dE (by intro e he; simp at he; rcases he with rfl | rfl | rfl | rfl | rfl | rfl <;> simp)
      ·
        refine .a J J (show Hw.look sl 89 = some (.map (some m1)) from h.fs (5, 89, .map (some m1)) (by simp [T15]) (is_done hb 5 zK)) (.nil ?_)
        exact h.put (by simp [T15]) dE (by intro e he; simp at he; rcases he with rfl | rfl | rfl | rfl | rfl | rfl <;> simp)
      refine .a J J (show Hw.look sl 93 = some (.map (some m2)) from h.fs (11, 93, .map (some m2)) (by simp [T15]) (is_done hb 11 zK)) (.nil ?_)
      exact h.put (by simp [T15]) dE (by intro e he; simp at he; rcases he with rfl | rfl | rfl | rfl | rfl | rfl <;> simp)
    · rintro l ⟨sl, hp⟩ hall ⟨m1, m2, f1, f2, h⟩
      refine Cn ?_
      exact ⟨((m1, m2), f1, f2), ⟨h.k1.iff (fun n => by simp [hall 2 dE, hall 4 dE]), h.k2.iff (fun n => by simp [hall 8 dE, hall 10 dE])⟩, weak_tr (h.fin (hall 0 dE) (hall 6 dE)) (Al (wk1 (h.bs (7, ptr p 0) sP) (wk1 (h.bs (8, s8.v) sP) (wk1 (h.bs (9, ptr n9 0) sP) (wk1 (h.bs (10, ptr n10 0) sP) (wk1 (h.bs (11, s62.v) sP) (wk1 (h.bs (13, s66.v) sP) (wk1 (h.fs (12, 16, .map (some m1)) (by simp [T15]) (hall 12 dE)) (wk1 (h.fs (13, 17, .map (some m2)) (by simp [T15]) (hall 13 dE)) wk0)))))))) (Ab rM (Ab rM (Ab rM (Ab rM (Ac (by repeat (first | exact Ce | apply sg_seg | apply sg_there)) (Ac (by repeat (first | exact Ce | apply sg_seg)) (Ac (by repeat (first | exact Ce | apply sg_seg)) (Ac (by repeat (first | exact Ce | apply sg_seg | apply sg_there)) Aj)))))))))⟩
  intro q hj
  obtain ⟨⟨m86, m90⟩, im0, lm0⟩ := q
  obtain ⟨him0, hlm0⟩ := hj
  simp only at him0 hlm0 ⊢
  refine G7 ?_
  refine .loop (ι := Nat × List (List UInt8 × Int)) (fun r => ⟨[(7, ptr p 0), (8, s8.v), (9, ptr n9 0), (10, ptr n10 0), (11, s62.v), (13, s66.v), (16, .map (some m86)), (17, .map (some m90)), (18, i64 (r.1 : Int))], (Aw m86 (Am 32 evI) r.2 :: (Aw m90 (Am 32 evI) lm0 :: (⟨n9, Aa a, 25, 32⟩ :: (⟨n10, Aa b, 25, 32⟩ :: (out8 ++ (out62 ++ (out66 ++ (x.blks p ++ []))))))))⟩) (fun r => r.1 ≤ xs.length ∧ KI r.2 (fun n => n = a ∨ n = b ∨ n ∈ xs.take r.1)) (fun r => xs.length - r.1) ((0, im0)) ?_ ?_ ?_
  · exact ⟨Nat.zero_le _, him0.iff (fun k => by simp)⟩
  · exact Al (wk1 rfl (wk1 rfl (wk1 rfl (wk1 rfl (wk1 rfl (wk1 rfl (wk1 rfl (wk1 rfl (wk1 rfl wk0))))))))) (Ab rM (Ab rM (Ab rM (Ab rM (Ac sG (Ac sG (Ac sG (Ac sG Aj))))))))
  rintro ⟨j, im⟩ ⟨hj0, him⟩
  simp only at hj0 him ⊢
  refine G9 ?_
  refine .condP J (fun hc4 => ?_) (fun hc4 => ?_)
  ·
    have hjkk : j < xs.length := by omega
    obtain ⟨kk, hkk⟩ : ∃ kk, kk = xs.getD j [] := ⟨_, rfl⟩
    have hmkk : kk ∈ xs := by rw [hkk]; exact getD_mem hjkk
    have h32kk : kk.length = 32 := hx32 _ hmkk
    refine G9 ?_
    refine .idxSlP 32 J J J hp62 J Y26.h Sz25 j J oM (.loadSN (n := 32) (Aa kk) J J J Y25.h J Sz25 (by rw [Aa, List.length_map]; exact h32kk) (fun w h => by rw [hkk]; exact see62 j hjkk w (Lies.of h (by repeat (first | exact Ay | refine A0 ?_ | refine Bp ?_)))) ?_)
    refine .mapPut (v := (1 : Int)) MI J J J J J h32kk rM ?_
    refine G2 ?_
    refine .join (ι := Unit) (fun u => ⟨[(7, ptr p 0), (8, s8.v), (9, ptr n9 0), (10, ptr n10 0), (11, s62.v), (13, s66.v), (16, .map (some m86)), (17, .map (some m90)), (18, i64 (j : Int)), (119, .bool false)], (Aw m86 (Am 32 evI) (Bg im kk 1) :: (Aw m90 (Am 32 evI) lm0 :: (⟨n9, Aa a, 25, 32⟩ :: (⟨n10, Aa b, 25, 32⟩ :: (out8 ++ (out62 ++ (out66 ++ (x.blks p ++ []))))))))⟩) (fun u => True) ?_ ?_
    ·
      refine .draw [(0, 0), (0, 1), (0, 2), (0, 3), (0, 4), (0, 5), (0, 6), (1, 7), (0, 8), (0, 9), (0, 10), (1, 11), (3, 12), (0, 13), (0, 14)] Aq zK (G1 ?_)
      refine two (fun r hr k => Tr.gtr J J J J hr k) (fun hs20_10 => ?_) (fun hs20_10 => ?_)
      ·
        have hs20_1 := of_decide_eq_true hs20_10
        refine G4 ?_
        refine .idxSlP 32 J J J hp62 J Y26.h Sz25 (j - 1) oM oM (.loadSN (n := 32) (Aa (xs.getD (j - 1) [])) J J J Y25.h J Sz25 (by rw [Aa, List.length_map]; exact hx32 _ (getD_mem oM)) (fun w h => see62 (j - 1) oM w (Lies.of h (by repeat (first | exact Ay | refine A0 ?_ | refine Bp ?_)))) ?_)
        refine G2 ?_
        refine .idxSlP 32 J J J hp62 J Y26.h Sz25 j J oM (.loadSN (n := 32) (Aa kk) J J J Y25.h J Sz25 (by rw [Aa, List.length_map]; exact h32kk) (fun w h => by rw [hkk]; exact see62 j hjkk w (Lies.of h (by repeat (first | exact Ay | refine A0 ?_ | refine Bp ?_)))) ?_)
        refine .cV J J J J Body28 (r15_cmp (xs.getD (j - 1) []) kk (hx32 _ (getD_mem oM)) h32kk) tV (.geq J J J J (decide_eq_false ((by have h9 := sort_lt hso C.nd oM hjkk; rw [← hkk] at h9; omega))) ?_)
        refine G3 ?_
        exact ⟨(), trivial, Al (wk1 rfl (wk1 rfl (wk1 rfl (wk1 rfl (wk1 rfl (wk1 rfl (wk1 rfl (wk1 rfl (wk1 rfl (wk1 rfl wk0)))))))))) (Ab rM (Ab rM (Ab rM (Ab rM (Ac sG (Ac sG (Ac sG (Ac sG Aj))))))))⟩
      have hs20_1 := of_decide_eq_false hs20_10
      refine G15 ?_
      exact ⟨(), trivial, Al (wk1 rfl (wk1 rfl (wk1 rfl (wk1 rfl (wk1 rfl (wk1 rfl (wk1 rfl (wk1 rfl (wk1 rfl (wk1 rfl wk0)))))))))) (Ab rM (Ab rM (Ab rM (Ab rM (Ac sG (Ac sG (Ac sG (Ac sG Aj))))))))⟩
    intro u hj
    skip
    refine .cond_f J J (G9 ?_)
    exact ⟨(j + 1, Bg im kk 1), ⟨by simp only; omega, him.put h32kk (fun n => by simp only; rw [take_mem hjkk, ← hkk, or_assoc, or_assoc])⟩, by simp only; omega, Al (wk1 rfl (wk1 rfl (wk1 rfl (wk1 rfl (wk1 rfl (wk1 rfl (wk1 rfl (wk1 rfl (wk1 rfl wk0))))))))) (Ab rM (Ab rM (Ab rM (Ab rM (Ac sG (Ac sG (Ac sG (Ac sG Aj))))))))⟩
  have hje : j = xs.length := by omega
  have hI0 : KI im (fun n => n ∈ xs) := him.iff (fun n => by rw [hje, List.take_length]; exact ⟨fun h => .inr (.inr h), fun h => by rcases h with rfl | rfl | h; exact C.has_a; exact C.has_b; exact h⟩)
  refine G12 ?_
  refine .loop (ι := Nat × List (List UInt8 × Int)) (fun r => ⟨[(7, ptr p 0), (8, s8.v), (9, ptr n9 0), (10, ptr n10 0), (11, s62.v), (13, s66.v), (16, .map (some m86)), (17, .map (some m90)), (19, i64 (r.1 : Int))], (Aw m86 (Am 32 evI) im :: (Aw m90 (Am 32 evI) r.2 :: (⟨n9, Aa a, 25, 32⟩ :: (⟨n10, Aa b, 25, 32⟩ :: (out8 ++ (out62 ++ (out66 ++ (x.blks p ++ []))))))))⟩) (fun r => r.1 ≤ xs.length ∧ KI r.2 (fun n => n = a ∨ n = b ∨ ∃ m ∈ xs.take r.1, ∃ D, Au x.pl.P m = some D ∧ n ∈ Bn D)) (fun r => xs.length - r.1) ((0, lm0)) ?_ ?_ ?_
  · exact ⟨Nat.zero_le _, hlm0.iff (fun k => by simp)⟩
  · exact Al (wk1 rfl (wk1 rfl (wk1 rfl (wk1 rfl (wk1 rfl (wk1 rfl (wk1 rfl (wk1 rfl (wk1 rfl wk0))))))))) (Ab rM (Ab rM (Ab rM (Ab rM (Ac sG (Ac sG (Ac sG (Ac sG Aj))))))))
  rintro ⟨j, lm⟩ ⟨hj1, hlm⟩
  simp only at hj1 hlm ⊢
  refine G9 ?_
  refine .condP J (fun hc6 => ?_) (fun hc6 => ?_)
  ·
    have hjkk : j < xs.length := by omega
    obtain ⟨kk, hkk⟩ : ∃ kk, kk = xs.getD j [] := ⟨_, rfl⟩
    have hmkk : kk ∈ xs := by rw [hkk]; exact getD_mem hjkk
    have h32kk : kk.length = 32 := hx32 _ hmkk
    refine G9 ?_
    refine .idxSlP 32 J J J hp62 J Y26.h Sz25 j J oM (.loadSN (n := 32) (Aa kk) J J J Y25.h J Sz25 (by rw [Aa, List.length_map]; exact h32kk) (fun w h => by rw [hkk]; exact see62 j hjkk w (Lies.of h (by repeat (first | exact Ay | refine A0 ?_ | refine Bp ?_)))) ?_)
    refine .call4 J J J J J Body11 (dag_get x hx hck p kk h32kk) (fun w h => Lies.of h (by repeat (first | exact Ay | refine A0 ?_ | refine Bp ?_))) ?_
    rintro v132 out132 (⟨h0, _⟩ | ⟨D, B, hD, hB, rfl, hbi⟩)
    · exfalso
      obtain ⟨D, hD⟩ := C.at hmkk
      rw [h0] at hD; cases hD
    have hD16 : D.ls.length ≤ 16 := h16 _ (B5 hD)
    refine G3 ?_
    refine .alloc (cs := Block.zero.cells) J Block.zr J ?_
    intro n20 hn20 hf20
    refine .sA J J J J (Block.isCell (by exact hB.ok)) Sz31 (Block.length (by exact hB.ok)) Z0 (Block.length (by exact Block.zero_ok)) zU ?_
    refine G4 ?_
    refine .know (fun w h => (hbi w (Lies.of h (by repeat (first | exact Ay | refine A0 ?_)))).dok) (fun hdok => ?_)
    have hprow := parL_row hdok
    refine .region (.lA J J J Y31.h J Sz31 Z0 (Block.length (by exact hB.ok)) ?_)
    refine .call4 J J J J J Body31 (r15_Parents B D oM) (fun w h => hbi w (Lies.of h (by repeat (first | exact Ay | refine A0 ?_)))) ?_
    rintro v136 out136 ⟨sP, rfl, hnP, hseeP⟩
    have hp17 : (Bn D).length ≤ 17 := by have := parL_len D; omega
    refine G9 ?_
    refine .loop (ι := Nat × List (List UInt8 × Int)) (fun y => ⟨[(7, ptr p 0), (8, s8.v), (9, ptr n9 0), (10, ptr n10 0), (11, s62.v), (13, s66.v), (16, .map (some m86)), (17, .map (some m90)), (19, i64 (j : Int)), (22, sP.v), (23, i64 (y.1 : Int))], (Aw m86 (Am 32 evI) im :: (Aw m90 (Am 32 evI) y.2 :: (⟨n9, Aa a, 25, 32⟩ :: (⟨n10, Aa b, 25, 32⟩ :: (out8 ++ (out62 ++ (out66 ++ (x.blks p ++ (out136 ++ [])))))))))⟩) (fun y => y.1 ≤ (Bn D).length ∧ KI y.2 (fun n => (n = a ∨ n = b ∨ ∃ m ∈ xs.take j, ∃ D, Au x.pl.P m = some D ∧ n ∈ Bn D) ∨ n ∈ (Bn D).take y.1)) (fun y => (Bn D).length - y.1) ((0, lm)) ?_ ?_ ?_
    · exact ⟨Nat.zero_le _, hlm.iff (fun n => by simp)⟩
    · exact Al (wk1 rfl (wk1 rfl (wk1 rfl (wk1 rfl (wk1 rfl (wk1 rfl (wk1 rfl (wk1 rfl (wk1 rfl (wk1 rfl (wk1 rfl wk0))))))))))) (Ab rM (Ab rM (Ab rM (Ab rM (Ac sG (Ac sG (Ac sG (Ac sG (Ac sG Aj)))))))))
    rintro ⟨i2, lm2⟩ ⟨hi2, hlm2⟩
    simp only at hi2 hlm2 ⊢
    refine G2 ?_
    refine .know (F := 0 < (Bn D).length → ∃ b o, sP.p = some ⟨b, o, none⟩) (fun w h h0 => by obtain ⟨b, o, e, _⟩ := (hseeP w (Lies.of h (by repeat (first | exact Ay | refine A0 ?_ | refine Bp ?_)))).at (by rw [A9 hprow]; omega); exact ⟨b, o, e⟩) (fun hptr => ?_)
    refine G7 ?_
    refine .condP J (fun hc7 => ?_) (fun hc7 => ?_)
    ·
      have hjpp : i2 < (Bn D).length := by omega
      obtain ⟨bP, oP, hpP⟩ := hptr oM
      obtain ⟨pp, hpp⟩ : ∃ kk, kk = (Bn D).getD i2 [] := ⟨_, rfl⟩
      have hmpp : pp ∈ Bn D := by rw [hpp]; exact getD_mem hjpp
      have h32pp : pp.length = 32 := hprow _ hmpp
      have seeP : ∀ w, Lies out136 w → Sees w bP (oP + i2 * 32) (Aa pp) := fun w hw => by rw [hpp]; refine sees_row hprow ?_ hjpp; have h9 := hseeP w hw; intro j9 v9 hj9; obtain ⟨b9, o9, e9, f9⟩ := h9 j9 v9 hj9; rw [hpP] at e9; cases e9; exact f9
      refine G10 ?_
      refine .idxSlP 32 J J J hpP J Y26.h Sz25 i2 J oM (.loadSN (n := 32) (Aa pp) J J J Y25.h J Sz25 (by rw [Aa, List.length_map]; exact h32pp) (fun w h => seeP w (Lies.of h (by repeat (first | exact Ay | refine A0 ?_ | refine Bp ?_)))) ?_)
      refine .lookG evI MI J J J J h32pp Z0 (fun hg => ?_) (fun v hg => ?_)
      ·
        exfalso; exact hI0.no hg (C.par hmkk hD hmpp)
      obtain ⟨rfl, _⟩ := hI0.yes hg
      refine .eqi J J J J (decide_eq_false (dE)) (G2 ?_)
      refine .cond_f J J (G6 ?_)
      refine .idxSlP 32 J J J hpP J Y26.h Sz25 i2 J oM (.loadSN (n := 32) (Aa pp) J J J Y25.h J Sz25 (by rw [Aa, List.length_map]; exact h32pp) (fun w h => seeP w (Lies.of h (by repeat (first | exact Ay | refine A0 ?_ | refine Bp ?_)))) ?_)
      refine .mapPut (v := (1 : Int)) MI J J J J J h32pp rM ?_
      refine G9 ?_
      exact ⟨(i2 + 1, Bg lm2 pp 1), ⟨by simp only; omega, hlm2.put h32pp (fun n => by simp only [take_mem hjpp, ← hpp, or_assoc])⟩, by simp only; omega, Al (wk1 rfl (wk1 rfl (wk1 rfl (wk1 rfl (wk1 rfl (wk1 rfl (wk1 rfl (wk1 rfl (wk1 rfl (wk1 rfl (wk1 rfl wk0))))))))))) (Ab rM (Ab rM (Ab rM (Ab rM (Ac sG (Ac sG (Ac sG (Ac sG (Ac sG Aj)))))))))⟩
    have hie : i2 = (Bn D).length := by omega
    refine G12 ?_
    exact ⟨(j + 1, lm2), ⟨by simp only; omega, hlm2.iff (fun n => by simp only; rw [hie]; exact led_step hjkk hkk hD n)⟩, by simp only; omega, Al (wk1 rfl (wk1 rfl (wk1 rfl (wk1 rfl (wk1 rfl (wk1 rfl (wk1 rfl (wk1 rfl (wk1 rfl wk0))))))))) (Ab rM (Ab rM (Ab rM (Ab rM (Ac sG (Ac sG (Ac sG (Ac sG Aj))))))))⟩
  have hje2 : j = xs.length := by omega
  have hL0 : KI lm (fun n => n = a ∨ n = b ∨ ∃ m ∈ xs, ∃ D, Au x.pl.P m = some D ∧ n ∈ Bn D) := hlm.iff (fun n => by rw [hje2, List.take_length])
  refine G12 ?_
  refine .loop (ι := Nat) (fun j => ⟨[(7, ptr p 0), (8, s8.v), (9, ptr n9 0), (10, ptr n10 0), (11, s62.v), (13, s66.v), (16, .map (some m86)), (17, .map (some m90)), (24, i64 (j : Int))], (Aw m86 (Am 32 evI) im :: (Aw m90 (Am 32 evI) lm :: (⟨n9, Aa a, 25, 32⟩ :: (⟨n10, Aa b, 25, 32⟩ :: (out8 ++ (out62 ++ (out66 ++ (x.blks p ++ []))))))))⟩) (fun j => j ≤ xs.length) (fun j => xs.length - j) (0) ?_ ?_ ?_
  · exact Nat.zero_le _
  · exact Al (wk1 rfl (wk1 rfl (wk1 rfl (wk1 rfl (wk1 rfl (wk1 rfl (wk1 rfl (wk1 rfl (wk1 rfl wk0))))))))) (Ab rM (Ab rM (Ab rM (Ab rM (Ac sG (Ac sG (Ac sG (Ac sG Aj))))))))
  rintro j hj3
  refine G9 ?_
  refine .condP J (fun hc9 => ?_) (fun hc9 => ?_)
  ·
    have hjkk : j < xs.length := by omega
    obtain ⟨kk, hkk⟩ : ∃ kk, kk = xs.getD j [] := ⟨_, rfl⟩
    have hmkk : kk ∈ xs := by rw [hkk]; exact getD_mem hjkk
    have h32kk : kk.length = 32 := hx32 _ hmkk
    refine G4 ?_
    refine .join (ι := Unit) (fun u => ⟨[(7, ptr p 0), (8, s8.v), (9, ptr n9 0), (10, ptr n10 0), (11, s62.v), (13, s66.v), (16, .map (some m86)), (17, .map (some m90)), (24, i64 (j : Int)), (187, .bool false)], (Aw m86 (Am 32 evI) im :: (Aw m90 (Am 32 evI) lm :: (⟨n9, Aa a, 25, 32⟩ :: (⟨n10, Aa b, 25, 32⟩ :: (out8 ++ (out62 ++ (out66 ++ (x.blks p ++ []))))))))⟩) (fun u => True) ?_ ?_
    ·
      refine .draw [(0, 0), (0, 1), (0, 2), (0, 3), (1, 4), (1, 5), (0, 6), (0, 7), (0, 8), (1, 9), (0, 10), (0, 11), (0, 12), (1, 13), (3, 14), (0, 15), (0, 16), (0, 17), (1, 18), (0, 19), (0, 20), (0, 21), (1, 22), (3, 23), (0, 24), (0, 25), (0, 26)] Aq zK (G3 ?_)
      refine .idxSlP 32 J J J hp62 J Y26.h Sz25 j J oM (.loadSN (n := 32) (Aa kk) J J J Y25.h J Sz25 (by rw [Aa, List.length_map]; exact h32kk) (fun w h => by rw [hkk]; exact see62 j hjkk w (Lies.of h (by repeat (first | exact Ay | refine A0 ?_ | refine Bp ?_)))) ?_)
      refine .lookG evI MI J J J J h32kk Z1 (fun hg => ?_) (fun v hg => ?_)
      ·
        exfalso; exact hL0.no hg (C.led hmkk)
      obtain ⟨rfl, _⟩ := hL0.yes hg
      refine .eqi J J J J (decide_eq_false (dE)) (G2 ?_)
      refine .lA J J J Y25.h J Sz25 Z2 (by (simp [ha32]; done)) ?_
      refine G2 ?_
      refine .idxSlP 32 J J J hp62 J Y26.h Sz25 j J oM (.loadSN (n := 32) (Aa kk) J J J Y25.h J Sz25 (by rw [Aa, List.length_map]; exact h32kk) (fun w h => by rw [hkk]; exact see62 j hjkk w (Lies.of h (by repeat (first | exact Ay | refine A0 ?_ | refine Bp ?_)))) ?_)
      refine .callB J J J J Body20 (dag_leads2 x hx C.I h16 p a kk ha32 h32kk) (fun w h => Lies.of h (by repeat (first | exact Ay | refine A0 ?_ | refine Bp ?_))) (fun hs36_140 => ?_) (fun hs36_140 => ?_)
      ·
        have hs36_14 := hs36_140
        refine G14 ?_
        exact ⟨(), trivial, Al (wk1 rfl (wk1 rfl (wk1 rfl (wk1 rfl (wk1 rfl (wk1 rfl (wk1 rfl (wk1 rfl (wk1 rfl (wk1 rfl wk0)))))))))) (Ab rM (Ab rM (Ab rM (Ab rM (Ac sG (Ac sG (Ac sG (Ac sG Aj))))))))⟩
      have hs36_14 := hs36_140
      refine G3 ?_
      refine .lA J J J Y25.h J Sz25 Z3 (by (simp [hb32]; done)) ?_
      refine G2 ?_
      refine .idxSlP 32 J J J hp62 J Y26.h Sz25 j J oM (.loadSN (n := 32) (Aa kk) J J J Y25.h J Sz25 (by rw [Aa, List.length_map]; exact h32kk) (fun w h => by rw [hkk]; exact see62 j hjkk w (Lies.of h (by repeat (first | exact Ay | refine A0 ?_ | refine Bp ?_)))) ?_)
      refine .cV J J J J Body20 (dag_leadsT x hx C.I h16 p b kk hb32 h32kk ((C.ab hmkk).resolve_left (by rw [hs36_14]; decide))) (fun w h => Lies.of h (by repeat (first | exact Ay | refine A0 ?_ | refine Bp ?_))) ?_
      refine G5 ?_
      exact ⟨(), trivial, Al (wk1 rfl (wk1 rfl (wk1 rfl (wk1 rfl (wk1 rfl (wk1 rfl (wk1 rfl (wk1 rfl (wk1 rfl (wk1 rfl wk0)))))))))) (Ab rM (Ab rM (Ab rM (Ab rM (Ac sG (Ac sG (Ac sG (Ac sG Aj))))))))⟩
    intro u hj
    skip
    refine .cond_f J J (G9 ?_)
    exact ⟨j + 1, by omega, by omega, Al (wk1 rfl (wk1 rfl (wk1 rfl (wk1 rfl (wk1 rfl (wk1 rfl (wk1 rfl (wk1 rfl (wk1 rfl wk0))))))))) (Ab rM (Ab rM (Ab rM (Ab rM (Ac sG (Ac sG (Ac sG (Ac sG Aj))))))))⟩
  refine G12 ?_
  refine .loop (ι := Nat) (fun j => ⟨[(7, ptr p 0), (8, s8.v), (9, ptr n9 0), (10, ptr n10 0), (11, s62.v), (13, s66.v), (16, .map (some m86)), (17, .map (some m90)), (25, i64 (j : Int))], (Aw m86 (Am 32 evI) im :: (Aw m90 (Am 32 evI) lm :: (⟨n9, Aa a, 25, 32⟩ :: (⟨n10, Aa b, 25, 32⟩ :: (out8 ++ (out62 ++ (out66 ++ (x.blks p ++ []))))))))⟩) (fun j => j ≤ x.pl.names.length) (fun j => x.pl.names.length - j) (0) ?_ ?_ ?_
  · exact Nat.zero_le _
  · exact Al (wk1 rfl (wk1 rfl (wk1 rfl (wk1 rfl (wk1 rfl (wk1 rfl (wk1 rfl (wk1 rfl (wk1 rfl wk0))))))))) (Ab rM (Ab rM (Ab rM (Ab rM (Ac sG (Ac sG (Ac sG (Ac sG Aj))))))))
  rintro j hj4
  refine G9 ?_
  refine .condP J (fun hc11 => ?_) (fun hc11 => ?_)
  ·
    have hjkk : j < x.pl.names.length := by omega
    obtain ⟨kk, hkk⟩ : ∃ kk, kk = x.pl.names.getD j [] := ⟨_, rfl⟩
    have hmkk : kk ∈ x.pl.names := by rw [hkk]; exact getD_mem hjkk
    have h32kk : kk.length = 32 := hx.n32 _ hmkk
    refine G5 ?_
    refine .join (ι := Unit) (fun u => ⟨[(7, ptr p 0), (8, s8.v), (9, ptr n9 0), (10, ptr n10 0), (11, s62.v), (13, s66.v), (16, .map (some m86)), (17, .map (some m90)), (25, i64 (j : Int)), (217, .bool false)], (Aw m86 (Am 32 evI) im :: (Aw m90 (Am 32 evI) lm :: (⟨n9, Aa a, 25, 32⟩ :: (⟨n10, Aa b, 25, 32⟩ :: (out8 ++ (out62 ++ (out66 ++ (x.blks p ++ []))))))))⟩) (fun u => True) ?_ ?_
    ·
      refine .draw [(0, 0), (1, 1), (0, 2), (0, 3), (0, 4), (1, 5), (0, 16), (0, 17), (0, 18), (0, 19), (1, 20), (1, 21), (0, 22), (3, 6), (0, 7), (0, 8), (1, 9), (0, 10), (0, 11), (0, 12), (1, 13), (3, 14), (0, 15), (0, 23)] Aq zK (G1 ?_)
      refine .lA J J J Y25.h J Sz25 Z2 (by (simp [ha32]; done)) ?_
      refine G2 ?_
      refine .idxSlP 32 J J J hp8 J Y26.h Sz25 j J oM (.loadSN (n := 32) (Aa kk) J J J Y25.h J Sz25 (by rw [Aa, List.length_map]; exact h32kk) (fun w h => by rw [hkk]; exact see8 j hjkk w (Lies.of h (by repeat (first | exact Ay | refine A0 ?_)))) ?_)
      refine G3 ?_
      refine .idxSlP 32 J J J hp8 J Y26.h Sz25 j J oM (.loadSN (n := 32) (Aa kk) J J J Y25.h J Sz25 (by rw [Aa, List.length_map]; exact h32kk) (fun w h => by rw [hkk]; exact see8 j hjkk w (Lies.of h (by repeat (first | exact Ay | refine A0 ?_)))) ?_)
      refine .lookG evI MI J J J J h32kk Z0 (fun hg => ?_) (fun v hg => ?_)
      ·
        have hno := C.not (hI0.no hg)
        refine G1 ?_
        refine .callB J J J J Body20 (dag_leads2 x hx C.I h16 p a kk ha32 h32kk) (fun w h => Lies.of h (by repeat (first | exact Ay | refine A0 ?_ | refine Bp ?_))) (fun hs41_60 => ?_) (fun hs41_60 => ?_)
        ·
          have hs41_6 := hs41_60
          refine G9 ?_
          refine .neb J J J J Y4 J (G2 ?_)
          (exfalso; simp_all; done)
        have hs41_6 := hs41_60
        refine G2 ?_
        refine .lA J J J Y25.h J Sz25 Z3 (by (simp [hb32]; done)) ?_
        refine G2 ?_
        refine .idxSlP 32 J J J hp8 J Y26.h Sz25 j J oM (.loadSN (n := 32) (Aa kk) J J J Y25.h J Sz25 (by rw [Aa, List.length_map]; exact h32kk) (fun w h => by rw [hkk]; exact see8 j hjkk w (Lies.of h (by repeat (first | exact Ay | refine A0 ?_)))) ?_)
        refine .callB J J J J Body20 (dag_leads2 x hx C.I h16 p b kk hb32 h32kk) (fun w h => Lies.of h (by repeat (first | exact Ay | refine A0 ?_ | refine Bp ?_))) (fun hs41_140 => ?_) (fun hs41_140 => ?_)
        ·
          have hs41_14 := hs41_140
          refine G1 ?_
          refine .neb J J J J Y4 J (G2 ?_)
          (exfalso; simp_all; done)
        have hs41_14 := hs41_140
        refine G1 ?_
        refine .neb J J J J Y4 J (G2 ?_)
        exact ⟨(), trivial, Al (wk1 rfl (wk1 rfl (wk1 rfl (wk1 rfl (wk1 rfl (wk1 rfl (wk1 rfl (wk1 rfl (wk1 rfl (wk1 rfl wk0)))))))))) (Ab rM (Ab rM (Ab rM (Ab rM (Ac sG (Ac sG (Ac sG (Ac sG Aj))))))))⟩
      obtain ⟨rfl, hin⟩ := hI0.yes hg
      have hyes := C.ab hin
      refine G1 ?_
      refine .callB J J J J Body20 (dag_leads2 x hx C.I h16 p a kk ha32 h32kk) (fun w h => Lies.of h (by repeat (first | exact Ay | refine A0 ?_ | refine Bp ?_))) (fun hs41_60 => ?_) (fun hs41_60 => ?_)
      ·
        have hs41_6 := hs41_60
        refine G9 ?_
        refine .neb J J J J Y4 J (G2 ?_)
        exact ⟨(), trivial, Al (wk1 rfl (wk1 rfl (wk1 rfl (wk1 rfl (wk1 rfl (wk1 rfl (wk1 rfl (wk1 rfl (wk1 rfl (wk1 rfl wk0)))))))))) (Ab rM (Ab rM (Ab rM (Ab rM (Ac sG (Ac sG (Ac sG (Ac sG Aj))))))))⟩
      have hs41_6 := hs41_60
      refine G2 ?_
      refine .lA J J J Y25.h J Sz25 Z3 (by (simp [hb32]; done)) ?_
      refine G2 ?_
      refine .idxSlP 32 J J J hp8 J Y26.h Sz25 j J oM (.loadSN (n := 32) (Aa kk) J J J Y25.h J Sz25 (by rw [Aa, List.length_map]; exact h32kk) (fun w h => by rw [hkk]; exact see8 j hjkk w (Lies.of h (by repeat (first | exact Ay | refine A0 ?_)))) ?_)
      refine .callB J J J J Body20 (dag_leads2 x hx C.I h16 p b kk hb32 h32kk) (fun w h => Lies.of h (by repeat (first | exact Ay | refine A0 ?_ | refine Bp ?_))) (fun hs41_140 => ?_) (fun hs41_140 => ?_)
      ·
        have hs41_14 := hs41_140
        refine G1 ?_
        refine .neb J J J J Y4 J (G2 ?_)
        exact ⟨(), trivial, Al (wk1 rfl (wk1 rfl (wk1 rfl (wk1 rfl (wk1 rfl (wk1 rfl (wk1 rfl (wk1 rfl (wk1 rfl (wk1 rfl wk0)))))))))) (Ab rM (Ab rM (Ab rM (Ab rM (Ac sG (Ac sG (Ac sG (Ac sG Aj))))))))⟩
      have hs41_14 := hs41_140
      refine G1 ?_
      refine .neb J J J J Y4 J (G2 ?_)
      (exfalso; simp_all; done)
    intro u hj
    skip
    refine .cond_f J J (G8 ?_)
    refine .loop (ι := Nat) (fun m2 => ⟨[(7, ptr p 0), (8, s8.v), (9, ptr n9 0), (10, ptr n10 0), (11, s62.v), (13, s66.v), (16, .map (some m86)), (17, .map (some m90)), (25, i64 (j : Int)), (26, i64 (m2 : Int))], (Aw m86 (Am 32 evI) im :: (Aw m90 (Am 32 evI) lm :: (⟨n9, Aa a, 25, 32⟩ :: (⟨n10, Aa b, 25, 32⟩ :: (out8 ++ (out62 ++ (out66 ++ (x.blks p ++ []))))))))⟩) (fun m2 => m2 ≤ x.pl.heads.length) (fun m2 => x.pl.heads.length - m2) (0) ?_ ?_ ?_
    · exact Nat.zero_le _
    · exact Al (wk1 rfl (wk1 rfl (wk1 rfl (wk1 rfl (wk1 rfl (wk1 rfl (wk1 rfl (wk1 rfl (wk1 rfl (wk1 rfl wk0)))))))))) (Ab rM (Ab rM (Ab rM (Ab rM (Ac sG (Ac sG (Ac sG (Ac sG Aj))))))))
    rintro m2 hm5
    refine G9 ?_
    refine .condP J (fun hc13 => ?_) (fun hc13 => ?_)
    ·
      have hjhh : m2 < x.pl.heads.length := by omega
      obtain ⟨hh, hhh⟩ : ∃ kk, kk = x.pl.heads.getD m2 [] := ⟨_, rfl⟩
      have hmhh : hh ∈ x.pl.heads := by rw [hhh]; exact getD_mem hjhh
      have h32hh : hh.length = 32 := hh32 _ hmhh
      refine G4 ?_
      refine .join (ι := Unit) (fun u => ⟨[(7, ptr p 0), (8, s8.v), (9, ptr n9 0), (10, ptr n10 0), (11, s62.v), (13, s66.v), (16, .map (some m86)), (17, .map (some m90)), (25, i64 (j : Int)), (26, i64 (m2 : Int)), (244, .bool false)], (Aw m86 (Am 32 evI) im :: (Aw m90 (Am 32 evI) lm :: (⟨n9, Aa a, 25, 32⟩ :: (⟨n10, Aa b, 25, 32⟩ :: (out8 ++ (out62 ++ (out66 ++ (x.blks p ++ []))))))))⟩) (fun u => True) ?_ ?_
      ·
        refine .draw [(0, 0), (0, 1), (0, 2), (1, 3), (0, 4), (0, 5), (0, 6), (1, 7), (0, 8), (0, 9), (0, 10), (0, 11), (0, 12), (0, 13), (1, 14), (0, 15), (0, 16), (0, 17), (1, 18), (3, 19), (0, 20)] Aq zK (G2 ?_)
        refine .idxSlP 32 J J J hp8 J Y26.h Sz25 j J oM (.loadSN (n := 32) (Aa kk) J J J Y25.h J Sz25 (by rw [Aa, List.length_map]; exact h32kk) (fun w h => by rw [hkk]; exact see8 j hjkk w (Lies.of h (by repeat (first | exact Ay | refine A0 ?_)))) ?_)
        refine G2 ?_
        refine .idxSlP 32 J J J hp66 J Y26.h Sz25 m2 J oM (.loadSN (n := 32) (Aa hh) J J J Y25.h J Sz25 (by rw [Aa, List.length_map]; exact h32hh) (fun w h => by rw [hhh]; exact see66 m2 hjhh w (Lies.of h (by repeat (first | exact Ay | refine A0 ?_ | refine Bp ?_)))) ?_)
        refine two (fun r hr k => Tr.neq_bytes J J J J Tryz.eqGuardType25 Y25.h Y5.h Sz5 zA zA hr k) (fun hs46_80 => ?_) (fun hs46_80 => ?_)
        ·
          have hs46_8 := nd_t hs46_80
          refine G4 ?_
          refine .idxSlP 32 J J J hp8 J Y26.h Sz25 j J oM (.loadSN (n := 32) (Aa kk) J J J Y25.h J Sz25 (by rw [Aa, List.length_map]; exact h32kk) (fun w h => by rw [hkk]; exact see8 j hjkk w (Lies.of h (by repeat (first | exact Ay | refine A0 ?_)))) ?_)
          refine G2 ?_
          refine .idxSlP 32 J J J hp66 J Y26.h Sz25 m2 J oM (.loadSN (n := 32) (Aa hh) J J J Y25.h J Sz25 (by rw [Aa, List.length_map]; exact h32hh) (fun w h => by rw [hhh]; exact see66 m2 hjhh w (Lies.of h (by repeat (first | exact Ay | refine A0 ?_ | refine Bp ?_)))) ?_)
          refine .cV J J J J Body20 (dag_leadsF x hx C.I h16 p kk hh h32kk h32hh (by cases hr : rB x.pl (-1) [kk] hh with | false => rfl | true => exact absurd (reach_head C.I ((heads_mem _ _).1 hmhh) (rB_iff.1 hr)).symm zA)) (fun w h => Lies.of h (by repeat (first | exact Ay | refine A0 ?_ | refine Bp ?_))) ?_
          refine G3 ?_
          exact ⟨(), trivial, Al (wk1 rfl (wk1 rfl (wk1 rfl (wk1 rfl (wk1 rfl (wk1 rfl (wk1 rfl (wk1 rfl (wk1 rfl (wk1 rfl (wk1 rfl wk0))))))))))) (Ab rM (Ab rM (Ab rM (Ab rM (Ac sG (Ac sG (Ac sG (Ac sG Aj))))))))⟩
        have hs46_8 := nd_f hs46_80
        refine G14 ?_
        exact ⟨(), trivial, Al (wk1 rfl (wk1 rfl (wk1 rfl (wk1 rfl (wk1 rfl (wk1 rfl (wk1 rfl (wk1 rfl (wk1 rfl (wk1 rfl (wk1 rfl wk0))))))))))) (Ab rM (Ab rM (Ab rM (Ab rM (Ac sG (Ac sG (Ac sG (Ac sG Aj))))))))⟩
      intro u hj
      skip
      refine .cond_f J J (G9 ?_)
      exact ⟨m2 + 1, by omega, by omega, Al (wk1 rfl (wk1 rfl (wk1 rfl (wk1 rfl (wk1 rfl (wk1 rfl (wk1 rfl (wk1 rfl (wk1 rfl (wk1 rfl wk0)))))))))) (Ab rM (Ab rM (Ab rM (Ab rM (Ac sG (Ac sG (Ac sG (Ac sG Aj))))))))⟩
    refine G12 ?_
    exact ⟨j + 1, by omega, by omega, Al (wk1 rfl (wk1 rfl (wk1 rfl (wk1 rfl (wk1 rfl (wk1 rfl (wk1 rfl (wk1 rfl (wk1 rfl wk0))))))))) (Ab rM (Ab rM (Ab rM (Ab rM (Ac sG (Ac sG (Ac sG (Ac sG Aj))))))))⟩
  refine G8 ?_
  refine .lenMap Tryz.underlying63 J J J Z0 ?_
  refine G2 ?_
  refine .eqi J J J J (decide_eq_true ((by have := hI0.len C.nd; omega))) ?_
  refine G3 ?_
  -- ret
  refine G2 ?_
  refine A1 (out := []) (An J J) Aj ?_
  exact ⟨rfl, rfl⟩
end Go.Proofs.YtfcbgdkpagcbbaaGreat
end

section
namespace Go.Proofs.YtfcbgdkpagcbbaaGreat
open Go Go.ChangeShapes Go.WideShapes Go.ChangeAt Go.RowKit

theorem ownDClo : ownKnob Tryz.prog.godebug = none := by kernel_rfl
theorem laidOutDClo : laidOutB Tryz.prog = true := by kernel_rfl

theorem openSqDCloBlock {H : Type} {enc : TypeId × Value → H} {W : World} {base : Nat} {sp : Nat → Bool} {held : Bool} {k : TypeId} (hu : Tryz.prog.underlying k = some (.slice 31)) (hc : Tryz.prog.cellsOf 31 = 131) {r : Reach} {b0 : Nat} {v : Value} {d : DataW H} {ps : List MemPlace}
    (hval : Value.okWide Tryz.prog W r b0 k v) (hd : DataW.Trod enc Tryz.prog W base sp held k v d ps) : ∃ s l, v = Hw.Sl.v s ∧ BlocksAt W s l := by
  simp only [Value.okWide, hu, Cell.okWide] at hval
  obtain ⟨a1, len, cap, rfl⟩ : ∃ a1 len cap, v = .slice a1 len cap := by
    unfold Cell.ok at hval
    rw [hu] at hval
    split at hval <;> first | exact hval.elim | exact ⟨_, _, _, rfl⟩ | simp_all
  obtain ⟨fuel, hf⟩ := hd
  obtain ⟨s, l, h1, h2⟩ := Block.openS hu hc hf
  refine ⟨s, l, ?_, h2⟩
  simp [Value.cells] at h1
  exact h1

theorem walkDClo (w : World) (s0 : Hw.Sl) (l0 : List DB) (hs0 : BlocksAt w s0 l0) (a1 : Int) (w1 : (Lit.int .i64 a1).wf = true) (a2 : Int) (w2 : (Lit.int .i64 a2).wf = true) : Calls Tryz.prog 7 #[Hw.Sl.v s0, Hw.i64 a1, Hw.i64 a2] w fun e w' => e = .returned (.bool true) ∧ Below w.heap.size w w' :=
  by
  have fin : ∀ {us : Array Value}, Calls Tryz.prog 7 us w (fun e W' => ∃ v out, e = .returned v ∧ (v = .bool true ∧ out = []) ∧ Hw.Ret [] out w W') → Calls Tryz.prog 7 us w (fun e w' => e = .returned (.bool true) ∧ Below w.heap.size w w') :=
    fun h => h.mono fun e w' ⟨v, out, he, ⟨hv, ho⟩, hr⟩ => ⟨by rw [he, hv], Hw.Keeps.below hr.keeps⟩
  exact fin (law_dagcloses s0 l0 a1 a2 w hs0)

theorem liftedDClo (os : Os) (started : os.Started) (H : Type) (enc : TypeId × Value → H) :
    ReturnsInHanded {} Tryz.checked os 7 .any (Rows.dagClosesSpec.pre6 enc Tryz.prog Tryz.f7 Rows.dagClosesRow.domain false) (Rows.dagClosesSpec.post enc Tryz.prog Tryz.f7 false true false false) := by
  refine returnsInHanded_of_change (C := Tryz.checked) ownDClo started (by kernel_rfl) Tryz.func7
    (ChangeSpec.witness6 (enc := enc) (C := Tryz.checked) false ⟨#[], #[.slice none 0 0, .int .i64 0, .int .i64 0], []⟩ 8 (by kernel_rfl) (by kernel_rfl) (by kernel_rfl) (by kernel_rfl)) ?_
  intro W base args ds gs before hval0 hW hcnd _
  have hval : ∀ (j : Nat) t v, Tryz.f7.params[j]? = some t → args[j]? = some v → Value.okWide Tryz.prog W .any base t v := hval0
  have hW' := hW
  obtain ⟨p, q, hA0, hV, rfl, hfz, hnd⟩ := hW
  have hA : DataW.TrodAll enc Tryz.prog W 0 (fun _ => true) true Tryz.f7.params.toList args.toList ds p := hA0
  rw [Tryz.params7] at hA hval
  obtain ⟨v0, vs0, d0, ds0, p0, q0, hargs, rfl, rfl, h0, r0⟩ := trodAll_cons hA
  obtain ⟨v1, vs1, d1, ds1, p1, q1, rfl, rfl, rfl, h1, r1⟩ := trodAll_cons r0
  obtain ⟨v2, vs2, d2, ds2, p2, q2, rfl, rfl, rfl, h2, r2⟩ := trodAll_cons r1
  obtain ⟨rfl, rfl, rfl⟩ := trodAll_nil r2
  obtain rfl : args = #[v0, v1, v2] := by cases args; simp_all
  obtain ⟨rfl, rfl⟩ := trodVars_none hV
  have k0 := h0
  have lt0 : ∀ x ∈ p0, x.block < W.heap.size := by obtain ⟨m, hm⟩ := k0; exact DataW.trod_lt m _ _ _ hm
  have k1 := h1
  have lt1 : ∀ x ∈ p1, x.block < W.heap.size := by obtain ⟨m, hm⟩ := k1; exact DataW.trod_lt m _ _ _ hm
  have k2 := h2
  have lt2 : ∀ x ∈ p2, x.block < W.heap.size := by obtain ⟨m, hm⟩ := k2; exact DataW.trod_lt m _ _ _ hm
  obtain ⟨s0, l0, rfl, hs0⟩ := openSqDCloBlock Tryz.underlying34 (by kernel_rfl) (hval 0 34 v0 rfl rfl) h0
  obtain ⟨a1, rfl, rfl, rfl, w1⟩ := open_int Tryz.underlying3 (hval 1 3 v1 rfl rfl) h1
  obtain ⟨a2, rfl, rfl, rfl, w2⟩ := open_int Tryz.underlying3 (hval 2 3 v2 rfl rfl) h2
  clear hA0 hval0
  refine (walkDClo W s0 l0 hs0 a1 w1 a2 w2).mono fun e W' ⟨he, bel⟩ => ?_
  subst he
  exact ⟨_, rfl, _, _, _, [], _, [], hW', trodAll_mk1 (shut_bool Tryz.underlying4 _), (trodAll_cons_mk (Below.trod laidOutDClo (by kernel_rfl) (of_decide_eq_true (by kernel_rfl)) k0 bel lt0) (trodAll_cons_mk (Below.trod laidOutDClo (by kernel_rfl) (of_decide_eq_true (by kernel_rfl)) k1 bel lt1) (trodAll_cons_mk (Below.trod laidOutDClo (by kernel_rfl) (of_decide_eq_true (by kernel_rfl)) k2 bel lt2) trodAll_mk0))), rfl, bel.frame _, fun h => by cases h⟩

theorem dagCloses_holds : Rows.DagClosesSaid :=
  OpenClaim.holds_of_wide 7 Tryz.f7 rfl rfl rfl rfl rfl rfl rfl ⟨rfl, rfl, rfl, rfl, rfl⟩ rfl rfl rfl rfl rfl (by kernel_rfl) Tryz.func7 (by kernel_rfl)
    (of_decide_eq_true (by kernel_rfl)) (by unfold Func.isWrapper; first | (rw [if_pos (by decide +kernel)]; kernel_rfl) | (rw [if_neg (by decide +kernel)]; exact ⟨rfl, rfl⟩))
    (fun os started H enc _ => liftedDClo os started H enc)

end Go.Proofs.YtfcbgdkpagcbbaaGreat
end
