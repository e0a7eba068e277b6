/- headwaterlaw19.CutNil returns true at every input, and all that it reads reads behind the call as before. Conditions: none beyond the given statement's own. -/
import Derived.WalkKit
import Derived.Orders
import Derived.Deep.LoopGhost
import Derived.IntWalk
import Derived.Laws.StructEq
import Derived.ArgAppend
import Derived.Deep.AppendSrc
import Derived.Lib.Bytealg
import Derived.Lib.BytesEntry
import Derived.Laws.IdiomStrings
import Derived.WideKeyArr2
import Derived.ProofKit
import Derived.OpenShut
import Derived.Deep.Slices
import Derived.Laws.Pointers
import Derived.Laws.Cover3
import Derived.LaidEqlPtr
import Derived.LoopN
import Derived.RangeFuncLeaves
import Derived.RangeFuncSeq
import Derived.OrdersIn
import Derived.Maps.Keyed
import Derived.Maps.RangeRun
import Derived.DeepKeys4
import Derived.Below
import Derived.Test.YtdilealohibfoaaGreatRows
import Derived.KernelRfl
import Derived.Laws.Externs
import Derived.Defers
import Derived.Laws.MathBits
import Derived.Shelf.SlSortCmp.WholeK
import Derived.Shelf.SlGeneric
import Derived.Test.YtdilealohibfoaaGreatProg
import Derived.Shelf.SlSortCmp.NoneTotal
import Derived.Deep.QuietTactic
import Derived.BigQuiet
import Derived.ScopeJumps
import Derived.DeepKeys3
import Derived.ChangeOld
import Derived.JoinedOf
import Derived.Test.YtdilealohibfoaaGreatCNlX5
set_option maxRecDepth 100000
set_option maxHeartbeats 8000000
set_option linter.unusedVariables false
set_option linter.unusedSimpArgs false
set_option linter.unusedSectionVars false
set_option linter.unnecessarySimpa false
section
namespace Go.Proofs.YtdilealohibfoaaGreat
open Go Hw

inductive PD.Reach (X : PD) (above : Int) (L : List (List UInt8)) : List UInt8 → Prop
  | base {n : List UInt8} {D : DB} (h : n ∈ L) (hP : Au X.P n = some D) (hd : above < (Au X.dep n).getD 0) : Reach X above L n
  | step {m n : List UInt8} {D E : DB} (h : Reach X above L m) (hP : Au X.P m = some D) (hn : n ∈ Ce D) (hE : Au X.P n = some E) (hd : above < (Au X.dep n).getD 0) : Reach X above L n
def PD.Edge (X : PD) (L : List (List UInt8)) (ms : List (List UInt8 × Unit)) (n : List UInt8) : Prop := n ∈ L ∨ ∃ m D, m ∈ ms.map (·.1) ∧ Au X.P m = some D ∧ n ∈ Ce D
def cntW : List (List UInt8 × DB) → List (List UInt8 × Unit) → Nat
  | [], _ => 0
  | p :: P, ms => (if (Au ms p.1).isSome = true then 0 else 1) + cntW P ms
theorem put_some {ms : List (List UInt8 × Unit)} {n : List UInt8} (h : Au ms n = none) (k : List UInt8) : (Au (Bj ms n ()) k).isSome = (decide (n = k) || (Au ms k).isSome) := by
  by_cases e : n = k
  · subst e; rw [mget_new h]; simp
  · rw [mget_old h _ e]; simp [e]
theorem cnt_le {ms : List (List UInt8 × Unit)} {n : List UInt8} (h : Au ms n = none) : ∀ P : List (List UInt8 × DB), cntW P (Bj ms n ()) ≤ cntW P ms
  | [] => Nat.le_refl _
  | p :: P => by
    have ih := cnt_le h P;have h1 : (if (decide (n = p.1) || (Au ms p.1).isSome) = true then 0 else 1) ≤ (if (Au ms p.1).isSome = true then 0 else 1) := by
      cases (Au ms p.1).isSome <;> cases decide (n = p.1) <;> decide
    rw [cntW, cntW, put_some h];omega
theorem cnt_put {ms : List (List UInt8 × Unit)} {n : List UInt8} (h : Au ms n = none) : ∀ P : List (List UInt8 × DB), n ∈ P.map (·.1) → cntW P (Bj ms n ()) + 1 ≤ cntW P ms
  | [], hn => by cases hn
  | p :: P, hn => by
    have hle := cnt_le h P;rw [cntW, cntW, put_some h];by_cases e : n = p.1
    · rw [← e, h, decide_eq_true rfl, if_pos (by rfl), if_neg sP]
      omega
    · have hn2 : n ∈ P.map (·.1) := by
        rcases List.mem_cons.1 hn with h3 | h3
        · exact absurd h3 e
        · exact h3
      have ih := cnt_put h P hn2;rw [decide_eq_false e, Bool.false_or];omega
theorem cnt_nil : ∀ P : List (List UInt8 × DB), cntW P [] = P.length
  | [] => rfl
  | p :: P => by
    have h : Au ([] : List (List UInt8 × Unit)) p.1 = none := rfl;rw [cntW, cnt_nil P, h, List.length_cons];simp;omega
structure WalkI (X : PD) (above : Int) (L : List (List UInt8)) (ms : List (List UInt8 × Unit)) (st : List (List UInt8)) : Prop where
  r32 : ∀ q ∈ ms, q.1.length = 32
  s32 : ∀ n ∈ st, n.length = 32
  nd : (ms.map (·.1)).Nodup
  snd : ∀ n ∈ ms.map (·.1), X.Reach above L n
  sub : ∀ n ∈ st, X.Edge L ms n
  cov : ∀ n, X.Edge L ms n → n ∈ st ∨ n ∈ ms.map (·.1) ∨ Au X.P n = none ∨ (Au X.dep n).getD 0 ≤ above
  cnt : ms.length + cntW X.P ms ≤ X.P.length
  len : st.length + 17 * cntW X.P ms ≤ L.length + 17 * X.P.length
theorem WalkI.start (X : PD) (above : Int) {L : List (List UInt8)} (h : ∀ n ∈ L, n.length = 32) : WalkI X above L [] L where
  r32 := fun q hq => by cases hq
  s32 := h
  nd := List.nodup_nil
  snd := fun n hn => by cases hn
  sub := fun n hn => .inl hn
  cov := fun n hn => by
    rcases hn with hn | ⟨m, D, hm, _⟩
    · exact .inl hn
    · cases hm
  cnt := by rw [cnt_nil]; exact Nat.le_of_eq (Nat.zero_add _)
  len := by rw [cnt_nil]; exact Nat.le_refl _
theorem WalkI.pass {X : PD} {above : Int} {L : List (List UInt8)} {ms : List (List UInt8 × Unit)} {st : List (List UInt8)} {n : List UInt8} (h : WalkI X above L ms (st ++ [n])) (hn : n ∈ ms.map (·.1) ∨ Au X.P n = none ∨ (Au X.dep n).getD 0 ≤ above) : WalkI X above L ms st := { h with
  s32 := fun m hm => h.s32 m (List.mem_append_left _ hm)
  sub := fun m hm => h.sub m (List.mem_append_left _ hm)
  cov := fun m hm => by
    rcases h.cov m hm with h1 | h1
    · rcases List.mem_append.1 h1 with h2 | h2
      · exact .inl h2
      · rw [List.mem_singleton.1 h2]; exact .inr hn
    · exact .inr h1
  len := by have := h.len; rw [List.length_append, List.length_singleton] at this; omega }
theorem keys_in {X : PD} {n : List UInt8} {D : DB} (h : Au X.P n = some D) : n ∈ X.P.map (·.1) := List.mem_map.2 ⟨(n, D), Cd h, rfl⟩
theorem WalkI.meet {X : PD} {above : Int} {L : List (List UInt8)} {ms : List (List UInt8 × Unit)} {st : List (List UInt8)} {n : List UInt8} {D : DB} (h : WalkI X above L ms (st ++ [n])) (hm : Au ms n = none) (hP : Au X.P n = some D) (hd : above < (Au X.dep n).getD 0) (hpar : ∀ l ∈ Ce D, l.length = 32) (h17 : (Ce D).length ≤ 17) : WalkI X above L (Bj ms n ()) (st ++ Ce D) where
  r32 := fun q hq => by
    rcases mput_mem hq with hq | rfl
    · exact h.r32 q hq
    · exact h.s32 n (List.mem_append_right _ (List.mem_singleton.2 rfl))
  s32 := fun m hm2 => by
    rcases List.mem_append.1 hm2 with h1 | h1
    · exact h.s32 m (List.mem_append_left _ h1)
    · exact hpar m h1
  nd := mput_nodup h.nd n ()
  snd := fun m hm2 => by
    rcases (keys_put ms n () m).1 hm2 with h1 | rfl
    · exact h.snd m h1
    · rcases h.sub m (List.mem_append_right _ (List.mem_singleton.2 rfl)) with h1 | ⟨k, E, hk, hE, hn⟩
      · exact .base h1 hP hd
      · exact .step (h.snd k hk) hE hn hP hd
  sub := fun m hm2 => by
    rcases List.mem_append.1 hm2 with h1 | h1
    · rcases h.sub m (List.mem_append_left _ h1) with h2 | ⟨k, E, hk, hE, hn⟩
      · exact .inl h2
      · exact .inr ⟨k, E, (keys_put ms n () k).2 (.inl hk), hE, hn⟩
    · exact .inr ⟨n, D, (keys_put ms n () n).2 (.inr rfl), hP, h1⟩
  cov := fun m hm2 => by
    have old : X.Edge L ms m → m ∈ st ++ Ce D ∨ m ∈ (Bj ms n ()).map (·.1) ∨ Au X.P m = none ∨ (Au X.dep m).getD 0 ≤ above := fun he => by
      rcases h.cov m he with h1 | h1 | h1
      · rcases List.mem_append.1 h1 with h2 | h2
        · exact .inl (List.mem_append_left _ h2)
        · exact .inr (.inl ((keys_put ms n () m).2 (.inr (List.mem_singleton.1 h2))))
      · exact .inr (.inl ((keys_put ms n () m).2 (.inl h1)))
      · exact .inr (.inr h1)
    rcases hm2 with h1 | ⟨k, E, hk, hE, hn⟩
    · exact old (.inl h1)
    · rcases (keys_put ms n () k).1 hk with h1 | rfl
      · exact old (.inr ⟨k, E, h1, hE, hn⟩)
      · rw [hP] at hE
        rw [← Option.some.inj hE] at hn;exact .inl (List.mem_append_right _ hn)
  cnt := by
    have h1 := h.cnt;have h2 := cnt_put hm X.P (keys_in hP);have h3 := mput_len ms n ();omega
  len := by
    have h1 := h.len;have h2 := cnt_put hm X.P (keys_in hP);rw [List.length_append, List.length_singleton] at h1;rw [List.length_append];omega
theorem WalkI.fin {X : PD} {above : Int} {L : List (List UInt8)} {ms : List (List UInt8 × Unit)} (h : WalkI X above L ms []) (n : List UInt8) : n ∈ ms.map (·.1) ↔ X.Reach above L n := by
  refine ⟨h.snd n, fun hr => ?_⟩;have key : ∀ {n D}, X.Edge L ms n → Au X.P n = some D → above < (Au X.dep n).getD 0 → n ∈ ms.map (·.1) := fun {n D} he hP hd => by
    rcases h.cov n he with h1 | h1 | h1 | h1
    · cases h1
    · exact h1
    · rw [hP] at h1; cases h1
    · omega
  induction hr with
  | base h1 hP hd => exact key (.inl h1) hP hd
  | step h1 hP hn hE hd ih => exact key (.inr ⟨_, _, ih, hP, hn⟩) hE hd
theorem DD.getDep (x : DD) (k : List UInt8) : Au x.pl.dep k = (Au x.ent k).map (fun e => e.1.fDepth) := mget_map (fun e : EV => e.1.fDepth) x.ent k
theorem DD.atP {x : DD} {n : List UInt8} {e : EV} (h : Au x.ent n = some e) : Au x.pl.P n = some e.2 ∧ (Au x.pl.dep n).getD 0 = e.1.fDepth := ⟨by rw [show x.pl.P = x.P from rfl, x.getP, h]; rfl, by rw [x.getDep, h]; rfl⟩
theorem DD.noP {x : DD} {n : List UInt8} (h : Au x.ent n = none) : Au x.pl.P n = none := by rw [show x.pl.P = x.P from rfl, x.getP, h]; rfl
theorem mget_keys {ms : List (List UInt8 × Unit)} {n : List UInt8} (h : Au ms n = some ()) : n ∈ ms.map (·.1) := List.mem_map.2 ⟨(n, ()), Cd h, rfl⟩
def WalkR (X : PD) (above : Int) (L : List (List UInt8)) (v : Value) (out : List Blk) : Prop := ∃ (m : Nat) (ms : List (List UInt8 × Unit)), v = .map (some m) ∧ out = [A6 m (As 32 evU) ms] ∧ WalkI X above L ms []

theorem sees_last {w : World} {b : Nat} {st : List (List UInt8)} {kk : List UInt8} (h : ∀ l ∈ st ++ [kk], l.length = 32) (hs : Sees w b 0 (A1 (st ++ [kk]))) : Sees w b (0 + st.length * 32) (Aa kk) := by
  have := Cc h hs (k := st.length) sP;simpa [List.getD_eq_getElem?_getD] using this

theorem dag_walk (x : DD) (hx : x.ok) (h16 : ∀ p ∈ x.P, p.2.ls.length ≤ 16) (p : Nat) (s0 : Sl) (L : List (List UInt8)) (hL : s0.n ≤ 90000) (above : Int) : Meets Tryz.prog 141 [ptr p 0, s0.v, i64 above] [] (fun W => Lies (x.blks p) W ∧ RowsAt W s0 32 L) (WalkR x.pl above L) := by
 intro W hW;have hlies := hW.1;have hd := DagSee.lies hW.1;have hbig := hx.big;have hen := hx.entn;have hPl : x.pl.P.length = x.ent.length := by show (x.ent.map _).length = _; rw [List.length_map]
 have hL2 := hW.2.len;refine Ac Tryz.func141 J 66 Tryz.ntmps141 J (G7 ?_);refine .mkMap (As 32 evU) J J ?_;intro m14;refine G6 ?_;refine .call4 J J J J J Body101 (cl_digs s0 L hL) (fun w h => rows_ext h J hW.2) ?_;rintro v16 out16 ⟨s16, rfl, hac16⟩;have hn16 := hac16.num;refine G5 ?_;refine .loop (ι := List (List UInt8 × Unit) × List (List UInt8) × Sl × List Blk) (fun r => ⟨[(0, ptr p 0), (2, i64 above), (7, .map (some m14)), (8, r.2.2.1.v)], (A6 m14 (As 32 evU) r.1 :: (r.2.2.2 ++ []))⟩) (fun r => WalkI x.pl above L r.1 r.2.1 ∧ Hw.Acc r.2.2.1 r.2.2.2 (A1 r.2.1) 25 r.2.1.length 32) (fun r => r.2.1.length + 18 * cntW x.pl.P r.1) (([], L, s16, out16)) ?_ ?_ ?_
 · exact ⟨WalkI.start x.pl above hW.2.row, (by simp only; rw [hL2]; exact hac16)⟩
 · exact Aq (wk1 rfl (wk1 rfl (wk1 rfl (wk1 rfl wk0)))) (Ab (by repeat (first | exact A7 | apply Cl)) (Ah sG Al))
 rintro ⟨ms, st, sl, bl⟩ ⟨hI, hac⟩;simp only at hI hac ⊢;have hsn := hac.num;refine G8 ?_;refine .condP J (fun hc0 => ?_) (fun hc0 => ?_)
 ·
  have hpos : 0 < st.length := by omega
  obtain ⟨st2, kk, rfl⟩ := snoc_of hpos;have hlen : (st2 ++ [kk]).length = st2.length + 1 := by simp
  have hmx := hI.len;obtain ⟨NN, hNN⟩ : ∃ NN, NN = (st2 ++ [kk]).length := ⟨_, rfl⟩;rw [← hNN] at hac;have h32k : kk.length = 32 := hI.s32 kk sP;have hlast := fun (w : World) (b : Nat) => sees_last (w := w) (b := b) hI.s32;rcases hac with ⟨_, _, _, h0⟩ | ⟨qr, cr, rfl, hnc, hfl, rfl⟩
  · exfalso; omega
  refine G9 ?_;refine .idxSlP 32 J J J J J Y26.h Sz25 st2.length (by show (NN : Int) - 1 = (st2.length : Int); omega) (by show st2.length < NN; omega) ?_;refine .loadSN (n := 32) (Aa kk) J J J Y25.h J Sz25 (by rw [Aa, List.length_map]; exact h32k) (fun w h => hlast w qr (Ar h Z1)) ?_;refine .alloc (cs := (Aa (List.replicate 32 0))) J Cr J ?_;intro n9 hn9 hf9;refine .sA J J J J zE Sz25 (by (simp [h32k]; done)) Z0 sP zU ?_;refine G8 ?_;refine .sliceHiA ⟨some ⟨qr, 0, none⟩, NN, cr⟩ st2.length J J J J (by show (NN : Int) - 1 = (st2.length : Int); omega) (by show st2.length ≤ cr; omega) Y26.h Sz25 ?_;refine G4 ?_;rw [flatB_append];refine .trunc (q := qr) rM ?_;have hacn : Hw.Acc ⟨some ⟨qr, 0, none⟩, st2.length, cr⟩ [⟨qr, A1 st2, 25, cr * 32⟩] (A1 st2) 25 st2.length 32 := Acc.some oM (Az (fun l hl => hI.s32 l (List.mem_append_left _ hl)));refine .draw (oP [0,1,2,103,104,105,6,7,8,209,410,11]) Ao zK (G3 ?_);refine .loadE J J J Y135.h J sP (hd.at (o := 2) J) (.lA J J J Y25.h J Sz25 Z1 (by (simp [h32k]; done)) ?_);refine .lookFC evE ME hd.2 sP J J J J h32k (fun hg => ?_) (fun e hg => ?_)
  ·
   skip;refine G3 ?_;refine .alloc (cs := DEnt.zero.cells) J DEnt.zr J ?_;intro n10 hn10 hf10;refine G8 ?_;refine .lA J J J Y25.h J Sz25 Z2 (by (simp [h32k]; done)) ?_;refine .lookF evU MH J J J J h32k Z3 (fun hg2 => ?_) (fun e2 hg2 => ?_)
   ·
    skip;refine G3 ?_;refine .alloc (cs := []) J Zr159 J ?_;intro n12 hn12 hf12;refine .sA J J J J zB Sz159 sP Z0 sP zU ?_;refine G18 ?_;refine .cond_t J J (G4 ?_)
    (refine ⟨(ms, st2, ⟨some ⟨qr, 0, none⟩, st2.length, cr⟩, [⟨qr, A1 st2, 25, cr * 32⟩]), ⟨hI.pass (by exact .inr (.inl (DD.noP hg))), hacn⟩, (by simp only [List.length_append, List.length_singleton]; omega), ?_⟩; exact Aq (wk1 rfl (wk1 rfl (wk1 rfl (wk1 rfl wk0)))) (Ab rM (pm_in0 (Ab rM Al))))
   skip;refine G3 ?_;refine .alloc (cs := []) J Zr159 J ?_;intro n12 hn12 hf12;refine .sA J J J J zB Sz159 sP Z0 sP zU ?_;refine G18 ?_;refine .cond_t J J (G4 ?_)
   (refine ⟨(ms, st2, ⟨some ⟨qr, 0, none⟩, st2.length, cr⟩, [⟨qr, A1 st2, 25, cr * 32⟩]), ⟨hI.pass (by exact .inl (mget_keys hg2)), hacn⟩, (by simp only [List.length_append, List.length_singleton]; omega), ?_⟩; exact Aq (wk1 rfl (wk1 rfl (wk1 rfl (wk1 rfl wk0)))) (Ab rM (pm_in0 (Ab rM Al))))
  have hP := (DD.atP hg).1;have hdp := (DD.atP hg).2;have h16e : e.2.ls.length ≤ 16 := h16 _ (List.mem_map.2 ⟨_, Cd hg, rfl⟩);have h17 : (Ce e.2).length ≤ 17 := by have := parL_len e.2; omega
  have hprow := parL_row ((hx.ent _ (Cd hg)).2.1.2 W (hlies.sub (x.mcb p))).dok;refine G3 ?_;refine .alloc (cs := DEnt.zero.cells) J DEnt.zr J ?_;intro n10 hn10 hf10;refine .sA J J J J (DEnt.isCell (by exact hx.entOk hg)) Sz192 (DEnt.length (by exact hx.entOk hg)) Z0 (DEnt.length (by exact DEnt.zero_ok)) zU ?_;refine G7 ?_;refine .lA J J J Y25.h J Sz25 Z2 (by (simp [h32k]; done)) ?_;refine .lookF evU MH J J J J h32k Z3 (fun hg2 => ?_) (fun e2 hg2 => ?_)
  ·
   skip;refine G3 ?_;refine .alloc (cs := []) J Zr159 J ?_;intro n12 hn12 hf12;refine .sA J J J J zB Sz159 sP Z0 sP zU ?_;refine G12 ?_;refine .load1 J J J Y3.h J Z1 (DEnt.get_fDepth (hx.entOk hg)) ?_;refine G5 ?_;refine .condP J (fun hc1 => ?_) (fun hc1 => ?_)
   ·
    refine G4 ?_
    (refine ⟨(ms, st2, ⟨some ⟨qr, 0, none⟩, st2.length, cr⟩, [⟨qr, A1 st2, 25, cr * 32⟩]), ⟨hI.pass (by exact .inr (.inr (by rw [(DD.atP hg).2]; omega))), hacn⟩, (by simp only [List.length_append, List.length_singleton]; omega), ?_⟩; exact Aq (wk1 rfl (wk1 rfl (wk1 rfl (wk1 rfl wk0)))) (Ab rM (pm_in0 (Ab rM Al))))
   refine G5 ?_;refine .lA J J J Y25.h J Sz25 Z3 (by (simp [h32k]; done)) ?_;refine .build (cs := []) J J J (fun w => by kernel_rfl) ?_;refine .mapPut (v := ()) MH J J J J J h32k rM ?_;refine G5 ?_;refine .lN (Block.cells _) J J J Y48.h J Sz48 Z2 (DEnt.row_fBlock (by exact hx.entOk hg)) (DEnt.rl_fBlock (by exact hx.entOk hg)) ?_;refine .call4 J J J J J Body133 (db_parA e.1.fBlock e.2 oM) (fun w h => (hx.ent _ (Cd hg)).2.1.2 w ((lies_keep hlies h).sub (x.mcb p))) ?_;rintro v63 out63 ⟨⟨p63, n63, c63⟩, rfl, hac63⟩;have hn63 : n63 = (Ce e.2).length := hac63.num;refine .appendAcc (n := st2.length) (z := agg (Aa (List.replicate 32 0))) (by' := 32) (A1 (Ce e.2)) J J J J J Y26.h Y26.h Sz25 Cr (by unfold By; kernel_rfl) J hacn rM (fun w h => hac63.see (Lies.of h (by repeat (exact Bg)))) (fun e => hac63.nil e) (flatB_cell _) (by show st2.length + n63 ≤ 1000000; omega) (by show (st2.length + n63) * 32 ≤ 140737488355328; omega) (by rw [Az hprow, ← hn63]) ?_;intro s64 bl64 hac64;refine G4 ?_
   (refine ⟨(Bj ms kk (), st2 ++ Ce e.2, s64, bl64), ⟨hI.meet hg2 hP (by rw [hdp]; omega) hprow h17, by simp only; rw [flatB_append, List.length_append, ← hn63]; exact hac64⟩, (by have := cnt_put hg2 x.pl.P (keys_in hP); simp only [List.length_append, List.length_singleton]; omega), ?_⟩; exact Aq (wk1 rfl (wk1 rfl (wk1 rfl (wk1 rfl wk0)))) (Ab (by repeat (first | exact A7 | apply Cl)) (Ah sG Al)))
  skip;refine G3 ?_;refine .alloc (cs := []) J Zr159 J ?_;intro n12 hn12 hf12;refine .sA J J J J zB Sz159 sP Z0 sP zU ?_;refine G18 ?_;refine .cond_t J J (G4 ?_)
  (refine ⟨(ms, st2, ⟨some ⟨qr, 0, none⟩, st2.length, cr⟩, [⟨qr, A1 st2, 25, cr * 32⟩]), ⟨hI.pass (by exact .inl (mget_keys hg2)), hacn⟩, (by simp only [List.length_append, List.length_singleton]; omega), ?_⟩; exact Aq (wk1 rfl (wk1 rfl (wk1 rfl (wk1 rfl wk0)))) (Ab rM (pm_in0 (Ab rM Al))))
 obtain rfl : st = [] := List.eq_nil_of_length_eq_zero oM;refine G11 ?_;refine G2 ?_;refine A0 (out := (A6 m14 (As 32 evU) ms :: [])) (Ai J J) (Ab rM Al) ?_;exact ⟨m14, ms, rfl, rfl, hI⟩
theorem WalkR.keys {X : PD} {above : Int} {L : List (List UInt8)} {ms : List (List UInt8 × Unit)} {ks : List (List UInt8)} (h : WalkI X above L ms []) (hp : ks.Perm (ms.map (·.1))) : ks.Nodup ∧ ∀ n, n ∈ ks ↔ X.Reach above L n := ⟨hp.nodup_iff.2 h.nd, fun n => hp.mem_iff.trans (h.fin n)⟩
def ClosR (X : PD) (L : List (List UInt8)) (v : Value) (out : List Blk) : Prop :=
  (∃ n ∈ L, Au X.P n = none) ∧ v = .tuple #[.slice none 0 0, i64 6] ∧ out = []
  ∨ (∀ n ∈ L, (Au X.P n).isSome = true) ∧ ∃ (s : Sl) (ks : List (List UInt8)), v = .tuple #[s.v, i64 0] ∧ Hw.Acc s out (A1 ks) 25 ks.length 32 ∧ SortB ks ∧ ks.Nodup ∧ ∀ n, n ∈ ks ↔ X.Reach (-1) L n
theorem has_P (x : DD) (n : List UInt8) : (Au x.pl.P n).isSome = (Au x.ent n).isSome := by rw [show x.pl.P = x.P from rfl, x.getP, Option.isSome_map]

theorem dag_closure (x : DD) (hx : x.ok) (h16 : ∀ p ∈ x.P, p.2.ls.length ≤ 16) (p : Nat) (s0 : Sl) (L : List (List UInt8)) (hL : s0.n ≤ 90000) : Meets Tryz.prog 79 [ptr p 0, s0.v] [] (fun W => Lies (x.blks p) W ∧ RowsAt W s0 32 L) (ClosR x.pl L) := by
  intro W hW;have hlies := hW.1;have hd := DagSee.lies hW.1;have hbig := hx.big;have hen := hx.entn;have hPl : x.pl.P.length = x.ent.length := by show (x.ent.map _).length = _; rw [List.length_map]
  have hL2 := hW.2.len;refine Ac Tryz.func79 J 26 Tryz.ntmps79 J (G10 ?_);refine .cV J J J J Body106 (dag_valid x p) (fun w h => hd.ext h) (G3 ?_);refine .cond_f J J (G11 ?_);refine .loop (ι := Nat) (fun k => ⟨[(0, ptr p 0), (1, s0.v), (11, s0.v), (12, i64 (s0.n : Int)), (13, i64 (k : Int))], []⟩) (fun k => k ≤ s0.n ∧ ∀ j, j < k → (Au x.pl.P (L.getD j [])).isSome = true) (fun k => s0.n - k) (0) ?_ ?_ ?_
  · exact ⟨Nat.zero_le _, fun j hj => by omega⟩
  · exact Aq (wk1 rfl (wk1 rfl (wk1 rfl (wk1 rfl (wk1 rfl wk0))))) Al
  rintro k ⟨hk, hall⟩;refine G6 ?_;refine .condP J (fun hc1 => ?_) (fun hc1 => ?_)
  ·
    have hk2 : k < s0.n := by omega
    refine G6 ?_;obtain ⟨kk, hkk⟩ : ∃ kk, kk = L.getD k [] := ⟨_, rfl⟩;have h32k : kk.length = 32 := by rw [hkk, List.getD_eq_getElem?_getD, List.getElem?_eq_getElem oM]; exact hW.2.row _ (List.getElem_mem oM)
    obtain ⟨b0, o0, hs0, hsee0⟩ := hW.2.see.at (by rw [show (L.map Aa).flatten = A1 L from rfl, Az hW.2.row]; omega);refine .idxSlP 32 J J J hs0 J Y26.h Sz25 k J oM (.loadSN (n := 32) (Aa kk) J J J Y25.h J Sz25 (by rw [Aa, List.length_map]; exact h32k) (fun w h => by rw [hkk]; exact Cc hW.2.row (fun j v hj => h.keeps.cell (p := ⟨b0, o0 + j, none⟩) sP (hsee0 j v hj)) oM) ?_);refine .alloc (cs := (Aa (List.replicate 32 0))) J Cr J ?_;intro n7 hn7 hf7;refine .sA J J J J zE Sz25 (by (simp [h32k]; done)) Z0 sP zU ?_;refine G5 ?_;refine .lA J J J Y25.h J Sz25 Z0 (by (simp [h32k]; done)) ?_;refine .cV J J J J Body109 (dag_has x hx p kk h32k) (fun w h => hd.ext h) (G3 ?_);refine .cond J (fun hc2 => ?_) (fun hc2 => ?_)
    ·
      refine G6 ?_;refine G7 ?_;refine A0 (out := []) (Cq J J J) Al (.inl ⟨⟨kk, ?_, ?_⟩, rfl, rfl⟩)
      · rw [hkk, List.getD_eq_getElem?_getD, List.getElem?_eq_getElem oM]
        exact List.getElem_mem oM
      · cases h9 : Au x.ent kk with
        | none => exact DD.noP h9
        | some e => rw [h9] at hc2; simp at hc2
    refine G8 ?_;exact ⟨k + 1, ⟨by omega, fun j hj => by rcases Nat.lt_or_eq_of_le (Nat.le_of_lt_succ hj) with h | h; exact hall j h; rw [h, ← hkk, has_P]; simpa using hc2⟩, by omega, Aq (wk1 rfl (wk1 rfl (wk1 rfl (wk1 rfl (wk1 rfl wk0))))) Al⟩
  have hke : k = s0.n := by omega
  refine G9 ?_;refine .call4 J J J J J Body141 (dag_walk x hx h16 p s0 L hL (-1)) (fun w h => ⟨lies_keep hlies h, rows_ext h J hW.2⟩) ?_;rintro v24 out24 ⟨m24, ms, rfl, rfl, hI⟩;have hmc := hI.cnt;refine .call4 J J J J J Body140 (dag_sortedU MH m24 ms hI.r32 oM) (fun w h => h.cells _ Z0) ?_;rintro v25 out25 ⟨s25, ks, hkp, hks, rfl, hac⟩;have hwk := WalkR.keys hI hkp;refine G4 ?_;refine G2 ?_;refine A0 (out := (out25 ++ [])) (Cq J J J) (Ah sG Al) ?_;refine .inr ⟨fun n hn => ?_, s25, ks, rfl, by simpa using hac, hks, hwk.1, hwk.2⟩;obtain ⟨j, hj, rfl⟩ := List.getElem_of_mem hn;have h9 := hall j oM;rwa [List.getD_eq_getElem?_getD, List.getElem?_eq_getElem hj] at h9

theorem mem_erase_nd {α : Type} {l : List α} (h : l.Nodup) {j : Nat} (hj : j < l.length) (n : α) : n ∈ l.eraseIdx j ↔ n ≠ l[j] ∧ n ∈ l := by
  rw [List.eraseIdx_eq_take_drop_succ, List.mem_append];have e : l = l.take j ++ l[j] :: l.drop (j + 1) := by rw [← List.drop_eq_getElem_cons hj, List.take_append_drop]
  generalize hx : l[j] = x at *;have h2 := h;rw [e] at h2;obtain ⟨h3, h4, h5⟩ := List.nodup_append.1 h2;have h6 := (List.nodup_cons.1 h4).1;constructor
  · rintro (h1 | h1)
    · exact ⟨fun e2 => h5 n h1 x List.mem_cons_self e2, List.mem_of_mem_take h1⟩
    · exact ⟨fun e2 => h6 (e2 ▸ h1), List.mem_of_mem_drop h1⟩
  · rintro ⟨h1, h7⟩
    rw [e, List.mem_append, List.mem_cons] at h7;rcases h7 with h7 | h7 | h7
    · exact .inl h7
    · exact absurd h7 h1
    · exact .inr h7
theorem map_erase {α β : Type} (f : α → β) (l : List α) (j : Nat) : (l.eraseIdx j).map f = (l.map f).eraseIdx j := by
  rw [List.eraseIdx_eq_take_drop_succ, List.eraseIdx_eq_take_drop_succ, List.map_append, List.map_take, List.map_drop]
theorem mdel_keys {κ ν : Type} [DecidableEq κ] {fs : List (κ × ν)} (hn : (fs.map (·.1)).Nodup) (k n : κ) : n ∈ (mdel fs k).map (·.1) ↔ n ∈ fs.map (·.1) ∧ n ≠ k := by
  unfold mdel;cases h : midx fs k with
  | none =>
    refine ⟨fun h1 => ⟨h1, fun e => ?_⟩, fun h1 => h1.1⟩;unfold midx at h;rw [List.findIdx?_eq_none_iff] at h;obtain ⟨p, hp, e2⟩ := List.mem_map.1 h1;have := h p hp;simp [e2, e] at this
  | some j =>
    unfold midx at h;rw [List.findIdx?_eq_some_iff_getElem] at h;obtain ⟨hj, he, _⟩ := h;have e : fs[j].1 = k := by simpa using he
    have hj2 : j < (fs.map (·.1)).length := by rw [List.length_map]; exact hj
    have e2 : (fs.map (·.1))[j] = k := by rw [List.getElem_map]; exact e
    show n ∈ (fs.eraseIdx j).map (·.1) ↔ _;rw [map_erase, mem_erase_nd hn hj2, e2];exact ⟨fun h => ⟨h.2, h.1⟩, fun h => ⟨h.2, h.1⟩⟩
theorem delL_keys : ∀ (L : List (List UInt8)) {hds : List (List UInt8 × Unit)}, (hds.map (·.1)).Nodup → ((delL hds L).map (·.1)).Nodup ∧ ∀ n, n ∈ (delL hds L).map (·.1) ↔ n ∈ hds.map (·.1) ∧ n ∉ L
  | [], hds, hn => ⟨hn, fun n => by simp [delL]⟩
  | k :: L, hds, hn => by
    have ih := delL_keys L (mdel_nodup hn k);have e : delL hds (k :: L) = delL (mdel hds k) L := rfl;rw [e];refine ⟨ih.1, fun n => ?_⟩;rw [ih.2, mdel_keys hn, List.mem_cons];constructor
    · rintro ⟨⟨h1, h2⟩, h3⟩
      exact ⟨h1, fun h => by rcases h with h | h; exact h2 h; exact h3 h⟩
    · rintro ⟨h1, h2⟩
      exact ⟨⟨h1, fun h => h2 (.inl h)⟩, fun h => h2 (.inr h)⟩
theorem key_some {κ ν : Type} [DecidableEq κ] {fs : List (κ × ν)} {n : κ} : n ∈ fs.map (·.1) ↔ ∃ v, Au fs n = some v := ⟨mget_of_key, fun ⟨v, h⟩ => List.mem_map.2 ⟨(n, v), Cd h, rfl⟩⟩
theorem key_none {κ ν : Type} [DecidableEq κ] {fs : List (κ × ν)} {n : κ} (h : n ∉ fs.map (·.1)) : Au fs n = none := by
  cases h2 : Au fs n with
  | none => rfl
  | some v => exact absurd (key_some.2 ⟨v, h2⟩) h
theorem foldP_ge (dep : List (List UInt8 × Int)) : ∀ (L : List (List UInt8)) (d : Int), d ≤ L.foldl (stepP dep) d ∧ ∀ m ∈ L, (Au dep m).getD 0 < L.foldl (stepP dep) d
  | [], d => ⟨Int.le_refl d, fun m hm => by cases hm⟩
  | k :: L, d => by
    have ih := foldP_ge dep L (stepP dep d k);have h1 : d ≤ stepP dep d k ∧ (Au dep k).getD 0 < stepP dep d k := by unfold stepP; split <;> omega
    refine ⟨Int.le_trans h1.1 ih.1, fun m hm => ?_⟩;rcases List.mem_cons.1 hm with rfl | hm
    · exact Int.lt_of_lt_of_le h1.2 ih.1
    · exact ih.2 m hm
theorem judge_ready {P : List (List UInt8 × DB)} {D : DB} (h : Ck P D = 1) : readyB P D = true := by
  unfold Ck at h;split at h
  · omega
  · split at h
    · assumption
    · omega
structure PD.Inv (X : PD) : Prop where
  nn : X.names = X.P.map (·.1)
  dk : X.dep.map (·.1) = X.P.map (·.1)
  nd : (X.P.map (·.1)).Nodup
  ck : ∀ p ∈ X.P, p.2.check = 0
  par : ∀ n D, Au X.P n = some D → ∀ m ∈ Ce D, (∃ E, Au X.P m = some E) ∧ (Au X.dep m).getD 0 < (Au X.dep n).getD 0
  d0 : ∀ n D, Au X.P n = some D → 0 ≤ (Au X.dep n).getD 0
  hn : (X.hds.map (·.1)).Nodup
  hd : ∀ n, n ∈ X.hds.map (·.1) ↔ (∃ D, Au X.P n = some D) ∧ ∀ m D, Au X.P m = some D → n ∉ Ce D
  od : (X.orp.map (·.1)).Nodup
  oc : ∀ p ∈ X.orp, p.2.check = 0 ∧ p.1 ∉ X.P.map (·.1)
theorem PD.Inv.new : PD.new.Inv where
  nn := rfl
  dk := rfl
  nd := List.nodup_nil
  ck := fun p hp => by cases hp
  par := fun n D h => by cases h
  d0 := fun n D h => by cases h
  hn := List.nodup_nil
  hd := fun n => ⟨fun h => (by cases h), fun ⟨⟨D, h⟩, _⟩ => (by cases h)⟩
  od := List.nodup_nil
  oc := fun p hp => by cases hp
theorem PD.Inv.drop {X : PD} (h : X.Inv) (n : List UInt8) : (X.drop1 n).Inv := { h with
  od := mdel_nodup h.od n
  oc := fun p hp => h.oc p (mdel_mem hp) }
theorem PD.Inv.adm {X : PD} (h : X.Inv) {n : List UInt8} {D : DB} (hnP : n ∉ X.P.map (·.1)) (hno : n ∉ X.orp.map (·.1)) (hc : D.check = 0) (hr : readyB X.P D = true) : (X.adm n D).Inv := by
  have hP0 := key_none hnP;have hD0 : Au X.dep n = none := key_none (by rw [h.dk]; exact hnP);have eP : (X.adm n D).P = X.P ++ [(n, D)] := mput_app hP0 D;have eD : (X.adm n D).dep = X.dep ++ [(n, (Ce D).foldl (stepP X.dep) 0)] := mput_app hD0 _;have gP : ∀ m, m ≠ n → Au (X.adm n D).P m = Au X.P m := fun m hm => mget_old hP0 D (fun e => hm e.symm);have gPn : Au (X.adm n D).P n = some D := mget_new hP0 D;have gD : ∀ m, m ≠ n → Au (X.adm n D).dep m = Au X.dep m := fun m hm => mget_old hD0 _ (fun e => hm e.symm);have gDn : Au (X.adm n D).dep n = some ((Ce D).foldl (stepP X.dep) 0) := mget_new hD0 _;have rdy : ∀ m ∈ Ce D, ∃ E, Au X.P m = some E := fun m hm => by
    have := List.all_eq_true.1 hr m hm;exact Option.isSome_iff_exists.1 this
  have ne : ∀ {m E}, Au X.P m = some E → m ≠ n := fun {m E} hm e => by rw [e, hP0] at hm; cases hm
  have old : ∀ {m E}, Au (X.adm n D).P m = some E → m = n ∧ E = D ∨ m ≠ n ∧ Au X.P m = some E := fun {m E} hm => by
    by_cases e : m = n
    · rw [e, gPn] at hm
      exact .inl ⟨e, (Option.some.inj hm).symm⟩
    · rw [gP m e] at hm
      exact .inr ⟨e, hm⟩
  have hk := delL_keys (Ce D) h.hn;refine ⟨?_, ?_, ?_, ?_, ?_, ?_, ?_, ?_, h.od, ?_⟩
  · show X.names ++ [n] = _
    rw [eP, List.map_append, h.nn]; rfl
  · rw [eP, eD, List.map_append, List.map_append, h.dk]; rfl
  · rw [eP, List.map_append]
    refine List.nodup_append.2 ⟨h.nd, by simp, fun a ha b hb e => ?_⟩;rw [List.map_cons, List.map_nil, List.mem_singleton] at hb;rw [e, hb] at ha;exact hnP ha
  · intro p hp
    rw [eP] at hp;rcases List.mem_append.1 hp with hp | hp
    · exact h.ck p hp
    · rw [List.mem_singleton.1 hp]; exact hc
  · intro m E hm k hk2
    rcases old hm with ⟨rfl, rfl⟩ | ⟨e, hm⟩
    · obtain ⟨F, hF⟩ := rdy k hk2
      refine ⟨⟨F, by rw [gP k (ne hF)]; exact hF⟩, ?_⟩;rw [gD k (ne hF), gDn];exact (foldP_ge X.dep (Ce E) 0).2 k hk2
    · obtain ⟨⟨F, hF⟩, hlt⟩ := h.par m E hm k hk2
      refine ⟨⟨F, by rw [gP k (ne hF)]; exact hF⟩, ?_⟩;rw [gD k (ne hF), gD m e];exact hlt
  · intro m E hm
    rcases old hm with ⟨rfl, rfl⟩ | ⟨e, hm⟩
    · rw [gDn]
      exact (foldP_ge X.dep (Ce E) 0).1
    · rw [gD m e]; exact h.d0 m E hm
  · exact mput_nodup hk.1 n ()
  · intro k
    show k ∈ (Bj (delL X.hds (Ce D)) n ()).map (·.1) ↔ _;rw [keys_put, hk.2, h.hd];constructor
    · rintro (⟨⟨⟨E, hE⟩, h1⟩, h2⟩ | rfl)
      · refine ⟨⟨E, by rw [gP k (ne hE)]; exact hE⟩, fun m F hm => ?_⟩
        rcases old hm with ⟨rfl, rfl⟩ | ⟨e, hm⟩
        · exact h2
        · exact h1 m F hm
      · refine ⟨⟨D, gPn⟩, fun m F hm hk2 => ?_⟩
        rcases old hm with ⟨rfl, rfl⟩ | ⟨e, hm⟩
        · obtain ⟨G, hG⟩ := rdy _ hk2
          exact ne hG rfl
        · obtain ⟨⟨G, hG⟩, _⟩ := h.par m F hm _ hk2
          exact ne hG rfl
    · rintro ⟨⟨E, hE⟩, h1⟩
      rcases old hE with ⟨rfl, rfl⟩ | ⟨e, hE⟩
      · exact .inr rfl
      · exact .inl ⟨⟨⟨E, hE⟩, fun m F hm => h1 m F (by rw [gP m (ne hm)]; exact hm)⟩, h1 n D gPn⟩
  · intro p hp
    have := h.oc p hp;refine ⟨this.1, fun hm => ?_⟩;rw [eP, List.map_append] at hm;rcases List.mem_append.1 hm with hm | hm
    · exact this.2 hm
    · rw [List.map_cons, List.map_nil, List.mem_singleton] at hm
      have e9 : p.1 = n := hm;exact hno (by rw [← e9]; exact List.mem_map.2 ⟨p, hp, rfl⟩)
theorem first_key {X : PD} {n : List UInt8} (h : X.first = some n) : ∃ D, Au X.orp n = some D ∧ Ck X.P D ≠ 0 := by
  have h1 := List.mem_of_find?_eq_some h;have h2 := List.find?_some h;obtain ⟨D, hD⟩ := mget_of_key ((isort_perm _).mem_iff.1 h1);refine ⟨D, hD, ?_⟩;rw [hD, Option.getD_some] at h2;simpa using h2
theorem PD.Inv.settle : ∀ (f : Nat) {X : PD}, X.Inv → (PD.settle f X).1.Inv
  | 0, X, h => h
  | f + 1, X, h => by
    cases hf : X.first with
    | none => rw [settle_done hf]; exact h
    | some n =>
      obtain ⟨D, hD, hj⟩ := first_key hf;have hm := h.oc _ (Cd hD);by_cases h1 : Ck X.P D = 1
      · rw [settle_fit hf hD h1]
        exact PD.Inv.settle f ((h.drop n).adm hm.2 (fun h2 => ((mdel_keys h.od n n).1 h2).2 rfl) hm.1 (judge_ready h1))
      · rw [settle_wrong hf hD h1]
        exact PD.Inv.settle f (h.drop n)
theorem PD.Inv.add {X : PD} (h : X.Inv) (D : DB) : (X.add D).1.Inv := by
  by_cases hg : dgood D = 0
  · cases ht : ((Au X.orp (Bh D)).isSome || (Au X.P (Bh D)).isSome) with
    | true => rw [add_there hg ht]; exact h
    | false =>
      rw [Bool.or_eq_false_iff] at ht;have n1 : Bh D ∉ X.orp.map (·.1) := fun hm => by
        obtain ⟨v, hv⟩ := mget_of_key hm;rw [hv] at ht; cases ht.1
      have n2 : Bh D ∉ X.P.map (·.1) := fun hm => by
        obtain ⟨v, hv⟩ := mget_of_key hm;rw [hv] at ht; cases ht.2
      have hf : ((Au X.orp (Bh D)).isSome || (Au X.P (Bh D)).isSome) = false := by rw [ht.1, ht.2]; rfl
      rcases judge_cases X.P D with hj | hj | hj
      · by_cases h64 : 64 ≤ X.orp.length
        · rw [add_full hg hf hj h64]; exact h
        · rw [add_keep hg hf hj h64]
          exact { h with
            od := mput_nodup h.od _ _
            oc := fun p hp => by
              rcases mput_mem hp with hp | rfl
              · exact h.oc p hp
              · exact ⟨good_check hg, n2⟩ }
      · rw [add_fits hg hf hj]
        exact PD.Inv.settle _ (h.adm n2 n1 (good_check hg) (judge_ready hj))
      · rw [add_wrong hg hf hj]; exact h
  · rw [add_bad hg]; exact h
noncomputable def fillP (X : PD) (ds : List DB) : PD := ds.foldl (fun X D => (X.add D).1) X
theorem PD.Inv.fill : ∀ (ds : List DB) {X : PD}, X.Inv → (fillP X ds).Inv
  | [], X, h => h
  | D :: ds, X, h => PD.Inv.fill ds (h.add D)
section
variable {X : PD}
theorem reach_P {a : Int} {L : List (List UInt8)} {n : List UInt8} (h : X.Reach a L n) : ∃ D, Au X.P n = some D := by
  cases h with
  | base _ hP _ => exact ⟨_, hP⟩
  | step _ _ _ hE _ => exact ⟨_, hE⟩
end

end Go.Proofs.YtdilealohibfoaaGreat
end

section
namespace Go.Proofs.YtdilealohibfoaaGreat
open Go Hw

section
variable {C : Cx} {ops : Array Oper} {rest : List (Nat × Oper)} {sl : List (Nat × Value)} {hp : List Blk} {Q : St → Prop} {c d : Nat} {ty : TypeId} {pos : String} {af : Array Edge} {g : Option (Nat × Bool)}
variable {xT yT : TypeId} {x y : Operand} {a b : Int}
end
def GetR (X : PD) (n : List UInt8) (v : Value) (out : List Blk) : Prop :=
  Au X.P n = none ∧ v = .tuple #[agg Block.zero.cells, i64 6] ∧ out = []
  ∨ ∃ D B, Au X.P n = some D ∧ SameB B D ∧ v = .tuple #[agg B.cells, i64 0] ∧ ∀ W2, Lies out W2 → BlockIs W2 B D
theorem ck_small {D : DB} (h : D.check = 0) : D.ls.length ≤ 16 ∧ D.ds.length ≤ 90000 := by
  obtain ⟨h1, h2⟩ := D.head_small h;exact ⟨by omega, by omega⟩
theorem dag_get (x : DD) (hx : x.ok) (hck : ∀ p ∈ x.P, p.2.check = 0) (p : Nat) (n : List UInt8) (h32 : n.length = 32) : Meets Tryz.prog 131 [ptr p 0, agg (Aa n)] [] (fun W => Lies (x.blks p) W) (GetR x.pl n) := by
 intro W hW;have hlies := hW;have hd := DagSee.lies hW;refine Ac Tryz.func131 J 27 Tryz.ntmps131 J (G3 ?_);intro n3 hn3 hf3;refine .alloc (cs := Block.zero.cells) J Block.zr J ?_;intro n4 hn4 hf4;refine G7 ?_;refine .cV J J J J Body106 (dag_valid x p) (fun w h => hd.ext h) (G3 ?_);refine .cond_f J J (G3 ?_);refine .draw (oP [0,1,2,103,104,105,6,7,8,209,410,11]) Ao zK (G3 ?_);refine .loadE J J J Y135.h J sP (hd.at (o := 2) J) (.lA J J J Y25.h J Sz25 Z1 (by (simp [h32]; done)) ?_);refine .lookFC evE ME hd.2 sP J J J J h32 (fun hg => ?_) (fun e hg => ?_)
 ·
  skip;refine G3 ?_;refine .alloc (cs := DEnt.zero.cells) J DEnt.zr J ?_;intro n6 hn6 hf6;refine G11 ?_;refine .cond_t J J (G2 ?_);refine .build (cs := Block.zero.cells) J J J (fun w => by kernel_rfl) ?_;refine G4 ?_;refine G3 ?_;refine A0 (out := []) (Be J J J Y48.h J Sz48 Z1 (by exact Block.length (by exact Block.zero_ok))) Al ?_;exact .inl ⟨DD.noP hg, rfl, rfl⟩
 obtain ⟨hs1, hs2⟩ := ck_small (hck _ (List.mem_map.2 ⟨_, Cd hg, rfl⟩));simp only at hs1 hs2;refine G3 ?_;refine .alloc (cs := DEnt.zero.cells) J DEnt.zr J ?_;intro n6 hn6 hf6;refine .sA J J J J (DEnt.isCell (by exact hx.entOk hg)) Sz192 (DEnt.length (by exact hx.entOk hg)) Z0 (DEnt.length (by exact DEnt.zero_ok)) zU ?_;refine G10 ?_;refine .cond_f J J (G5 ?_);refine .lN (Block.cells _) J J J Y48.h J Sz48 Z0 (DEnt.row_fBlock (by exact hx.entOk hg)) (DEnt.rl_fBlock (by exact hx.entOk hg)) ?_;refine .call4 J J J J J Body111 (dag_clone e.1.fBlock e.2 (hx.ent _ (Cd hg)).2.1.1 oM oM) (fun w h => (hx.ent _ (Cd hg)).2.1.2 w ((lies_keep hlies h).sub (x.mcb p))) ?_;rintro v26 out26 ⟨B26, h26, rfl, hb26⟩;refine .sA J J J J (Block.isCell (by exact h26.ok)) Sz48 (Block.length (by exact h26.ok)) mR (Block.length (by exact Block.zero_ok)) uU ?_;refine G3 ?_;refine G2 ?_;refine A0 (out := (out26 ++ [])) (Be J J J Y48.h J Sz48 mR (by exact Block.length (by exact h26.ok))) (Ah sG Al) ?_;exact .inr ⟨e.2, B26, (DD.atP hg).1, h26, rfl, fun W2 hl => hb26 W2 (by simpa using hl)⟩
theorem row_one {q : Nat} {w : World} {a : List UInt8} (ha : a.length = 32) (h : Sees w q 0 (Aa a)) : RowsAt w ⟨some ⟨q, 0, none⟩, 1, 1⟩ 32 [a] := ⟨rfl, fun l hl => by rw [List.mem_singleton.1 hl]; exact ha, Nat.le_refl 1, SeesP.of (by simpa using h), (by show 1 ≤ maxLen; decide), fun e => by cases e⟩
open Classical in
noncomputable def rB (X : PD) (above : Int) (L : List (List UInt8)) (n : List UInt8) : Bool := decide (X.Reach above L n)
theorem rB_iff {X : PD} {above : Int} {L : List (List UInt8)} {n : List UInt8} : rB X above L n = true ↔ X.Reach above L n := by unfold rB; simp
theorem fillP_snoc (X : PD) (l : List DB) (d : DB) : fillP X (l ++ [d]) = ((fillP X l).add d).1 := by unfold fillP; rw [List.foldl_append]; rfl

end Go.Proofs.YtdilealohibfoaaGreat
end

section
namespace Go.Proofs.YtdilealohibfoaaGreat
open Go Hw

theorem mid_u {i j : Nat} (h : i + j ≤ 1000000) : Value.int .u64 (IntKind.u64.wrap ((i : Int) + (j : Int))) = u64 (UInt64.ofNat (i + j)) := by
  rw [show (i : Int) + (j : Int) = ((i + j : Nat) : Int) by omega, cv_i64_u64, word_nat h]
theorem mid_i {n : Nat} (h : n ≤ 1000000) : Value.int .i64 (IntKind.i64.wrap ((Ap (UInt64.ofNat n) 1).toNat : Int)) = i64 ((n / 2 : Nat) : Int) := by
  have e : (Ap (UInt64.ofNat n) 1).toNat = n / 2 := by rw [shr64_nat, ofNat_nat h]
  rw [cv_u64_i64 (by rw [e]; omega), e]
theorem sort_at {ks : List (List UInt8)} (hs : SortB ks) {k m : Nat} (hkm : k ≤ m) (hm : m < ks.length) : Cm (ks.getD k []) (ks.getD m []) ≤ 0 := by
  rcases Nat.lt_or_eq_of_le hkm with h | rfl
  · rw [List.getD_eq_getElem?_getD, List.getD_eq_getElem?_getD, List.getElem?_eq_getElem hm, List.getElem?_eq_getElem (show k < ks.length by omega)]
    exact List.pairwise_iff_getElem.1 hs k m oM hm h
  · rw [cmpB_self]; exact Int.le_refl 0
theorem bs_lo {ks : List (List UInt8)} (hs : SortB ks) {n : List UInt8} {k m : Nat} (hkm : k ≤ m) (hm : m < ks.length) (h : Cm (ks.getD m []) n < 0) : Cm (ks.getD k []) n < 0 :=
  (cmpB_trans _ _ _ (sort_at hs hkm hm) (Int.le_of_lt h)).2 (.inr h)
theorem bs_hi {ks : List (List UInt8)} (hs : SortB ks) {n : List UInt8} {k m : Nat} (hkm : m ≤ k) (hk : k < ks.length) (h : ¬ Cm (ks.getD m []) n < 0) : 0 ≤ Cm (ks.getD k []) n := by
  refine Int.not_lt.1 fun h2 => h ?_;exact (cmpB_trans _ _ _ (sort_at hs hkm hk) (Int.le_of_lt h2)).2 (.inr h2)
theorem bs_mem {ks : List (List UInt8)} (hs : SortB ks) (hnd : ks.Nodup) {n : List UInt8} {i : Nat} (hlo : ∀ k, k < i → Cm (ks.getD k []) n < 0) (hhi : ∀ k, i ≤ k → k < ks.length → 0 ≤ Cm (ks.getD k []) n) : n ∈ ks ↔ i < ks.length ∧ Cm (ks.getD i []) n = 0 := by
  constructor
  · intro h
    obtain ⟨k, hk, e⟩ := List.getElem_of_mem h;have ek : ks.getD k [] = n := by rw [List.getD_eq_getElem?_getD, List.getElem?_eq_getElem hk]; exact e
    have hz : Cm (ks.getD k []) n = 0 := (cmpB_zero _ _).2 ek;have hik : i ≤ k := Nat.not_lt.1 fun h2 => by have := hlo k h2; omega
    refine ⟨by omega, ?_⟩;have h1 := hhi i (Nat.le_refl i) oM;have h2 := sort_at hs hik hk;rw [ek] at h2;omega
  · rintro ⟨hi, h⟩
    rw [← (cmpB_zero _ _).1 h, List.getD_eq_getElem?_getD, List.getElem?_eq_getElem hi];exact List.getElem_mem hi
theorem bs_yes {ks : List (List UInt8)} (hs : SortB ks) (hnd : ks.Nodup) {n : List UInt8} {i : Nat} (hlo : ∀ k, k < i → Cm (ks.getD k []) n < 0) (hhi : ∀ k, i ≤ k → k < ks.length → 0 ≤ Cm (ks.getD k []) n) (hi : i < ks.length) : decide (Cm (ks.getD i []) n = 0) = decide (n ∈ ks) :=
  decide_eq_decide.2 ((bs_mem hs hnd hlo hhi).trans ⟨fun h => h.2, fun h => ⟨hi, h⟩⟩).symm
theorem bs_no {ks : List (List UInt8)} (hs : SortB ks) (hnd : ks.Nodup) {n : List UInt8} {i : Nat} (hlo : ∀ k, k < i → Cm (ks.getD k []) n < 0) (hhi : ∀ k, i ≤ k → k < ks.length → 0 ≤ Cm (ks.getD k []) n) (hi : ¬ i < ks.length) : false = decide (n ∈ ks) :=
  (decide_eq_false fun h => hi ((bs_mem hs hnd hlo hhi).1 h).1).symm

theorem bsearch (s : Sl) (ks : List (List UInt8)) (n : List UInt8) (h32 : n.length = 32) (hs : SortB ks) (hnd : ks.Nodup) (hbig : ks.length ≤ 400000) : Meets Tryz.prog 82 [s.v, agg (Aa n), .func (.func 83) #[] #[]] [] (fun W => RowsAt W s 32 ks) (fun v out => (∃ i : Int, v = .tuple #[i64 i, .bool (decide (n ∈ ks))]) ∧ out = []) := by
 intro W hW;have hlen := hW.len;have hrow := hW.row;refine Ac Tryz.func82 J 49 Tryz.ntmps82 J (G3 ?_);intro n4 hn4 hf4;refine G20 ?_;refine .loop (ι := Nat × Nat) (fun r => ⟨[(0, s.v), (2, .func (.func 83) #[] #[]), (4, ptr n4 0), (8, i64 (s.n : Int)), (9, i64 (r.1 : Int)), (10, i64 (r.2 : Int))], [⟨n4, Aa n, 25, (Aa n).length⟩]⟩) (fun r => r.1 ≤ r.2 ∧ r.2 ≤ s.n ∧ (∀ k, k < r.1 → Cm (ks.getD k []) n < 0) ∧ (∀ k, r.2 ≤ k → k < ks.length → 0 ≤ Cm (ks.getD k []) n)) (fun r => r.2 - r.1) ((0, s.n)) ?_ ?_ ?_
 · exact ⟨Nat.zero_le _, Nat.le_refl _, fun k hk => absurd hk (Nat.not_lt_zero _), fun k h1 h2 => by omega⟩
 · exact Aq (wk1 rfl (wk1 rfl (wk1 rfl (wk1 rfl (wk1 rfl (wk1 rfl wk0)))))) (Ab rM Al)
 rintro ⟨i, j⟩ ⟨hij, hjn, hlo, hhi⟩;simp only at hij hjn hlo hhi ⊢;refine G8 ?_;refine .condP J (fun hc0 => ?_) (fun hc0 => ?_)
 ·
  have hij2 : i < j := by omega
  obtain ⟨b, o, hbp, hbs⟩ := hW.see.at (by rw [Az hrow]; omega);refine G8 ?_;refine .conv J J J Y3.h Y168.h (mid_u oM) (.shr_u64 J J J J 1 J dE (.conv J J J Y168.h Y3.h (mid_i oM) (G4 ?_)))
  refine .draw (oP [0,1,2,3,104,105,306,7]) Ao zK (G3 ?_);refine .idxSlP 32 J J J hbp J Y26.h Sz25 ((i + j) / 2) J oM (.loadEN (Aa (ks.getD ((i + j) / 2) [])) J J J Y25.h J Sz25 sP (by rw [Aa, List.length_map]; exact Bs hrow oM) (Cc hrow hbs oM) ?_);refine .lA J J J Y25.h J Sz25 Z0 (by (simp [h32]; done)) ?_;refine .cV J J J J Body83 (block_cmp (ks.getD ((i + j) / 2) []) n (Bs hrow oM) h32) tV (G3 ?_);refine .condP J (fun hc1 => ?_) (fun hc1 => ?_)
  ·
   refine G7 ?_;exact ⟨((i + j) / 2 + 1, j), ⟨by simp only; omega, hjn, fun k hk => bs_lo hs (m := (i + j) / 2) (by simp only at hk; omega) oM hc1, hhi⟩, by simp only; omega, Aq (wk1 rfl (wk1 rfl (wk1 rfl (wk1 rfl (wk1 rfl (wk1 rfl wk0)))))) (Ab rM Al)⟩
  refine G6 ?_;exact ⟨(i, (i + j) / 2), ⟨by simp only; omega, by simp only; omega, hlo, fun k h1 h2 => bs_hi hs (m := (i + j) / 2) h1 h2 hc1⟩, by simp only; omega, Aq (wk1 rfl (wk1 rfl (wk1 rfl (wk1 rfl (wk1 rfl (wk1 rfl wk0)))))) (Ab rM Al)⟩
 obtain rfl : i = j := by omega
 refine G6 ?_;refine .draw (oP [0,1,2,3,4,5,6,7,8,109,110,311,12,13,14,15]) Ao zK (G3 ?_);refine two (fun r hr k => Tr.lss J J J J hr k) (fun hs8_30 => ?_) (fun hs8_30 => ?_)
 ·
  have hs8_3 := of_decide_eq_true hs8_30;obtain ⟨b, o, hbp, hbs⟩ := hW.see.at (by rw [Az hrow]; omega);refine G4 ?_;refine .idxSlP 32 J J J hbp J Y26.h Sz25 (i) J oM (.loadEN (Aa (ks.getD (i) [])) J J J Y25.h J Sz25 sP (by rw [Aa, List.length_map]; exact Bs hrow oM) (Cc hrow hbs oM) ?_);refine .lA J J J Y25.h J Sz25 Z0 (by (simp [h32]; done)) ?_;refine .cV J J J J Body83 (block_cmp (ks.getD i []) n (Bs hrow oM) h32) tV (G6 ?_);refine G2 ?_;refine A0 (out := []) (Cq J J J) Al ?_;exact ⟨⟨_, congrArg (fun z => Value.tuple #[_, .bool z]) (bs_yes hs hnd hlo hhi oM)⟩, rfl⟩
 have hs8_3 := of_decide_eq_false hs8_30;skip;refine G14 ?_;refine G2 ?_;refine A0 (out := []) (Cq J J J) Al ?_;exact ⟨⟨_, congrArg (fun z => Value.tuple #[_, .bool z]) (bs_no hs hnd hlo hhi oM)⟩, rfl⟩

theorem apart_1 (n : List UInt8) (h32 : n.length = 32) (q : Nat) (sb : Sl) (ks : List (List UInt8)) (hs : SortB ks) (hnd : ks.Nodup) (hbig : ks.length ≤ 400000) : Meets Tryz.prog 148 [agg (Aa n), ptr q 0] [] (fun W => RowsAt W sb 32 ks ∧ W.cell? ⟨q, 0, none⟩ = some sb.v) (fun v out => v = .bool (decide (n ∈ ks)) ∧ out = []) := by
 intro W hW;refine Ac Tryz.func148 J 13 Tryz.ntmps148 J (G3 ?_);intro n2 hn2 hf2;refine G5 ?_;refine .loadE J J J Y26.h J sP (hW.2) (.lA J J J Y25.h J Sz25 Z0 (by (simp [h32]; done)) ?_);refine .call4 J J J J J Body82 (bsearch sb ks n h32 hs hnd hbig) (fun w h => rows_ext h J hW.1) ?_;rintro v9 out9 ⟨⟨i9, rfl⟩, rfl⟩;refine G13 ?_;refine G2 ?_;refine A0 (out := []) (Ai J J) Al ?_;exact ⟨rfl, rfl⟩

theorem index_apart (s : Sl) (ls : List (List UInt8)) (q : Nat) (sb : Sl) (ks : List (List UInt8)) (hs : SortB ks) (hnd : ks.Nodup) (hbig : ks.length ≤ 400000) : Meets Tryz.prog 145 [s.v, .func (.func 148) #[] #[ptr q 0]] [] (fun W => RowsAt W s 32 ls ∧ RowsAt W sb 32 ks ∧ W.cell? ⟨q, 0, none⟩ = some sb.v) (fun v out => v = i64 (fstBad (fun n => decide (n ∈ ks)) ls) ∧ out = []) := by
 intro W hW;have hlen := hW.1.len;have hrow := hW.1.row;have hmax := hW.1.max;simp only [maxLen] at hmax;have hcap := hW.1.cap;refine Ac Tryz.func145 J 19 Tryz.ntmps145 J (G14 ?_);refine .loop (ι := Nat) (fun k => ⟨[(0, s.v), (1, .func (.func 148) #[] #[ptr q 0]), (7, i64 (s.n : Int)), (8, i64 (k : Int))], []⟩) (fun k => k ≤ s.n ∧ ∀ j, j < k → (ls.map (fun n => decide (n ∈ ks)))[j]? = some false) (fun k => s.n - k) (0) ?_ ?_ ?_
 · exact ⟨by omega, fun j hj => by omega⟩
 · exact Ad (wk1 rfl (wk1 rfl (wk1 rfl (wk1 rfl wk0)))) wh0 nD
 rintro k ⟨hk, hg⟩;refine G6 ?_;refine .condP J (fun hc0 => ?_) (fun hc0 => ?_)
 ·
  have hk2 : k < s.n := by omega
  obtain ⟨b, o, hbp, hbs⟩ := hW.1.see.at (by rw [Az hrow]; omega);have h32k : (ls.getD k []).length = 32 := Bs hrow oM;have hd : ls[k]? = some (ls.getD k []) := by rw [List.getD_eq_getElem?_getD, List.getElem?_eq_getElem (show k < ls.length by omega)]; rfl
  refine G15 ?_;refine .idxSlP 32 J J J hbp J Y26.h Sz25 k oM oM (.loadEN (Aa (ls.getD k [])) J J J Y25.h J Sz25 sP (by rw [Aa, List.length_map]; exact h32k) (Cc hrow hbs oM) ?_);refine .callCV J J J J J Body148 (apart_1 (ls.getD k []) h32k q sb ks hs hnd hbig) (fun w h => ⟨rows_ext h J hW.2.1, h.keeps.cell sP hW.2.2⟩) (G2 ?_);refine .condP J (fun hc1 => ?_) (fun hc1 => ?_)
  ·
   refine G6 ?_;refine G7 ?_;refine ⟨_, [], Ai J J, sP, sP, ?_, rfl⟩;exact congrArg i64 (fstBad_at hg (by rw [List.getElem?_map, hd]; simpa using hc1)).symm
  refine G8 ?_;exact ⟨k + 1, ⟨by omega, fun j hj => by rcases Nat.lt_succ_iff_lt_or_eq.1 hj with h | rfl; exact hg j h; rw [List.getElem?_map, hd]; simpa using hc1⟩, by omega, Ad (wk1 rfl (wk1 rfl (wk1 rfl (wk1 rfl wk0)))) wh0 nD⟩
 obtain rfl : k = s.n := by omega
 refine G10 ?_;refine G2 ?_;refine ⟨_, [], Ai J J, sP, sP, ?_, rfl⟩;exact congrArg i64 (fstBad_none (by intro j hj; exact hg j (by rw [hlen] at hj; exact hj))).symm
theorem contains_apart (s : Sl) (ls : List (List UInt8)) (q : Nat) (sb : Sl) (ks : List (List UInt8)) (hs : SortB ks) (hnd : ks.Nodup) (hbig : ks.length ≤ 400000) : Meets Tryz.prog 132 [s.v, .func (.func 148) #[] #[ptr q 0]] [] (fun W => RowsAt W s 32 ls ∧ RowsAt W sb 32 ks ∧ W.cell? ⟨q, 0, none⟩ = some sb.v) (fun v out => v = .bool (ls.any (fun n => decide (n ∈ ks))) ∧ out = []) := by
 intro W hW;refine Ac Tryz.func132 J 9 Tryz.ntmps132 J (G9 ?_);refine .cV J J J J Body145 (index_apart s ls q sb ks hs hnd hbig) (fun w h => ⟨rows_ext h J hW.1, rows_ext h J hW.2.1, h.keeps.cell sP hW.2.2⟩) (G4 ?_);refine G2 ?_;refine ⟨_, [], Ai J J, sP, sP, ?_, rfl⟩;exact congrArg Value.bool (fstBad_ge _ _)

theorem nil_rows (W : World) : RowsAt W Sl.nil 32 [] := rows_none
noncomputable def parsOf (X : PD) (hs : List (List UInt8)) : List (List UInt8) := (hs.map fun h => Ce ((Au X.P h).getD DB.zero)).flatten
noncomputable def apartB (X : PD) (hs : List (List UInt8)) : Bool := !(hs.any fun h => rB X (-1) (parsOf X hs) h)
theorem parsOf_step {X : PD} {hs : List (List UInt8)} {k : Nat} {D : DB} (hk : k < hs.length) (hD : Au X.P (hs.getD k []) = some D) : parsOf X (hs.take (k + 1)) = parsOf X (hs.take k) ++ Ce D := by
  have e : hs[k] = hs.getD k [] := by rw [List.getD_eq_getElem?_getD, List.getElem?_eq_getElem hk]; rfl
  unfold parsOf;rw [List.take_succ_eq_append_getElem hk, List.map_append, List.flatten_append, e];simp only [List.map_cons, List.map_nil, List.flatten_cons, List.flatten_nil, List.append_nil, hD, Option.getD_some]
theorem parsOf_le (X : PD) : ∀ hs : List (List UInt8), (∀ h ∈ hs, (Ce ((Au X.P h).getD DB.zero)).length ≤ 17) → (parsOf X hs).length ≤ 17 * hs.length
  | [], _ => Nat.zero_le _
  | h :: hs, hh => by
    have ih := parsOf_le X hs (fun k hk => hh k (List.mem_cons_of_mem _ hk));have h1 := hh h List.mem_cons_self;have e : parsOf X (h :: hs) = Ce ((Au X.P h).getD DB.zero) ++ parsOf X hs := rfl;rw [e, List.length_append, List.length_cons]; omega
theorem parsOf_mem {X : PD} {hs : List (List UInt8)} {n : List UInt8} (h : n ∈ parsOf X hs) : ∃ k ∈ hs, n ∈ Ce ((Au X.P k).getD DB.zero) := by
  obtain ⟨l, hl, hn⟩ := List.mem_flatten.1 h;obtain ⟨k, hk, rfl⟩ := List.mem_map.1 hl;exact ⟨k, hk, hn⟩
theorem apart_eq {X : PD} {hs ks : List (List UInt8)} (h : ∀ n, n ∈ ks ↔ X.Reach (-1) (parsOf X hs) n) : (!(hs.any fun n => decide (n ∈ ks))) = apartB X hs := by
  unfold apartB;congr 1;refine congrArg (fun f => hs.any f) (funext fun n => ?_);unfold rB;exact decide_eq_decide.2 (h n)

theorem cut_none (x : DD) (hx : x.ok) (h16 : ∀ p ∈ x.P, p.2.ls.length ≤ 16) (p : Nat) : Meets Tryz.prog 77 [ptr p 0] [] (fun W => Lies (x.blks p) W) (fun v out => v = .bool false ∧ out = []) := by
 intro W hW;refine Ac Tryz.func77 J 12 Tryz.ntmps77 J (G8 ?_);refine .call4 J J J J J Body79 (dag_closure x hx h16 p Sl.nil [] (Nat.zero_le _)) (fun w h => ⟨lies_keep hW h, nil_rows w⟩) ?_;rintro v7 out7 (⟨⟨n, hn, _⟩, _⟩ | ⟨_, s7, ks, rfl, _⟩)
 · cases hn
 refine G10 ?_;refine .nei J J J J (show (!decide _) = false from congrArg not (decide_eq_true (rfl))) (G3 ?_);refine G2 ?_;refine A0 (out := []) (Ai J J) Al ?_;exact ⟨rfl, rfl⟩

theorem getD_mem2 {L : List (List UInt8)} {k : Nat} (h : k < L.length) : L.getD k [] ∈ L := by
  rw [List.getD_eq_getElem?_getD, List.getElem?_eq_getElem h]; exact List.getElem_mem h
theorem P32 {x : DD} (hx : x.ok) {n : List UInt8} (h : ∃ D, Au x.pl.P n = some D) : n.length = 32 := by
  obtain ⟨D, hD⟩ := h;obtain ⟨p, hp, e⟩ := List.mem_map.1 (Cd (show Au x.P n = some D from hD));rw [← (Prod.mk.inj e).1]; exact (hx.ent p hp).1
theorem names_mem {X : PD} (hI : X.Inv) (n : List UInt8) : n ∈ X.names ↔ ∃ D, Au X.P n = some D := by rw [hI.nn]; exact key_some
theorem nd_len : ∀ {l m : List (List UInt8)}, l.Nodup → (∀ n ∈ l, n ∈ m) → l.length ≤ m.length
  | [], m, _, _ => Nat.zero_le _
  | a :: l, m, h, hs => by
    obtain ⟨h1, h2⟩ := List.nodup_cons.1 h;have ha := hs a List.mem_cons_self;have ih := nd_len (l := l) (m := m.erase a) h2 (fun n hn => (List.mem_erase_of_ne (fun e => h1 (by rw [← e]; exact hn))).2 (hs n (List.mem_cons_of_mem _ hn)));have hl := List.length_erase_of_mem ha;have hp := List.length_pos_of_mem ha;rw [List.length_cons]; omega
theorem reach_len {X : PD} (hI : X.Inv) {L ks : List (List UInt8)} (hnd : ks.Nodup) (hks : ∀ n, n ∈ ks ↔ X.Reach (-1) L n) : ks.length ≤ X.names.length := nd_len hnd fun n hn => (names_mem hI n).2 (reach_P ((hks n).1 hn))
theorem parsOf_take (X : PD) (ls : List (List UInt8)) (h17 : ∀ n ∈ ls, (Ce ((Au X.P n).getD DB.zero)).length ≤ 17) (k : Nat) : (parsOf X (ls.take k)).length ≤ 17 * ls.length := by
  have h1 := parsOf_le X (ls.take k) (fun n hn => h17 n (List.mem_of_mem_take hn));have h2 : (ls.take k).length ≤ ls.length := by rw [List.length_take]; exact Nat.min_le_right _ _
  omega
theorem parsOf_P {X : PD} (hI : X.Inv) {ls : List (List UInt8)} (hP : ∀ n ∈ ls, ∃ D, Au X.P n = some D) {n : List UInt8} (h : n ∈ parsOf X ls) : ∃ D, Au X.P n = some D := by
  obtain ⟨k, hk, hn⟩ := parsOf_mem h;obtain ⟨D, hD⟩ := hP k hk;rw [hD] at hn;exact (hI.par k D hD n hn).1
theorem parsOf_32 {x : DD} (hI : x.pl.Inv) (hx : x.ok) {ls : List (List UInt8)} (hP : ∀ n ∈ ls, ∃ D, Au x.pl.P n = some D) : ∀ n ∈ parsOf x.pl ls, n.length = 32 := fun _ hn => P32 hx (parsOf_P hI hP hn)
theorem hB_ok {x : DD} (hx : x.ok) {q : Nat} {W : World} (hl : Lies (x.blks q) W) {n : List UInt8} {D : DB} (h : Au x.pl.P n = some D) : D.ok := by
  obtain ⟨p, hp, e⟩ := List.mem_map.1 (Cd (show Au x.P n = some D from h));have := ((hx.ent p hp).2.1.2 W (hl.sub (x.mcb q))).dok;rw [← (Prod.mk.inj e).2]; exact this

theorem cut_apart (x : DD) (hx : x.ok) (hI : x.pl.Inv) (p : Nat) (s : Sl) (ls : List (List UInt8)) (hls : ls.length ≤ 1000) (hP : ∀ n ∈ ls, ∃ D, Au x.pl.P n = some D) : Meets Tryz.prog 81 [ptr p 0, s.v] [] (fun W => Lies (x.blks p) W ∧ RowsAt W s 32 ls) (fun v out => v = .bool (apartB x.pl ls) ∧ out = []) := by
 intro W hW;have h32k : True := trivial;have hck : ∀ q ∈ x.P, q.2.check = 0 := hI.ck;have h16 : ∀ q ∈ x.P, q.2.ls.length ≤ 16 := fun q hq => (ck_small (hck q hq)).1;have hlen := hW.2.len;have hrow := hW.2.row;have h17 : ∀ n ∈ ls, (Ce ((Au x.pl.P n).getD DB.zero)).length ≤ 17 := fun n hn => by obtain ⟨D, hD⟩ := hP n hn; have h9 : D.ls.length ≤ 16 := h16 _ (Cd hD); have h8 := parL_len D; rw [hD]; show (Ce D).length ≤ 17; omega
 have hpl := parsOf_le x.pl ls h17;refine Ac Tryz.func81 J 39 Tryz.ntmps81 J (G19 ?_);refine .loop (ι := Nat × Sl × List Blk) (fun r => ⟨[(0, ptr p 0), (1, s.v), (5, r.2.1.v), (12, s.v), (13, i64 (s.n : Int)), (14, i64 (r.1 : Int))], (r.2.2 ++ [])⟩) (fun r => r.1 ≤ s.n ∧ Hw.Acc r.2.1 r.2.2 (A1 (parsOf x.pl (ls.take r.1))) 25 (parsOf x.pl (ls.take r.1)).length 32) (fun r => s.n - r.1) ((0, Sl.nil, [])) ?_ ?_ ?_
 · exact ⟨Nat.zero_le _, Acc.none⟩
 · exact Aq (wk1 rfl (wk1 rfl (wk1 rfl (wk1 rfl (wk1 rfl (wk1 rfl wk0)))))) (Ah (by repeat (exact sg_end)) Al)
 rintro ⟨k, s5, bl⟩ ⟨hk, hac⟩;simp only at hk hac ⊢;have hkl := parsOf_take x.pl ls h17 k;refine G6 ?_;refine .condP J (fun hc0 => ?_) (fun hc0 => ?_)
 ·
  have hk2 : k < s.n := by omega
  obtain ⟨b, o, hbp, hbs⟩ := hW.2.see.at (by rw [Az hrow]; omega);have h32k : (ls.getD k []).length = 32 := Bs hrow oM;have hPk := hP _ (getD_mem2 (show k < ls.length by omega));refine G6 ?_;refine .idxSlP 32 J J J hbp J Y26.h Sz25 k J oM (.loadEN (Aa (ls.getD k [])) J J J Y25.h J Sz25 sP (by rw [Aa, List.length_map]; exact h32k) (Cc hrow hbs oM) ?_);refine .alloc (cs := (Aa (List.replicate 32 0))) J Cr J ?_;intro n7 hn7 hf7;refine .sA J J J J zE Sz25 (by (rw [Aa, List.length_map]; assumption)) Z0 sP zU ?_;refine G5 ?_;refine .lA J J J Y25.h J Sz25 Z0 (by (rw [Aa, List.length_map]; assumption)) ?_;refine .call4 J J J J J Body131 (dag_get x hx hck p (ls.getD k []) h32k) (fun w h => lies_keep hW.1 h) ?_;rintro v21 out21 (⟨h0, _⟩ | ⟨D, B, hD, hB, rfl, hbi⟩)
  · exfalso; obtain ⟨D, hD⟩ := hPk; rw [h0] at hD; cases hD
  have hD16 : D.ls.length ≤ 16 := h16 _ (Cd hD);have hp17 : (Ce D).length ≤ 17 := by have := parL_len D; omega
  refine G3 ?_;refine .alloc (cs := Block.zero.cells) J Block.zr J ?_;intro n8 hn8 hf8;refine .sA J J J J (Block.isCell (by exact hB.ok)) Sz48 (Block.length (by exact hB.ok)) Z0 (Block.length (by exact Block.zero_ok)) zU ?_;refine G4 ?_;have hdok : D.ok := (hB_ok hx hW.1 hD);have hprow := parL_row hdok;refine G1 ?_;refine .lA J J J Y48.h J Sz48 Z0 (Block.length (by exact hB.ok)) ?_;refine .call4 J J J J J Body133 (db_parA B D oM) (fun w h => hbi w (Lies.of h (by repeat (first | exact Bg | refine Bm ?_)))) ?_;rintro v26 out26 ⟨⟨p26, n26, c26⟩, rfl, hac26⟩;have hn26 : n26 = (Ce D).length := hac26.num;refine .appendAcc (n := (parsOf x.pl (ls.take k)).length) (z := agg (Aa (List.replicate 32 0))) (by' := 32) (A1 (Ce D)) J J J J J Y26.h Y26.h Sz25 Cr (by unfold By; kernel_rfl) J hac sG (fun w h => hac26.see (Lies.of h (by repeat (exact Bg)))) (fun e => hac26.nil e) (flatB_cell _) (by show (parsOf x.pl (ls.take k)).length + n26 ≤ 1000000; omega) (by show ((parsOf x.pl (ls.take k)).length + n26) * 32 ≤ 140737488355328; omega) (by rw [Az hprow, ← hn26]) ?_;intro s27 bl27 hac27;refine G9 ?_;refine ⟨(k + 1, s27, bl27), ⟨by simp only; omega, ?_⟩, by simp only; omega, Aq (wk1 J (wk1 J (wk1 J (wk1 J (wk1 J (wk1 J wk0)))))) (Ah sG Al)⟩;simp only;rw [parsOf_step oM hD, flatB_append, List.length_append, ← hn26];exact hac27
 have hke : k = ls.length := by omega
 rw [hke, List.take_length] at hac;refine G9 ?_;refine .call4 J J J J J Body79 (dag_closure x hx h16 p s5 (parsOf x.pl ls) (by have := hac.num; omega)) (fun w h => ⟨lies_keep hW.1 h, acc_rows hac (Lies.of h (by repeat (exact Bg))) (parsOf_32 hI hx hP) J oM⟩) ?_;rintro v32 out32 (⟨⟨n, hn, h0⟩, _⟩ | ⟨hall, s32, ks, rfl, hac32, hso, hnd, hks⟩)
 · exfalso; obtain ⟨D, hD⟩ := parsOf_P hI hP hn; rw [h0] at hD; cases hD
 have hk32 : ∀ l ∈ ks, l.length = 32 := fun l hl => P32 hx (reach_P ((hks l).1 hl));have hkb : ks.length ≤ 400000 := by have h9 := reach_len hI hnd hks; have h8 : x.pl.names.length = x.names.length := rfl; have h7 := hx.big; omega
 refine G3 ?_;refine .alloc (cs := [.slice none 0 0]) J Zr26 J ?_;intro n10 hn10 hf10;refine .s1 J J J J J Sz26 Z0 sP (by rfl) zU ?_;refine G7 ?_;refine .cV J J J J Body132 (contains_apart s ls n10 s32 ks hso hnd hkb) (fun w h => ⟨rows_ext h J hW.2, acc_rows hac32 (Lies.of h (by repeat (first | exact Bg | refine Bm ?_))) hk32 J oM, (own_blk h Z0).cell (o := 0) J⟩) ?_;refine G4 ?_;refine G2 ?_;refine A0 (out := []) (Ai J J) Al ?_;exact ⟨congrArg Value.bool (apart_eq hks), rfl⟩

theorem res_cell_cell_tmp {C : Cx} {fn : Func} {s : St} {t t2 t3 : Tmp} {T T2 : TypeId} {td td2 : TypeDesc} {n n2 b b2 : Nat} {cs cs2 : List Value} {BT BT2 : TypeId} {m m2 : Nat} {v3 : Value} (hr : fn.results = #[.cell t T, .cell t2 T2, .tmp t3]) (hv : Hw.look s.sl t = some (ptr b 0)) (hv2 : Hw.look s.sl t2 = some (ptr b2 0)) (hv3 : Hw.look s.sl t3 = some v3)
    (hu : C.P.underlying T = some td) (hp' : Bv td = false) (hs : Sz C.P T n) (hb : (⟨b, cs, BT, m⟩ : Blk) ∈ s.hp) (hn : cs.length = n) (hu2 : C.P.underlying T2 = some td2) (hp2 : Bv td2 = false) (hs2 : Sz C.P T2 n2) (hb2 : (⟨b2, cs2, BT2, m2⟩ : Blk) ∈ s.hp) (hn2 : cs2.length = n2) : Res C fn s (.tuple #[agg cs, agg cs2, v3]) := by
  intro a w r;have h1 := r.rs.slots t _ hv;have h2 := r.rs.slots t2 _ hv2;have h3 := r.rs.slots t3 _ hv3;simp [results, hr, h1, h2, h3, asAddr, run_cellAll r.rh hu hp' hs hb hn, run_cellAll r.rh hu2 hp2 hs2 hb2 hn2]
def lastC (rs : List Cut) : Cut := rs.getLastD Cut.zero
def lastD (ds : List DCut) : DCut := ds.getLastD DCut.zero
def lastN (ds : List DCut) : List UInt8 := if ds.length = 0 then List.replicate 32 0 else cnameD (lastD ds)
def lastE (ds : List DCut) : Int := if ds.length = 0 then 0 else (lastD ds).check
theorem last_of {α : Type} {l : List α} {k : Nat} {a z : α} (h : l[k]? = some a) (hk : k + 1 = l.length) : l.getLastD z = a := by
  rw [List.getLastD_eq_getLast?, List.getLast?_eq_getElem?, show l.length - 1 = k by omega, h]; rfl
theorem lastN_length (ds : List DCut) : (lastN ds).length = 32 := by
  unfold lastN;split
  · rfl
  · exact cnameD_length _
abbrev CutsIn (W : World) (s : Sl) (rs : List Cut) (ds : List DCut) : Prop := SeqIs Cut.cells 34 CutIs W s rs ds
theorem cuts_last {W : World} {s : Sl} {rs : List Cut} {ds : List DCut} (h : CutsIn W s rs ds) : CutIs W (lastC rs) (lastD ds) := by
  have h1 := h.nr;have h2 := h.nd;by_cases h0 : s.n = 0
  · obtain rfl : rs = [] := List.eq_nil_of_length_eq_zero oM
    obtain rfl : ds = [] := List.eq_nil_of_length_eq_zero oM;exact cutz_is W
  · obtain ⟨b, o, r, d, _, hr, hd, his, _⟩ := h.at (i := s.n - 1) dE oM
    rw [show lastC rs = r from last_of hr oM, show lastD ds = d from last_of hd oM];exact his
theorem last_small {ds : List DCut} (h : lastE ds = 0) : (lastD ds).dHeads.length ≤ 32 := by
  unfold lastE at h;split at h
  · obtain rfl : ds = [] := List.eq_nil_of_length_eq_zero zA
    exact Nat.zero_le _
  · exact (lastD ds).small h

theorem cut_last (s : Sl) (rs : List Cut) (ds : List DCut) : Meets Tryz.prog 78 [s.v] [] (fun W => CutsIn W s rs ds) (fun v out => v = .tuple #[agg (lastC rs).cells, agg (Aa (lastN ds)), i64 (lastE ds)] ∧ out = []) := by
 intro W hW;have hnd := hW.nd;have hnr := hW.nr;have hmax := hW.max;simp only [maxLen] at hmax;refine Ac Tryz.func78 J 22 Tryz.ntmps78 J (G2 ?_);refine .alloc (cs := Cut.zero.cells) J Cut.zr J ?_;intro n2 hn2 hf2;refine .alloc (cs := (Aa (List.replicate 32 0))) J Cr J ?_;intro n3 hn3 hf3;refine G11 ?_;refine .condP J (fun hc0 => ?_) (fun hc0 => ?_)
 ·
  refine G2 ?_;refine .build (cs := Cut.zero.cells) J J J (fun w => by kernel_rfl) ?_;refine .build (cs := Aa (List.replicate 32 0)) J J J (fun w => by kernel_rfl) ?_;refine G1 ?_;refine .sA J J J J zE Sz25 sP Z0 sP zU ?_;refine G3 ?_;refine G3 ?_;refine ⟨_, [], res_cell_cell_tmp J J J J Y28.h J Sz28 Z1 (by exact Cut.length (by exact Cut.zero_ok)) Y25.h J Sz25 Z0 sP, sP, sP, ?_, rfl⟩;rw [show rs = [] from List.eq_nil_of_length_eq_zero oM, show ds = [] from List.eq_nil_of_length_eq_zero oM];rfl
 obtain ⟨b, o, r, d, hsp, hr, hd, his, hlen, hsee⟩ := hW.at (i := s.n - 1) dE oM;refine G8 ?_;refine .idxSlP 34 J J J hsp J Y22.h Sz28 (s.n - 1) oM oM (.loadEN r.cells J J J Y28.h J Sz28 sP hlen hsee (.alloc (cs := Cut.zero.cells) J Cut.zr J ?_));intro n5 hn5 hf5;refine .sA J J J J (Cut.isCell (by exact his.ok)) Sz28 (Cut.length (by exact his.ok)) Z0 (Cut.length (by exact Cut.zero_ok)) zU ?_;refine G3 ?_;refine .withK (sp_k (sp_v (sp_v sp_n))) J (.draw (oP [0,1,3,302,304,405,406,7]) Ao zK (.kloadAll J J J Y28.h J Sz28 Z0 (Cut.length (by exact his.ok)) ?_));refine .kloadAll J J J Y28.h J Sz28 Z0 (Cut.length (by exact his.ok)) ?_;refine .kloadAll J J J Y28.h J Sz28 Z0 (Cut.length (by exact his.ok)) ?_;refine .cV J J J J Body25 (cut_name r d) (fun w h => his.ext h J) (.cV J J J J Body26 (cut_check r d) (fun w h => his.ext h J) (.sA J J J J (Cut.isCell (by exact his.ok)) Sz28 (Cut.length (by exact his.ok)) Z1 (Cut.length (by exact Cut.zero_ok)) zV ?_));refine .sA J J J J zE Sz25 (by (simp [cnameD_length]; done)) Z0 sP zU ?_;refine G3 ?_;refine G2 ?_;refine ⟨_, [], res_cell_cell_tmp J J J J Y28.h J Sz28 Z1 (by exact Cut.length (by exact his.ok)) Y25.h J Sz25 Z0 (by simp [cnameD_length]), sP, sP, ?_, rfl⟩;rw [show lastC rs = r from last_of hr oM, lastN, lastE, if_neg oM, if_neg oM, show lastD ds = d from last_of hd oM]
def missB (X : PD) (L : List (List UInt8)) : Bool := L.any fun n => (Au X.P n).isNone
noncomputable def beneath (X : PD) (L : List (List UInt8)) : List (List UInt8) := (X.P.map (·.1)).filter fun n => rB X (-1) L n
theorem clos_len {X : PD} (hI : X.Inv) {L ks : List (List UInt8)} (hnd : ks.Nodup) (hks : ∀ n, n ∈ ks ↔ X.Reach (-1) L n) : ks.length = (beneath X L).length := by
  refine ((List.perm_ext_iff_of_nodup hnd (hI.nd.filter _)).2 fun n => ?_).length_eq;rw [hks, List.mem_filter, rB_iff];refine ⟨fun h => ⟨?_, h⟩, fun h => h.2⟩;obtain ⟨D, hD⟩ := reach_P h;exact List.mem_map.2 ⟨(n, D), Cd hD, rfl⟩
theorem miss_yes {X : PD} {L : List (List UInt8)} (h : ∃ n ∈ L, Au X.P n = none) : missB X L = true := by
  obtain ⟨n, hn, h0⟩ := h;exact List.any_eq_true.2 ⟨n, hn, by rw [h0]; rfl⟩
theorem miss_no {X : PD} {L : List (List UInt8)} (h : ∀ n ∈ L, (Au X.P n).isSome = true) : missB X L = false := by
  unfold missB;rw [List.any_eq_false];intro n hn;have := h n hn;cases hm : Au X.P n with
  | none => rw [hm] at this; cases this
  | some D => simp
theorem all_not {X : PD} {c L k1 : List (List UInt8)} (hks : ∀ n, n ∈ k1 ↔ X.Reach (-1) c n) {k : Nat} (hk : k < L.length) (h : L.getD k [] ∉ k1) : (L.all fun n => rB X (-1) c n) = false := by
  cases he : L.all fun n => rB X (-1) c n with
  | false => rfl
  | true => exact absurd ((hks _).2 (rB_iff.1 (List.all_eq_true.1 he _ (getD_mem2 hk)))) h
theorem all_yes {X : PD} {c L k1 : List (List UInt8)} (hks : ∀ n, n ∈ k1 ↔ X.Reach (-1) c n) (h : ∀ j, j < L.length → L.getD j [] ∈ k1) : (L.all fun n => rB X (-1) c n) = true := by
  rw [List.all_eq_true];intro n hn;obtain ⟨j, hj, e⟩ := List.getElem_of_mem hn;have h1 := h j hj;rw [List.getD_eq_getElem?_getD, List.getElem?_eq_getElem hj] at h1;rw [← e]; exact rB_iff.2 ((hks _).1 h1)
noncomputable def PD.ext (X : PD) (p : DCut) (nm : List UInt8) (e : Int) (c : DCut) : Int :=
  if e ≠ 0 then 2 else if c.check ≠ 0 then 2 else if (c.dHeight.toNat : Int) ≠ ((p.dHeight + 1).toNat : Int) then 4 else if c.dPrev ≠ nm then 4
  else if missB X p.dHeads = true then 6 else if missB X c.dHeads = true then 6
  else if (beneath X c.dHeads).length ≤ (beneath X p.dHeads).length then 4 else if apartB X c.dHeads = false then 4
  else if (p.dHeads.all fun h => rB X (-1) c.dHeads h) = false then 4 else 0

theorem cut_extends (x : DD) (hx : x.ok) (hI : x.pl.Inv) (p : Nat) (s : Sl) (rs : List Cut) (ds : List DCut) (C : Cut) (D : DCut) : Meets Tryz.prog 18 [ptr p 0, s.v, agg C.cells] [] (fun W => Lies (x.blks p) W ∧ CutsIn W s rs ds ∧ CutIs W C D) (fun v out => v = i64 (x.pl.ext (lastD ds) (lastN ds) (lastE ds) D) ∧ out = []) := by
 intro W hW;have h32k : True := trivial;have hck : ∀ q ∈ x.P, q.2.check = 0 := hI.ck;have h16 : ∀ q ∈ x.P, q.2.ls.length ≤ 16 := fun q hq => (ck_small (hck q hq)).1;have hC := hW.2.2;have hL := cuts_last hW.2.1;have hln := lastN_length ds;have hlC := hC.fHeads.len;have hlL := hL.fHeads.len;have eC := hC.fHeight;have eL := hL.fHeight;have eP := hC.fPrev;refine Ac Tryz.func18 J 91 Tryz.ntmps18 J (G3 ?_);intro n5 hn5 hf5;refine G7 ?_;refine .cV J J J J Body77 (cut_none x hx h16 p) (fun w h => lies_keep hW.1 h) (G2 ?_);refine .cond_f J J (G5 ?_);refine .cV J J J J Body78 (cut_last s rs ds) (fun w h => hW.2.1.ext h J fun r d hd => hd.ext h J) (G4 ?_);refine .alloc (cs := Cut.zero.cells) J Cut.zr J ?_;intro n7 hn7 hf7;refine .alloc (cs := (Aa (List.replicate 32 0))) J Cr J ?_;intro n8 hn8 hf8;refine .sA J J J J (Cut.isCell (by exact hL.ok)) Sz28 (Cut.length (by exact hL.ok)) Z1 (Cut.length (by exact Cut.zero_ok)) zV ?_;refine .sA J J J J zE Sz25 (by (simp [lastN_length]; done)) Z0 sP zU ?_;refine G7 ?_;refine two (fun r hr k => Tr.nei J J J J hr k) (fun hs4_10 => ?_) (fun hs4_10 => ?_)
 ·
  have hs4_1 := nd_t hs4_10;refine G7 ?_;refine .cond_t J J (G5 ?_);refine G3 ?_;refine ⟨_, [], Ai J J, sP, sP, ?_, rfl⟩;refine congrArg i64 (Eq.symm ?_);unfold PD.ext;rw [if_pos hs4_1]
 have hs4_1 := nd_f hs4_10;refine G1 ?_;refine .lA J J J Y28.h J Sz28 Z2 (Cut.length (by exact hC.ok)) ?_;refine .cV J J J J Body26 (cut_check C D) (fun w h => hC.ext h J) (G4 ?_);refine .condNP J (fun hc1 => ?_) (fun hc1 => ?_)
 ·
  refine G5 ?_;refine G3 ?_;refine ⟨_, [], Ai J J, sP, sP, ?_, rfl⟩;refine congrArg i64 (Eq.symm ?_);unfold PD.ext;rw [if_neg (not_not_intro hs4_1), if_pos hc1]
 refine G6 ?_;refine .load1 J J J Y23.h J Z2 (by exact Cut.get_fHeight (by exact hC.ok)) ?_;refine G1 ?_;refine .load1 J J J Y23.h J Z1 (by exact Cut.get_fHeight (by exact hL.ok)) ?_;refine .add_u64 J J J (show Af _ _ = some (u64 1) from rfl) (two (fun r hr k => Tr.nei J J J J hr k) (fun hs6_50 => ?_) (fun hs6_50 => ?_))
 ·
  have hs6_5 := nd_t hs6_50;refine G8 ?_;refine .cond_t J J (G5 ?_);refine G3 ?_;refine ⟨_, [], Ai J J, sP, sP, ?_, rfl⟩;refine congrArg i64 (Eq.symm ?_);unfold PD.ext;rw [if_neg (not_not_intro hs4_1), if_neg (not_not_intro hc1), if_pos (by rw [← eC, ← eL]; exact hs6_5)]
 have hs6_5 := nd_f hs6_50;refine G2 ?_;refine .lN (Aa _) J J J Y25.h J Sz25 Z2 (Cut.row_fPrev (by exact hC.ok)) (Cut.rl_fPrev (by exact hC.ok)) ?_;refine .lA J J J Y25.h J Sz25 Z0 (by (simp [lastN_length]; done)) ?_;refine .neq_bytes J J J J Tryz.eqGuardType25 Y25.h Y5.h Sz5 (by (simp [hC.ok.l_fPrev]; done)) (by (simp [lastN_length]; done)) J ?_;refine G3 ?_;refine .condNP J (fun hc2 => ?_) (fun hc2 => ?_)
 ·
  refine G5 ?_;refine G3 ?_;refine ⟨_, [], Ai J J, sP, sP, ?_, rfl⟩;refine congrArg i64 (Eq.symm ?_);unfold PD.ext;rw [if_neg (not_not_intro hs4_1), if_neg (not_not_intro hc1), if_neg (not_not_intro (by rw [← eC, ← eL]; exact hs6_5)), if_pos (by rw [← eP]; exact hc2)]
 refine G6 ?_;refine .load1 J J J Y26.h J Z1 (by exact Cut.get_fHeads (by exact hL.ok)) ?_;refine .call4 J J J J J Body79 (dag_closure x hx h16 p (lastC rs).fHeads (lastD ds).dHeads (by have := last_small hs4_1; omega)) (fun w h => ⟨lies_keep hW.1 h, rows_ext h J hL.fHeads⟩) ?_;rintro v47 out47 (⟨hm0, rfl, rfl⟩ | ⟨ha0, s47, k0, rfl, hac47, hso0, hnd0, hks0⟩)
 ·
  skip;refine G14 ?_;refine .cond_t J J (G6 ?_);refine G3 ?_;refine ⟨_, [], Ai J J, sP, sP, ?_, rfl⟩;show i64 6 = _;refine congrArg i64 (Eq.symm ?_);unfold PD.ext;rw [if_neg (not_not_intro hs4_1), if_neg (not_not_intro hc1), if_neg (not_not_intro (by rw [← eC, ← eL]; exact hs6_5)), if_neg (not_not_intro (by rw [← eP]; exact hc2)), if_pos (miss_yes hm0)]
 skip;refine G14 ?_;refine .cond_f J J (G6 ?_);refine .load1 J J J Y26.h J mR (by exact Cut.get_fHeads (by exact hC.ok)) ?_;refine .call4 J J J J J Body79 (dag_closure x hx h16 p C.fHeads D.dHeads (by have := D.small hc1; omega)) (fun w h => ⟨lies_keep hW.1 h, rows_ext h J hC.fHeads⟩) ?_;rintro v57 out57 (⟨hm1, rfl, rfl⟩ | ⟨ha1, s57, k1, rfl, hac57, hso1, hnd1, hks1⟩)
 ·
  skip;refine G14 ?_;refine .cond_t J J (G6 ?_);refine G3 ?_;refine ⟨_, [], Ai J J, sP, sP, ?_, rfl⟩;show i64 6 = _;refine congrArg i64 (Eq.symm ?_);unfold PD.ext;rw [if_neg (not_not_intro hs4_1), if_neg (not_not_intro hc1), if_neg (not_not_intro (by rw [← eC, ← eL]; exact hs6_5)), if_neg (not_not_intro (by rw [← eP]; exact hc2)), if_neg (by rw [miss_no ha0]; decide), if_pos (miss_yes hm1)]
 have hk132 : ∀ l ∈ k1, l.length = 32 := fun l hl => P32 hx (reach_P ((hks1 l).1 hl));have hk1b : k1.length ≤ 400000 := by have h9 := reach_len hI hnd1 hks1; have h8 : x.pl.names.length = x.names.length := rfl; have h7 := hx.big; omega
 have hcl0 := clos_len hI hnd0 hks0;have hcl1 := clos_len hI hnd1 hks1;have hn47 := hac47.num;have hn57 := hac57.num;have hsm := D.small hc1;have hsL := last_small hs4_1;refine G14 ?_;refine .cond_f J J (G9 ?_);refine two (fun r hr k => Tr.leq J J J J hr k) (fun hs14_40 => ?_) (fun hs14_40 => ?_)
 ·
  have hs14_4 := of_decide_eq_true hs14_40;refine G9 ?_;refine .cond_t J J (G5 ?_);refine G3 ?_;refine ⟨_, [], Ai J J, sP, sP, ?_, rfl⟩;refine congrArg i64 (Eq.symm ?_);unfold PD.ext;rw [if_neg (not_not_intro hs4_1), if_neg (not_not_intro hc1), if_neg (not_not_intro (by rw [← eC, ← eL]; exact hs6_5)), if_neg (not_not_intro (by rw [← eP]; exact hc2)), if_neg (by rw [miss_no ha0]; decide), if_neg (by rw [miss_no ha1]; decide), if_pos oM]
 have hs14_4 := of_decide_eq_false hs14_40;refine G3 ?_;refine .load1 J J J Y26.h J mR (by exact Cut.get_fHeads (by exact hC.ok)) ?_;refine .cV J J J J Body81 (cut_apart x hx hI p C.fHeads D.dHeads oM (fun n hn => Option.isSome_iff_exists.1 (ha1 n hn))) (fun w h => ⟨lies_keep hW.1 h, rows_ext h J hC.fHeads⟩) (G4 ?_);refine .cond J (fun hc5 => ?_) (fun hc5 => ?_)
 ·
  refine G5 ?_;refine G3 ?_;refine ⟨_, [], Ai J J, sP, sP, ?_, rfl⟩;refine congrArg i64 (Eq.symm ?_);unfold PD.ext;rw [if_neg (not_not_intro hs4_1), if_neg (not_not_intro hc1), if_neg (not_not_intro (by rw [← eC, ← eL]; exact hs6_5)), if_neg (not_not_intro (by rw [← eP]; exact hc2)), if_neg (by rw [miss_no ha0]; decide), if_neg (by rw [miss_no ha1]; decide), if_neg oM, if_pos (by simpa using hc5)]
 refine G6 ?_;refine .load1 J J J Y26.h J mR (by exact Cut.get_fHeads (by exact hL.ok)) ?_;refine G5 ?_;refine .loop (ι := Nat) (fun k => ⟨[(11, s57.v), (76, (lastC rs).fHeads.v), (77, i64 ((lastC rs).fHeads.n : Int)), (78, i64 (k : Int))], (out57 ++ [])⟩) (fun k => k ≤ (lastC rs).fHeads.n ∧ ∀ j, j < k → (lastD ds).dHeads.getD j [] ∈ k1) (fun k => (lastC rs).fHeads.n - k) (0) ?_ ?_ ?_
 · exact ⟨Nat.zero_le _, fun j hj => absurd hj (Nat.not_lt_zero _)⟩
 · exact Aq (wk1 rfl (wk1 rfl (wk1 rfl (wk1 rfl wk0)))) (Ah sG Al)
 rintro k ⟨hk, hg⟩;refine G6 ?_;refine .condP J (fun hc6 => ?_) (fun hc6 => ?_)
 ·
  have hk2 : k < (lastC rs).fHeads.n := by omega
  obtain ⟨b, o, hbp, hbs⟩ := hL.fHeads.see.at (by rw [Az hL.fHeads.row]; omega);have h32k : ((lastD ds).dHeads.getD k []).length = 32 := Bs hL.fHeads.row oM;refine G6 ?_;refine .idxSlP 32 J J J hbp J Y26.h Sz25 k J oM (.loadEN (Aa ((lastD ds).dHeads.getD k [])) J J J Y25.h J Sz25 sP (by rw [Aa, List.length_map]; exact h32k) (Cc hL.fHeads.row hbs oM) ?_);refine .alloc (cs := (Aa (List.replicate 32 0))) J Cr J ?_;intro n13 hn13 hf13;refine .sA J J J J zE Sz25 (by (rw [Aa, List.length_map]; assumption)) Z0 sP zU ?_;refine G5 ?_;refine .lA J J J Y25.h J Sz25 Z0 (by (rw [Aa, List.length_map]; assumption)) ?_;refine .call4 J J J J J Body82 (bsearch s57 k1 ((lastD ds).dHeads.getD k []) h32k hso1 hnd1 hk1b) (fun w h => acc_rows hac57 (Lies.of h (by repeat (first | exact Bg | refine Bm ?_))) hk132 J oM) ?_;rintro v85 out85 ⟨⟨i85, rfl⟩, rfl⟩;refine G13 ?_;refine .condNP J (fun hc7 => ?_) (fun hc7 => ?_)
  ·
   refine G5 ?_;refine G7 ?_;refine ⟨_, [], Ai J J, sP, sP, ?_, rfl⟩;refine congrArg i64 (Eq.symm ?_);unfold PD.ext;rw [if_neg (not_not_intro hs4_1), if_neg (not_not_intro hc1), if_neg (not_not_intro (by rw [← eC, ← eL]; exact hs6_5)), if_neg (not_not_intro (by rw [← eP]; exact hc2)), if_neg (by rw [miss_no ha0]; decide), if_neg (by rw [miss_no ha1]; decide), if_neg oM, if_neg (by simpa using hc5), if_pos (all_not hks1 oM hc7)]
  refine G8 ?_;exact ⟨k + 1, ⟨by omega, fun j hj => by rcases Nat.lt_succ_iff_lt_or_eq.1 hj with h | rfl; exact hg j h; simpa using hc7⟩, by omega, Aq (wk1 rfl (wk1 rfl (wk1 rfl (wk1 rfl wk0)))) (Ah sG Al)⟩
 obtain rfl : k = (lastC rs).fHeads.n := by omega
 refine G10 ?_;refine G2 ?_;refine ⟨_, [], Ai J J, sP, sP, ?_, rfl⟩;refine congrArg i64 (Eq.symm ?_);unfold PD.ext;rw [if_neg (not_not_intro hs4_1), if_neg (not_not_intro hc1), if_neg (not_not_intro (by rw [← eC, ← eL]; exact hs6_5)), if_neg (not_not_intro (by rw [← eP]; exact hc2)), if_neg (by rw [miss_no ha0]; decide), if_neg (by rw [miss_no ha1]; decide), if_neg oM, if_neg (by simpa using hc5), if_neg (by rw [all_yes hks1 (fun j hj => hg j oM)]; decide)]

def RowsW (L : List (List UInt8)) (v : Value) (out : List Blk) : Prop := ∃ s : Sl, v = s.v ∧ s.n = L.length ∧ ∀ W2, Lies out W2 → RowsAt W2 s 32 L
theorem RowsW.loose (L : List (List UInt8)) : Loose (RowsW L) := fun l hl => by
  obtain ⟨n, _, hn⟩ := fresh_is 0 l;refine ⟨_, [⟨n, [undef], 0, 0⟩], ⟨⟨none, L.length, 0⟩, rfl, rfl, fun W2 h => (lie_none h).elim⟩, ?_⟩;rw [List.map_append, List.nodup_append];refine ⟨by simp, hl, fun i hi j hj => ?_⟩;obtain ⟨b, hb, rfl⟩ := List.mem_map.1 hj;simp only [List.map_cons, List.map_nil, List.mem_singleton] at hi;subst hi;exact Ne.symm (hn b hb)
theorem heads_mem (X : PD) (n : List UInt8) : n ∈ X.heads ↔ n ∈ X.hds.map (·.1) := (isort_perm _).mem_iff
theorem heads_P {X : PD} (hI : X.Inv) {n : List UInt8} (h : n ∈ X.heads) : ∃ D, Au X.P n = some D := ((hI.hd n).1 ((heads_mem X n).1 h)).1
theorem heads_sort (X : PD) : SortB X.heads := isort_sort _
theorem seesP_left {W : World} {p : Option Addr} {a b : List Value} (h : SeesP W p (a ++ b)) : SeesP W p a := fun j v hj => h j v (by rw [List.getElem?_append_left (List.getElem?_eq_some_iff.1 hj).1]; exact hj)
theorem rows_take {W : World} {s : Sl} {ls : List (List UInt8)} {m : Nat} (h : SeesP W s.p (A1 ls)) (hr : ∀ l ∈ ls, l.length = 32) : SeesP W s.p (A1 (ls.take m)) := by
  have e : A1 ls = A1 (ls.take m) ++ A1 (ls.drop m) := by rw [← flatB_append, List.take_append_drop]
  rw [e] at h;exact seesP_left h
theorem reach_nil {X : PD} {a : Int} {n : List UInt8} (h : X.Reach a [] n) : False := by
  induction h with
  | base h1 _ _ => cases h1
  | step _ _ _ _ _ ih => exact ih
def PD.nxt0 (X : PD) : DCut × Int := if X.heads.length = 0 then (DCut.zero, 6) else (⟨1, List.replicate 32 0, X.heads.take 32⟩, 0)
def CutV (D : DCut) (e : Int) (v : Value) (out : List Blk) : Prop := ∃ C : Cut, C.ok ∧ v = .tuple #[agg C.cells, i64 e] ∧ ∀ W2, Lies out W2 → CutIs W2 C D
theorem cut_last0 : Meets Tryz.prog 78 [.slice none 0 0] [] (fun _ => True) (fun v out => v = .tuple #[agg Cut.zero.cells, agg (Aa (List.replicate 32 0)), i64 0] ∧ out = []) :=
  (cut_last Sl.nil [] []).imp (fun w h => SeqIs.none) fun v out h => h

theorem cut_choose0 (x : DD) (hx : x.ok) (hh32 : ∀ l ∈ x.pl.heads, l.length = 32) (p : Nat) : Meets Tryz.prog 80 [ptr p 0, .slice none 0 0] [] (fun W => Lies (x.blks p) W) (RowsW (x.pl.heads.take 32)) := by
 intro W hW;have hhl : x.pl.heads.length ≤ x.names.length := by rw [heads_len]; exact hx.hdsn
 have hbig := hx.big;refine Ac Tryz.func80 J 54 Tryz.ntmps80 J (G2 ?_);refine .box1 J J J ?_;intro n2 hn2 hf2;refine G5 ?_;refine .load1 J J J Tryz.underlying40 J Z0 J ?_;refine .call4 J J J J J Body142 (dag_heads x hx p) (fun w h => lies_keep hW h) ?_;rintro v12 out12 ⟨s12, rfl, hac12⟩;have hn12 := hac12.num;obtain ⟨m, hm⟩ : ∃ m, m = min 32 x.pl.heads.length := ⟨_, rfl⟩;have htl : (x.pl.heads.take 32).length = m := by rw [List.length_take, hm]
 have ht32 : ∀ l ∈ x.pl.heads.take 32, l.length = 32 := fun l hl => hh32 l (List.mem_of_mem_take hl);refine G17 ?_;refine .rounds 1 (SRounds.more (G2 ?_));refine .lss J J J J (decide_eq_false dE) (G3 ?_);refine .cond_f J J (G14 ?_);refine .min2 J J J J (show Value.int .i64 (if ((32 : Int) - ((0 : Nat) : Int)) < (s12.n : Int) then (32 : Int) - ((0 : Nat) : Int) else (s12.n : Int)) = i64 (m : Int) from congrArg (Value.int .i64) (by split <;> omega)) ?_;refine .sliceHiA s12 m J J J J J (by have := hac12.cap; omega) Y26.h Sz25 ?_;refine .appendAcc (n := 0) (z := agg (Aa (List.replicate 32 0))) (by' := 32) (A1 (x.pl.heads.take 32)) J J J J J Y26.h Y26.h Sz25 Cr (by unfold By; kernel_rfl) J (Acc.none (E := 25)) Al (fun w h => rows_take (hac12.see (Lies.of h (by repeat (exact Bg)))) hh32) (fun e => by have h9 := hac12.nil e; show m = 0; omega) (flatB_cell _) (by show 0 + m ≤ 1000000; omega) (by show (0 + m) * 32 ≤ 140737488355328; omega) (by rw [Az ht32, htl]) ?_;intro s50 bl50 hac50;rw [List.nil_append, Nat.zero_add, ← htl] at hac50;refine G6 ?_;refine .callL (L := bl50) J J J J J Body147 (sort_acc s50 bl50 (x.pl.heads.take 32) ht32 oM hac50) sG (lent_ok J) (fun w h => Lies.of h (by repeat (exact Bg))) ?_;rintro v52 out52 ⟨rfl, ks, hkp, hks, hac52⟩;obtain rfl : ks = x.pl.heads.take 32 := sort_unique hkp hks ((heads_sort _).sublist (List.take_sublist _ _));refine G8 ?_;refine G2 ?_;refine A0 (out := (out52 ++ [])) (Ai J J) (Ah sG Al) ?_;exact ⟨s50, rfl, hac52.num, fun W2 hl => acc_rows hac52 (by simpa using hl) ht32 rfl oM⟩

theorem nxt_none {X : PD} (hI : X.Inv) {k1 : List (List UInt8)} (hks : ∀ n, n ∈ k1 ↔ X.Reach (-1) (X.heads.take 32) n) (h : k1.length = 0) : X.heads.length = 0 := by
  obtain rfl := List.eq_nil_of_length_eq_zero h;cases hh : X.heads with
  | nil => rfl
  | cons a l =>
    exfalso;obtain ⟨D, hD⟩ := heads_P hI (n := a) (by rw [hh]; exact List.mem_cons_self);have := (hks a).2 (.base (by rw [hh]; exact List.mem_cons_self) hD (by have := hI.d0 a D hD; omega));cases this
theorem nxt_some {X : PD} {k1 : List (List UInt8)} (hks : ∀ n, n ∈ k1 ↔ X.Reach (-1) (X.heads.take 32) n) (h : X.heads.length = 0) : k1.length = 0 := by
  obtain e := List.eq_nil_of_length_eq_zero h;rw [e] at hks;cases k1 with
  | nil => rfl
  | cons a l => exact (reach_nil ((hks a).1 List.mem_cons_self)).elim

theorem cut_next0 (x : DD) (hx : x.ok) (hI : x.pl.Inv) (p : Nat) : Meets Tryz.prog 17 [ptr p 0, .slice none 0 0] [] (fun W => Lies (x.blks p) W) (CutV x.pl.nxt0.1 x.pl.nxt0.2) := by
 intro W hW;have hck : ∀ q ∈ x.P, q.2.check = 0 := hI.ck;have h16 : ∀ q ∈ x.P, q.2.ls.length ≤ 16 := fun q hq => (ck_small (hck q hq)).1;have hh32 : ∀ l ∈ x.pl.heads, l.length = 32 := fun l hl => P32 hx (heads_P hI hl);have hml : (x.pl.heads.take 32).length ≤ 32 := by rw [List.length_take]; exact Nat.min_le_left _ _
 refine Ac Tryz.func17 J 67 Tryz.ntmps17 J (G2 ?_);refine .alloc (cs := Cut.zero.cells) J Cut.zr J ?_;intro n4 hn4 hf4;refine G7 ?_;refine .cV J J J J Body77 (cut_none x hx h16 p) (fun w h => lies_keep hW h) (G2 ?_);refine .cond_f J J (G5 ?_);refine .cV J J J J Body78 (cut_last0) tV (G4 ?_);refine .alloc (cs := Cut.zero.cells) J Cut.zr J ?_;intro n6 hn6 hf6;refine .alloc (cs := (Aa (List.replicate 32 0))) J Cr J ?_;intro n7 hn7 hf7;refine G1 ?_;refine .sA J J J J zE Sz25 sP Z0 sP zU ?_;refine G7 ?_;refine .nei J J J J (show (!decide _) = false from congrArg not (decide_eq_true (rfl))) (G3 ?_);refine .eqi J J J J (decide_eq_false dE) (G3 ?_);refine .cond_f J J (G7 ?_);refine .call4 J J J J J Body79 (dag_closure x hx h16 p Sl.nil [] (Nat.zero_le _)) (fun w h => ⟨lies_keep hW h, nil_rows w⟩) ?_;rintro v33 out33 (⟨⟨n, hn, _⟩, _⟩ | ⟨_, s33, k0, rfl, hac33, hso0, hnd0, hks0⟩)
 · cases hn
 obtain rfl : k0 = [] := List.eq_nil_iff_forall_not_mem.2 fun n hn => reach_nil ((hks0 n).1 hn);have hn33 : s33.n = 0 := hac33.num;refine G11 ?_;refine .nei J J J J (show (!decide _) = false from congrArg not (decide_eq_true (rfl))) (G2 ?_);refine .cond_f J J (G3 ?_);refine .draw (oP [0,101,2,103,4,5,106,307,8,209,410]) Ao zK (G2 ?_);refine .add_u64 J J J (show Af _ _ = some (u64 1) from rfl) (.lA J J J Y25.h J Sz25 mR sP ?_);refine G3 ?_;refine .call J J J J Body80 (cut_choose0 x hx hh32 p) (RowsW.loose _) (fun w h => lies_keep hW h) ?_;rintro v47 out47 ⟨s47, rfl, hn47, hrw⟩;have ok47 : ({ Cut.zero with fHeight := Cut.zero.fHeight + 1, fHeads := s47 } : Cut).ok := ⟨rfl⟩;refine .build (cs := ({ Cut.zero with fHeight := Cut.zero.fHeight + 1, fHeads := s47 } : Cut).cells) J J J (fun w => by kernel_rfl) ?_;refine .alloc (cs := Cut.zero.cells) J Cut.zr J ?_;intro n10 hn10 hf10;refine .sA J J J J (Cut.isCell (by exact ok47)) Sz28 (Cut.length (by exact ok47)) Z0 (Cut.length (by exact Cut.zero_ok)) zU ?_;refine G6 ?_;refine .load1 J J J Y26.h J Z0 (by exact Cut.get_fHeads (by exact ok47)) ?_;refine .call4 J J J J J Body79 (dag_closure x hx h16 p s47 (x.pl.heads.take 32) oM) (fun w h => ⟨lies_keep hW h, hrw w (Lies.of h (by repeat (first | exact Bg | refine Bm ?_)))⟩) ?_;rintro v53 out53 (⟨⟨n, hn, h0⟩, _⟩ | ⟨_, s53, k1, rfl, hac53, hso1, hnd1, hks1⟩)
 · exfalso; obtain ⟨D, hD⟩ := heads_P hI (List.mem_of_mem_take hn); rw [h0] at hD; cases hD
 have hn53 := hac53.num;refine G11 ?_;refine .nei J J J J (show (!decide _) = false from congrArg not (decide_eq_true (rfl))) (G9 ?_);refine .condP J (fun hc3 => ?_) (fun hc3 => ?_)
 ·
  refine G2 ?_;refine .build (cs := Cut.zero.cells) J J J (fun w => by kernel_rfl) ?_;refine G4 ?_;refine G3 ?_;refine A0 (out := []) (Be J J J Y28.h J Sz28 mR (by exact Cut.length (by exact Cut.zero_ok))) Al ?_;have h0 : x.pl.heads.length = 0 := nxt_none hI hks1 oM;rw [PD.nxt0, if_pos h0];exact ⟨Cut.zero, Cut.zero_ok, rfl, fun W2 _ => cutz_is W2⟩
 refine G4 ?_;refine .lA J J J Y28.h J Sz28 mR (Cut.length (by exact ok47)) ?_;refine .sA J J J J (Cut.isCell (by exact ok47)) Sz28 (Cut.length (by exact ok47)) mR (Cut.length (by exact Cut.zero_ok)) uU ?_;refine G3 ?_;refine G2 ?_;refine A0 (out := (out47 ++ [])) (Be J J J Y28.h J Sz28 mR (by exact Cut.length (by exact ok47))) (Ah sG Al) ?_;have h0 : ¬ x.pl.heads.length = 0 := fun e => hc3 (by have h9 := nxt_some hks1 e; omega);rw [PD.nxt0, if_neg h0];exact ⟨({ Cut.zero with fHeight := Cut.zero.fHeight + 1, fHeads := s47 } : Cut), ok47, rfl, fun W2 hl => ⟨ok47, rfl, rfl, hrw W2 (by simpa using hl)⟩⟩
theorem cut_none_nil  : Meets Tryz.prog 77 [.pointer none] [] (fun _ => True) (fun v out => v = .bool true ∧ out = []) := by
 intro W hW;refine Ac Tryz.func77 J 12 Tryz.ntmps77 J (G8 ?_);refine .cV J J J J Body79 (dag_Closure_nil Sl.nil) tV (G14 ?_);refine G2 ?_;refine ⟨_, [], Ai J J, sP, sP, ?_, rfl⟩;rfl

theorem cut_next_nil (s : Sl) : Meets Tryz.prog 17 [.pointer none, s.v] [] (fun _ => True) (fun v out => v = .tuple #[agg Cut.zero.cells, i64 1] ∧ out = []) := by
 intro W hW;refine Ac Tryz.func17 J 67 Tryz.ntmps17 J (G2 ?_);refine .alloc (cs := Cut.zero.cells) J Cut.zr J ?_;intro n4 hn4 hf4;refine G7 ?_;refine .cV J J J J Body77 (cut_none_nil) tV (G2 ?_);refine .cond_t J J (G2 ?_);refine .build (cs := Cut.zero.cells) J J J (fun w => by kernel_rfl) ?_;refine G4 ?_;refine G3 ?_;refine ⟨_, [], Be J J J Y28.h J Sz28 Z0 (by exact Cut.length (by exact Cut.zero_ok)), sP, sP, ?_, rfl⟩;rfl

theorem cut_extends_nil (s : Sl) (C : Cut) (hC : C.ok) : Meets Tryz.prog 18 [.pointer none, s.v, agg C.cells] [] (fun _ => True) (fun v out => v = i64 1 ∧ out = []) := by
 intro W hW;refine Ac Tryz.func18 J 91 Tryz.ntmps18 J (G3 ?_);intro n5 hn5 hf5;refine G7 ?_;refine .cV J J J J Body77 (cut_none_nil) tV (G2 ?_);refine .cond_t J J (G5 ?_);refine G3 ?_;refine ⟨_, [], Ai J J, sP, sP, ?_, rfl⟩;rfl

theorem cut_chain_nil (s : Sl) : Meets Tryz.prog 20 [.pointer none, s.v] [] (fun _ => True) (fun v out => v = i64 1 ∧ out = []) := by
 intro W hW;refine Ac Tryz.func20 J 27 Tryz.ntmps20 J (G9 ?_);refine .cV J J J J Body77 (cut_none_nil) tV (G2 ?_);refine .cond_t J J (G5 ?_);refine G3 ?_;refine ⟨_, [], Ai J J, sP, sP, ?_, rfl⟩;rfl

end Go.Proofs.YtdilealohibfoaaGreat
end

section
namespace Go.Proofs.YtdilealohibfoaaGreat
open Go Hw Ed
theorem cons_of8 {α : Type} {l : List α} {n : Nat} (h : l.length = n + 1) : ∃ a t, l = a :: t ∧ t.length = n := by
  cases l with
  | nil => cases h
  | cons a t => exact ⟨a, t, rfl, by simpa using h⟩
def forceA {α : Type} (s : Nat) (f : Nat → α) : α := Nat.casesOn (motive := fun _ => α) s (f 0) (fun m => f (m + 1))
theorem forceA_eq {α : Type} (s : Nat) (f : Nat → α) : forceA s f = f s := by cases s <;> rfl
def aN (a b : Nat) : Nat := Nat.mod (Nat.add a b) 18446744073709551616
def shN (x s : Nat) : Nat := Nat.mod (Nat.mul x (Nat.pow 2 s)) 18446744073709551616
def rolN (x s : Nat) : Nat := Nat.lor (shN x s) (Nat.div x (Nat.pow 2 (Nat.sub 64 s)))
def o8N (x : Nat) (b : UInt8) : Nat := Nat.lor (shN x 8) b.toNat
def sg0N (x : Nat) : Nat := Nat.xor (Nat.xor (rolN x 63) (rolN x 56)) (Nat.div x (Nat.pow 2 7))
def sg1N (x : Nat) : Nat := Nat.xor (Nat.xor (rolN x 45) (rolN x 3)) (Nat.div x (Nat.pow 2 6))
def t1N (e f g h k w : Nat) : Nat := aN (aN (aN (aN h (Nat.xor (Nat.xor (rolN e 50) (rolN e 46)) (rolN e 23))) (Nat.xor (Nat.land e f) (Nat.land (Nat.xor 18446744073709551615 e) g))) k) w
def t2N (a b c : Nat) : Nat := aN (Nat.xor (Nat.xor (rolN a 36) (rolN a 30)) (rolN a 25)) (Nat.xor (Nat.xor (Nat.land a b) (Nat.land a c)) (Nat.land b c))
def wgo : List UInt8 → List Nat → List Nat
  | a :: b :: c :: d :: e :: f :: g :: h :: t, r => forceA (o8N (o8N (o8N (o8N (o8N (o8N (o8N (o8N 0 a) b) c) d) e) f) g) h) fun v => wgo t (v :: r)
  | _, r => r
def nxN (r : List Nat) : Nat := aN (aN (aN (r.getD 15 0) (sg0N (r.getD 14 0))) (r.getD 6 0)) (sg1N (r.getD 1 0))
def sgo : Nat → List Nat → List Nat
  | 0, r => r
  | n + 1, r => forceA (nxN r) fun v => sgo n (v :: r)
def rgo : List Nat → List Nat → Nat → Nat → Nat → Nat → Nat → Nat → Nat → Nat → List Nat
  | k :: ks, w :: ws, a, b, c, d, e, f, g, h => forceA (t1N e f g h k w) fun t => forceA (aN t (t2N a b c)) fun a2 => forceA (aN d t) fun e2 => rgo ks ws a2 a b c e2 e f g
  | _, _, a, b, c, d, e, f, g, h => [a, b, c, d, e, f, g, h]
def adN : List Nat → List Nat → List Nat
  | x :: xs, y :: ys => forceA (aN x y) fun z => z :: adN xs ys
  | _, _ => []
def rgoL (ks ws : List Nat) : List Nat → List Nat
  | [a, b, c, d, e, f, g, h] => rgo ks ws a b c d e f g h
  | _ => []
def pieceN (ks st : List Nat) (p : List UInt8) : List Nat := adN st (rgoL ks (sgo 64 (wgo p [])).reverse st)
def runN (ks st : List Nat) (bs : List UInt8) : Nat → List Nat
  | 0 => st
  | i + 1 => pieceN ks (runN ks st bs i) ((bs.drop (128 * i)).take 128)
def padT (n : Nat) : List UInt8 := 128 :: (List.replicate (padZ n) 0 ++ (beUp 0 8 ++ beUp (UInt64.ofNat (8 * n)) 8))
def allN (ks st : List Nat) (l : List UInt8) : List Nat := forceA l.length fun n => runN ks st (l ++ padT n) ((n + 17 + padZ n) / 128)
theorem padT_eq (l : List UInt8) : padB l = l ++ padT l.length := by simp [padB, padT]
theorem sh_hom (x : UInt64) (s : Nat) : (Ay x s).toNat = shN x.toNat s := by rw [Ay, UInt64.toNat_ofNat']; rfl
theorem sr_hom (x : UInt64) (s : Nat) : (Ap x s).toNat = Nat.div x.toNat (Nat.pow 2 s) := by
  have h : x.toNat / 2 ^ s < 18446744073709551616 := Nat.lt_of_le_of_lt (Nat.div_le_self _ _) x.toNat_lt;rw [Ap, UInt64.toNat_ofNat'];exact Nat.mod_eq_of_lt h
theorem add_hom (x y : UInt64) : (x + y).toNat = aN x.toNat y.toNat := UInt64.toNat_add x y
theorem or_hom (x y : UInt64) : (x ||| y).toNat = Nat.lor x.toNat y.toNat := UInt64.toNat_or x y
theorem xor_hom (x y : UInt64) : (x ^^^ y).toNat = Nat.xor x.toNat y.toNat := UInt64.toNat_xor x y
theorem and_hom (x y : UInt64) : (x &&& y).toNat = Nat.land x.toNat y.toNat := UInt64.toNat_and x y
theorem rol_hom (x : UInt64) (s : Nat) : (rolW x s).toNat = rolN x.toNat s := by rw [rolW, or_hom, sh_hom, sr_hom]; rfl
theorem sg0_hom (x : UInt64) : (sig0 x).toNat = sg0N x.toNat := by simp only [sig0, xor_hom, rol_hom, sr_hom]; rfl
theorem sg1_hom (x : UInt64) : (sig1 x).toNat = sg1N x.toNat := by simp only [sig1, xor_hom, rol_hom, sr_hom]; rfl
theorem t1_hom (s : W8) (k w : UInt64) : (rndT1 s k w).toNat = t1N s.e.toNat s.f.toNat s.g.toNat s.h.toNat k.toNat w.toNat := by
  simp only [rndT1, add_hom, xor_hom, and_hom, rol_hom]; rfl
theorem t2_hom (s : W8) : (rndT2 s).toNat = t2N s.a.toNat s.b.toNat s.c.toNat := by
  simp only [rndT2, add_hom, xor_hom, and_hom, rol_hom]; rfl
theorem o8_hom (x : UInt64) (b : UInt8) : (Ay x 8 ||| b.toUInt64).toNat = o8N x.toNat b := by
  rw [or_hom, sh_hom, UInt8.toNat_toUInt64]; rfl
def wU : List UInt8 → List UInt64
  | a :: b :: c :: d :: e :: f :: g :: h :: t => (Ay (Ay (Ay (Ay (Ay (Ay (Ay (Ay 0 8 ||| a.toUInt64) 8 ||| b.toUInt64) 8 ||| c.toUInt64) 8 ||| d.toUInt64) 8 ||| e.toUInt64) 8 ||| f.toUInt64) 8 ||| g.toUInt64) 8 ||| h.toUInt64) :: wU t
  | _ => []
theorem wgo_eq : ∀ (n : Nat) (p : List UInt8) (r : List Nat), p.length = 8 * n → wgo p r = ((wU p).map UInt64.toNat).reverse ++ r
  | 0, p, r, h => by
    obtain rfl := List.eq_nil_of_length_eq_zero h; rfl
  | n + 1, p, r, h => by
    have h : p.length = 8 * n + 7 + 1 := h
    iterate 8 (obtain ⟨a, l, e, h2⟩ := cons_of8 h; clear h; subst e; have h := h2; clear h2)
    rw [wgo, forceA_eq, wgo_eq n _ _ h, wU, List.map_cons, List.reverse_cons, List.append_assoc];simp only [o8_hom];rfl
theorem schA_words (p : List UInt8) (h : p.length = 128) : schA p 128 = wU p ++ List.replicate 64 0 := by
  iterate 128 (obtain ⟨a, l, e, h2⟩ := cons_of8 h; clear h; subst e; have h := h2; clear h2)
  obtain rfl := List.eq_nil_of_length_eq_zero h;clear h;refine Eq.trans ?_ rfl; kernel_rfl
theorem wU_length : ∀ (n : Nat) (p : List UInt8), p.length = 8 * n → (wU p).length = n
  | 0, p, h => by
    obtain rfl := List.eq_nil_of_length_eq_zero h; rfl
  | n + 1, p, h => by
    have h : p.length = 8 * n + 7 + 1 := h
    iterate 8 (obtain ⟨a, l, e, h2⟩ := cons_of8 h; clear h; subst e; have h := h2; clear h2)
    rw [wU, List.length_cons, wU_length n _ h]
def SJ (w : List UInt64) (j : Nat) : List Nat := (((schB w j).take (16 + j)).map UInt64.toNat).reverse
theorem take_set {α : Type} {l : List α} {n : Nat} (h : n < l.length) (v : α) : (l.set n v).take (n + 1) = l.take n ++ [v] := by
  have hl : (l.take n).length = n := by rw [List.length_take]; omega
  rw [List.set_eq_take_append_cons_drop, if_pos h, List.take_append, hl, List.take_of_length_le oM, show n + 1 - n = 1 by omega];rfl
theorem SJ_get {w : List UInt64} (hw : w.length = 80) {j i : Nat} (hj : j ≤ 64) (hi : i < 16 + j) : (SJ w j).getD i 0 = ((schB w j).getD (15 + j - i) 0).toNat := by
  have hl : ((schB w j).take (16 + j)).length = 16 + j := by rw [List.length_take, schB_length, hw]; omega
  have h1 : 15 + j - i < (schB w j).length := by rw [schB_length, hw]; omega
  rw [SJ, List.getD_eq_getElem?_getD, List.getElem?_reverse (by rw [List.length_map, hl]; exact hi), List.length_map, hl, List.getElem?_map, List.getElem?_take_of_lt oM, show 16 + j - 1 - i = 15 + j - i by omega, List.getD_eq_getElem?_getD, List.getElem?_eq_getElem h1];rfl
theorem SJ_succ {w : List UInt64} (hw : w.length = 80) {j : Nat} (hj : j < 64) : SJ w (j + 1) = nxN (SJ w j) :: SJ w j := by
  have h1 : SJ w (j + 1) = ((schB w j).getD j 0 + sig0 ((schB w j).getD (j + 1) 0) + (schB w j).getD (j + 9) 0 + sig1 ((schB w j).getD (j + 14) 0)).toNat :: SJ w j := by
    rw [SJ, schB, show 16 + (j + 1) = (16 + j) + 1 by omega, take_set (by rw [schB_length, hw]; omega), List.map_append, List.reverse_append];rfl
  rw [h1, nxN, SJ_get hw oM oM, SJ_get hw oM oM, SJ_get hw oM oM, SJ_get hw oM oM, show 15 + j - 15 = j by omega, show 15 + j - 14 = j + 1 by omega, show 15 + j - 6 = j + 9 by omega, show 15 + j - 1 = j + 14 by omega];simp only [add_hom, sg0_hom, sg1_hom]
theorem sgo_run {w : List UInt64} (hw : w.length = 80) : ∀ n j, j + n ≤ 64 → sgo n (SJ w j) = SJ w (j + n)
  | 0, j, _ => rfl
  | n + 1, j, h => by
    rw [sgo, forceA_eq, ← SJ_succ hw oM, sgo_run hw n (j + 1) oM, show j + 1 + n = j + (n + 1) by omega]
theorem sch_N {p : List UInt8} (h : p.length = 128) : (sgo 64 (wgo p [])).reverse = (schW p).map UInt64.toNat := by
  have hw : (schA p 128).length = 80 := schA_length p 128;have e : wgo p [] = SJ (schA p 128) 0 := by
    rw [wgo_eq 16 p [] h, SJ, List.append_nil, schB, schA_words p h, List.take_append_of_le_length (by rw [wU_length 16 p h]; omega), List.take_of_length_le (by rw [wU_length 16 p h]; omega)]
  rw [e, sgo_run hw 64 0 oM, SJ, List.reverse_reverse, schW, List.take_of_length_le (by rw [schB_length, hw]; omega)]
def rndF (ks ws : List UInt64) (s : W8) : W8 := (ks.zip ws).foldl (fun s p => rnd1 s p.1 p.2) s
theorem rnds_F {k w : List UInt64} (s : W8) (hk : k.length = 80) (hw : w.length = 80) : ∀ t, t ≤ 80 → rnds k w s t = rndF (k.take t) (w.take t) s
  | 0, _ => by simp [rnds, rndF]
  | t + 1, h => by
    have e : rndF (k.take (t + 1)) (w.take (t + 1)) s = rnd1 (rndF (k.take t) (w.take t) s) (k[t]'oM) (w[t]'oM) := by
      rw [List.take_succ_eq_append_getElem oM, List.take_succ_eq_append_getElem oM, rndF, List.zip_append (by rw [List.length_take, List.length_take, hk, hw]), List.foldl_append];rfl
    rw [rnds, rnds_F s hk hw t oM, e, List.getD_eq_getElem?_getD, List.getD_eq_getElem?_getD, List.getElem?_eq_getElem oM, List.getElem?_eq_getElem oM];rfl
theorem rgo_eq : ∀ (ks ws : List UInt64) (s : W8), rgo (ks.map UInt64.toNat) (ws.map UInt64.toNat) s.a.toNat s.b.toNat s.c.toNat s.d.toNat s.e.toNat s.f.toNat s.g.toNat s.h.toNat = (rndF ks ws s).l.map UInt64.toNat
  | [], ws, s => by simp only [rndF, List.zip_nil_left, List.foldl_nil, List.map_nil, rgo, W8.l, List.map_cons]
  | _ :: _, [], s => by simp only [rndF, List.zip_nil_right, List.foldl_nil, List.map_nil, List.map_cons, rgo, W8.l]
  | k :: ks, w :: ws, s => by
    have e : rndF (k :: ks) (w :: ws) s = rndF ks ws (rnd1 s k w) := by simp only [rndF, List.zip_cons_cons, List.foldl_cons]
    rw [List.map_cons, List.map_cons, rgo, forceA_eq, forceA_eq, forceA_eq, e, ← rgo_eq ks ws];simp only [rnd1, add_hom, t1_hom, t2_hom]
theorem add8 {st xs : List UInt64} (h1 : st.length = 8) (h2 : xs.length = 8) : (addUp st xs 8).map UInt64.toNat = adN (st.map UInt64.toNat) (xs.map UInt64.toNat) := by
  iterate 8 (obtain ⟨a, l, e, h3⟩ := cons_of8 h1; clear h1; subst e; have h1 := h3; clear h3)
  obtain rfl := List.eq_nil_of_length_eq_zero h1
  iterate 8 (obtain ⟨a, l, e, h3⟩ := cons_of8 h2; clear h2; subst e; have h2 := h3; clear h3)
  obtain rfl := List.eq_nil_of_length_eq_zero h2;simp only [List.map_cons, List.map_nil, adN, forceA_eq, ← add_hom];rfl
theorem piece_N {k st : List UInt64} {p : List UInt8} (hk : k.length = 80) (hs : st.length = 8) (hp : p.length = 128) : (pieceW k st p).map UInt64.toNat = pieceN (k.map UInt64.toNat) (st.map UInt64.toNat) p := by
  have hw : (schW p).length = 80 := by rw [schW, schB_length, schA_length]
  have e : rgoL (k.map UInt64.toNat) ((schW p).map UInt64.toNat) (st.map UInt64.toNat) = (rnds k (schW p) (W8.of st) 80).l.map UInt64.toNat := by
    rw [rnds_F _ hk hw 80 oM, List.take_of_length_le oM, List.take_of_length_le oM, ← rgo_eq]
    iterate 8 (obtain ⟨a, l, e, h3⟩ := cons_of8 hs; clear hs; subst e; have hs := h3; clear h3)
    obtain rfl := List.eq_nil_of_length_eq_zero hs;rfl
  rw [pieceW, add8 hs rfl, pieceN, sch_N hp, e]

theorem run_N {k st : List UInt64} {bs : List UInt8} (hk : k.length = 80) (hs : st.length = 8) : ∀ i, 128 * i ≤ bs.length → (runW k st bs i).map UInt64.toNat = runN (k.map UInt64.toNat) (st.map UInt64.toNat) bs i
  | 0, _ => rfl
  | i + 1, h => by
    rw [runW, runN, piece_N hk (by rw [runW_length]; exact hs) (by rw [List.length_take, List.length_drop]; omega), run_N hk hs i oM]


theorem all_N {k st : List UInt64} (l : List UInt8) (hk : k.length = 80) (hs : st.length = 8) : (allW k st l).map UInt64.toNat = allN (k.map UInt64.toNat) (st.map UInt64.toNat) l := by
  rw [allW, run_N hk hs _ (by have := padB_mod l; omega), allN, forceA_eq, padT_eq, ← padB_length, padT_eq]
def kN : List Nat := [4794697086780616226, 8158064640168781261, 13096744586834688815, 16840607885511220156, 4131703408338449720, 6480981068601479193, 10538285296894168987, 12329834152419229976, 15566598209576043074, 1334009975649890238, 2608012711638119052, 6128411473006802146, 8268148722764581231, 9286055187155687089, 11230858885718282805, 13951009754708518548, 16472876342353939154, 17275323862435702243, 1135362057144423861, 2597628984639134821, 3308224258029322869, 5365058923640841347, 6679025012923562964, 8573033837759648693, 10970295158949994411, 12119686244451234320, 12683024718118986047, 13788192230050041572, 14330467153632333762, 15395433587784984357, 489312712824947311, 1452737877330783856, 2861767655752347644, 3322285676063803686, 5560940570517711597, 5996557281743188959, 7280758554555802590, 8532644243296465576, 9350256976987008742, 10552545826968843579, 11727347734174303076, 12113106623233404929, 14000437183269869457, 14369950271660146224, 15101387698204529176, 15463397548674623760, 17586052441742319658, 1182934255886127544, 1847814050463011016, 2177327727835720531, 2830643537854262169, 3796741975233480872, 4115178125766777443, 5681478168544905931, 6601373596472566643, 7507060721942968483, 8399075790359081724, 8693463985226723168, 9568029438360202098, 10144078919501101548, 10430055236837252648, 11840083180663258601, 13761210420658862357, 14299343276471374635, 14566680578165727644, 15097957966210449927, 16922976911328602910, 17689382322260857208, 500013540394364858, 748580250866718886, 1242879168328830382, 1977374033974150939, 2944078676154940804, 3659926193048069267, 4368137639120453308, 4836135668995329356, 5532061633213252278, 6448918945643986474, 6902733635092675308, 7801388544844847127]
def stN : List Nat := [7640891576956012808, 13503953896175478587, 4354685564936845355, 11912009170470909681, 5840696475078001361, 11170449401992604703, 2270897969802886507, 6620516959819538809]
def siN : List Nat := [2463787394917988140, 11481187982095705282, 2563595384472711505, 10824532655140301501, 10819967247969091555, 13717434660681038226, 3098927326965381290, 1060366662362279074]
theorem kN_eq : kW.map UInt64.toNat = kN := by kernel_rfl
theorem stN_eq : startW.map UInt64.toNat = stN := by kernel_rfl
theorem of_to (l : List UInt64) : (l.map UInt64.toNat).map UInt64.ofNat = l := by
  rw [List.map_map];exact (List.map_congr_left fun x _ => UInt64.ofNat_toNat).trans (List.map_id l)
theorem sha512_N (l : List UInt8) : sha512 l = sumUp ((allN kN stN l).map UInt64.ofNat) 64 := by
  rw [← kN_eq, ← stN_eq, ← all_N l rfl rfl, of_to]; rfl
theorem siN_eq : shaI.map UInt64.toNat = siN := by kernel_rfl
theorem sha256_N (l : List UInt8) : sha256 l = (sumUp ((allN kN siN l).map UInt64.ofNat) 64).take 32 := by
  rw [← kN_eq, ← siN_eq, ← all_N l rfl shaI_length, of_to]; rfl

end Go.Proofs.YtdilealohibfoaaGreat
end

section
namespace Go.Proofs.YtdilealohibfoaaGreat
open Go Hw

open Ed

def pbN (n : Nat) : List UInt8 := forceA (fastN n) fun s => forceA (pwm PF 256 (uz s % PF) (PF - 2)) fun i => pb ⟨fe (ux s * i % PF), fe (uy s * i % PF)⟩
theorem pbN_eq {n : Nat} (h : n < 2 ^ 256) : pb (cv.mul n bP) = pbN n := by
  rw [fast_at h rfl rfl, pbN, forceA_eq, forceA_eq, affX, affY, force_eq, force_eq]
def h512 (l : List UInt8) : List UInt8 := sumUp ((allN kN stN l).map UInt64.ofNat) 64
def h256 (l : List UInt8) : List UInt8 := (sumUp ((allN kN siN l).map UInt64.ofNat) 64).take 32
def blkD (K : List UInt8) (D0 : DB) (e S : Nat) : DB := bsg D0 K (leb 32 e ++ leb 32 S)
def blkOk (H K : List UInt8) (n : Nat) (D0 : DB) (r e S N : Nat) : Bool :=
  Nat.beq (le (h512 (H.drop 32 ++ btxt { D0 with w := K })) % L) r && (Nat.beq (le (pbN r)) e && (Nat.beq ((le (h512 (leb 32 e ++ (K ++ btxt { D0 with w := K }))) % L * n + r) % L) S
    && (Nat.beq (le (h256 (blkD K D0 e S).bytes)) N && (decide (D0.check = 0) && decide ((blkD K D0 e S).check = 0)))))
theorem le_32 {l : List UInt8} {x : Nat} (h : l.length = 32) (e : le l = x) : l = leb 32 x := by rw [← e, ← h, leb_le]
def BlkF (seed K : List UInt8) (D0 : DB) (e S N : Nat) : Prop := (blkD K D0 e S).ok ∧ Bh (blkD K D0 e S) = leb 32 N ∧ dgood (blkD K D0 e S) = 0 ∧ ∀ B : Block, B.ok → Meets Tryz.prog 150 [agg (Aa seed), agg B.cells] [] (fun W => BlockIs W B D0) (BlkR 0 (blkD K D0 e S))
theorem blk_facts {seed H K : List UInt8} {n : Nat} (h32 : seed.length = 32) (hH : sha512 seed = H) (hn : le (clampB (H.take 32)) = n) (hK : sgK H = K) {D0 : DB} {r e S N : Nat} (hl : D0.ls.length ≤ 40) (hd : D0.ds.length ≤ 2000) (hD0 : D0.ok) (h : blkOk H K n D0 r e S N = true) : BlkF seed K D0 e S N := by
  unfold blkOk at h;simp only [Bool.and_eq_true, decide_eq_true_eq] at h;obtain ⟨h1, h2, h3, h4, h5, h6⟩ := h;rw [h512, ← sha512_N] at h1 h3;rw [h256, ← sha256_N] at h4;have h1 := Nat.eq_of_beq_eq_true h1;have h2 := Nat.eq_of_beq_eq_true h2;have h3 := Nat.eq_of_beq_eq_true h3;have h4 := Nat.eq_of_beq_eq_true h4;have hr : r < 2 ^ 256 := by rw [← h1]; exact lm _
  have hKl : K.length = 32 := by rw [← hK]; exact sgK_length H
  obtain ⟨T, hT⟩ : ∃ T, T = btxt { D0 with w := K } := ⟨_, rfl⟩;rw [← hT] at h1 h3;obtain ⟨s1, hs1⟩ : ∃ s1, sha512 (H.drop 32 ++ T) = s1 := ⟨_, rfl⟩;rw [hs1] at h1;have e1 : le (sgR s1) = r := by rw [sgR, le_leb32 (lm _), h1]
  have e2 : sgF s1 = leb 32 e := by
    rw [sgF, e1, pbN_eq hr];refine le_32 ?_ h2;rw [← pbN_eq hr]; exact Ca _
  obtain ⟨s2, hs2⟩ : ∃ s2, sha512 (leb 32 e ++ (K ++ T)) = s2 := ⟨_, rfl⟩;rw [hs2] at h3;have e3 : sgS H s1 s2 = leb 32 S := by rw [sgS, e1, hn, sgR, le_leb32 (lm _), h3]
  have g := good_self H s1 T (s2 := s2) (by rw [e2, hK]; exact hs2);rw [hK, e2, e3] at g;refine ⟨⟨hKl, hD0.prev, by show (leb 32 e ++ leb 32 S).length = 64; rw [List.length_append, Ag, Ag], hD0.ls⟩, ?_, ?_, fun B hB => ?_⟩
  · unfold Bh
    rw [if_pos h6];exact le_32 (sha256_length _) h4
  · unfold dgood
    rw [if_pos h6];refine if_pos ?_;have e4 : btxt (blkD K D0 e S) = T := hT.symm;rw [e4]; exact g
  · have c := r15_Sign B D0 hB hl hd seed h32 H s1 s2 ⟨hH⟩ ⟨by rw [hK, ← hT]; exact hs1⟩ ⟨by rw [hK, ← hT, e2]; exact hs2⟩ h5
    rw [hK, e2, e3] at c;exact c

end Go.Proofs.YtdilealohibfoaaGreat
end

section
namespace Go.Proofs.YtdilealohibfoaaGreat
open Go Hw Ed
def s1B : List UInt8 := [1, 0, 0, 0, 0, 0, 0, 0, 0, 0, 0, 0, 0, 0, 0, 0, 0, 0, 0, 0, 0, 0, 0, 0, 0, 0, 0, 0, 0, 0, 0, 77]
def s1H : List UInt8 := [87, 159, 104, 236, 80, 14, 38, 174, 240, 0, 164, 75, 108, 245, 33, 87, 115, 113, 131, 28, 237, 105, 185, 222, 57, 145, 233, 242, 112, 190, 170, 213, 35, 11, 137, 144, 70, 23, 17, 214, 148, 220, 86, 67, 25, 124, 131, 91, 42, 247, 30, 195, 63, 213, 16, 142, 181, 57, 199, 82, 96, 7, 203, 83]
def s1K : List UInt8 := [96, 107, 246, 169, 182, 86, 212, 252, 106, 138, 137, 108, 60, 10, 195, 142, 100, 120, 65, 80, 61, 64, 193, 87, 241, 248, 221, 83, 126, 228, 255, 164]
theorem s1_h : sha512 s1B = s1H := by rw [sha512_N]; kernel_rfl
theorem s1_n : le (clampB ((s1H).take 32)) = 38748270507491543869280182973643753799655646515636239770492563660028217171792 := by kernel_rfl
theorem s1_k : sgK s1H = s1K := by
  rw [sgK, s1_n, pbN_eq dE];kernel_rfl
def s2B : List UInt8 := [2, 0, 0, 0, 0, 0, 0, 0, 0, 0, 0, 0, 0, 0, 0, 0, 0, 0, 0, 0, 0, 0, 0, 0, 0, 0, 0, 0, 0, 0, 0, 77]
def s2H : List UInt8 := [159, 230, 160, 217, 19, 92, 134, 97, 221, 29, 151, 92, 173, 55, 201, 96, 247, 140, 202, 26, 171, 176, 42, 66, 5, 66, 179, 216, 185, 188, 163, 0, 78, 178, 17, 189, 220, 26, 113, 236, 223, 171, 6, 169, 230, 174, 14, 221, 86, 213, 3, 69, 84, 255, 54, 249, 11, 147, 29, 173, 100, 208, 56, 60]
def s2K : List UInt8 := [135, 111, 12, 209, 122, 16, 16, 190, 105, 170, 2, 71, 173, 200, 90, 26, 237, 46, 45, 107, 189, 50, 216, 58, 186, 203, 54, 244, 172, 156, 8, 66]
theorem s2_h : sha512 s2B = s2H := by rw [sha512_N]; kernel_rfl
theorem s2_n : le (clampB ((s2H).take 32)) = 29237320919612452970742533751157944247979243399322251012381788756161947821720 := by kernel_rfl
theorem s2_k : sgK s2H = s2K := by
  rw [sgK, s2_n, pbN_eq dE];kernel_rfl
def mA0 : DB := DB.zero
def mAR : Nat × Nat × Nat × Nat := (565907765622320541399421425701583650488762096448569470237382742425803974514, 100601403375759064195258946539497424308391876113719775996124634348183556250024, 3579687427427459069974335426959508808461923918647704402293925102387200652691, 97113733480288696092322898458545537851336488749795256506728843684697484984565)
def mAN : List UInt8 := leb 32 mAR.2.2.2
def mAD : DB := blkD s1K mA0 mAR.2.1 mAR.2.2.1
theorem mA_ok : blkOk s1H s1K 38748270507491543869280182973643753799655646515636239770492563660028217171792 mA0 mAR.1 mAR.2.1 mAR.2.2.1 mAR.2.2.2 = true := by kernel_rfl
theorem mA_len : mAN.length = 32 := Ag 32 _
theorem mA_f : BlkF s1B s1K mA0 mAR.2.1 mAR.2.2.1 mAR.2.2.2 := blk_facts (H := s1H) rfl s1_h s1_n s1_k dE dE ⟨rfl, by rfl, rfl, fun l hl => (by first | (cases hl; done) | (rw [List.mem_singleton.1 hl]; rfl))⟩ mA_ok
def mB0 : DB := { DB.zero with seq := 1, prev := mAN }
def mBR : Nat × Nat × Nat × Nat := (1042854690461855033549293643297295419211154182590953024946931292553013138148, 65806961080161634906959505977140487317327363723346420782109779725411984570611, 7208915343660222524937526513360399956949480183635538504188365353118992172452, 46058863218359618658494336369744020781322587224099048705861084924914012010741)
def mBN : List UInt8 := leb 32 mBR.2.2.2
def mBD : DB := blkD s1K mB0 mBR.2.1 mBR.2.2.1
theorem mB_ok : blkOk s1H s1K 38748270507491543869280182973643753799655646515636239770492563660028217171792 mB0 mBR.1 mBR.2.1 mBR.2.2.1 mBR.2.2.2 = true := by kernel_rfl
theorem mB_len : mBN.length = 32 := Ag 32 _
theorem mB_f : BlkF s1B s1K mB0 mBR.2.1 mBR.2.2.1 mBR.2.2.2 := blk_facts (H := s1H) rfl s1_h s1_n s1_k dE dE ⟨rfl, by rfl, rfl, fun l hl => (by first | (cases hl; done) | (rw [List.mem_singleton.1 hl]; rfl))⟩ mB_ok
def mL0 : DB := { DB.zero with ls := [mAN] }
def mLR : Nat × Nat × Nat × Nat := (7069382373975793937875983969631401300928334206707799924608693727060737855406, 89380441118362541782232043895724461995795574022816857334645768520515379073692, 1378832678657371214062331319605579238817782231700001298769674763842384625692, 60935820018387094301093397927544635555409945960002560190348470472531323507425)
def mLN : List UInt8 := leb 32 mLR.2.2.2
def mLD : DB := blkD s2K mL0 mLR.2.1 mLR.2.2.1
theorem mL_ok : blkOk s2H s2K 29237320919612452970742533751157944247979243399322251012381788756161947821720 mL0 mLR.1 mLR.2.1 mLR.2.2.1 mLR.2.2.2 = true := by kernel_rfl
theorem mL_len : mLN.length = 32 := Ag 32 _
theorem mL_f : BlkF s2B s2K mL0 mLR.2.1 mLR.2.2.1 mLR.2.2.2 := blk_facts (H := s2H) rfl s2_h s2_n s2_k dE dE ⟨rfl, by rfl, rfl, fun l hl => (by first | (cases hl; done) | (rw [List.mem_singleton.1 hl]; rfl))⟩ mL_ok
end Go.Proofs.YtdilealohibfoaaGreat
end

section
namespace Go.Proofs.YtdilealohibfoaaGreat
open Go Hw

open Ed

theorem s1B_length : s1B.length = 32 := rfl
theorem s2B_length : s2B.length = 32 := rfl

theorem kitS1  : Meets Tryz.prog 151 [i64 1] [] (fun _ => True) (fun v out => v = agg (Aa s1B) ∧ out = []) := by
 intro W hW;refine Ac Tryz.func151 J 9 Tryz.ntmps151 J (G2 ?_);refine .alloc (cs := (Aa (List.replicate 32 0))) J Zr24 J ?_;intro n2 hn2 hf2;refine G5 ?_;refine .conv J J J Y3.h Y5.h (show Value.int .u8 (IntKind.u8.wrap 1) = u8 1 from rfl) (G1 ?_)
 refine .shrN 1 8 J J J J J dE (.conv J J J Y3.h Y5.h (show Value.int .u8 (IntKind.u8.wrap ((1 / 2 ^ 8 : Nat) : Int)) = u8 0 from rfl) (.build (cs := Aa s1B) J J J (fun w => by kernel_rfl) ?_));refine .sA J J J J zE Sz24 (by (simp [s1B_length]; done)) Z0 sP zU ?_;refine G2 ?_;refine G2 ?_;refine ⟨_, [], An J J Y24.h J Sz24 Z0 (by simp [s1B_length]), sP, sP, ?_, rfl⟩;rfl

theorem kitS2  : Meets Tryz.prog 151 [i64 2] [] (fun _ => True) (fun v out => v = agg (Aa s2B) ∧ out = []) := by
 intro W hW;refine Ac Tryz.func151 J 9 Tryz.ntmps151 J (G2 ?_);refine .alloc (cs := (Aa (List.replicate 32 0))) J Zr24 J ?_;intro n2 hn2 hf2;refine G5 ?_;refine .conv J J J Y3.h Y5.h (show Value.int .u8 (IntKind.u8.wrap 2) = u8 2 from rfl) (G1 ?_)
 refine .shrN 2 8 J J J J J dE (.conv J J J Y3.h Y5.h (show Value.int .u8 (IntKind.u8.wrap ((2 / 2 ^ 8 : Nat) : Int)) = u8 0 from rfl) (.build (cs := Aa s2B) J J J (fun w => by kernel_rfl) ?_));refine .sA J J J J zE Sz24 (by (simp [s2B_length]; done)) Z0 sP zU ?_;refine G2 ?_;refine G2 ?_;refine ⟨_, [], An J J Y24.h J Sz24 Z0 (by simp [s2B_length]), sP, sP, ?_, rfl⟩;rfl

def bl1 (q : Nat) : Block := { Block.zero with fLinks := ⟨some ⟨q, 0, none⟩, 1, 1⟩ }
theorem bl1_ok (q : Nat) : (bl1 q).ok := ⟨rfl, rfl, rfl⟩
theorem bl1_is {q : Nat} {w : World} {n : List UInt8} (hn : n.length = 32) (h : Sees w q 0 (Aa n)) : BlockIs w (bl1 q) { DB.zero with ls := [n] } := ⟨bl1_ok q, rfl, rfl, rfl, row_one hn h, (zero_is w).ds, rfl⟩
def ChainS (Da Db Dc : DB) (v : Value) (out : List Blk) : Prop := ∃ (q : Nat) (Ba Bb Bc : Block) (bl : List Blk), SameB Ba Da ∧ SameB Bb Db ∧ SameB Bc Dc ∧ v = .slice (some ⟨q, 0, none⟩) 3 3 ∧ out = ⟨q, tri Ba Bb Bc, 48, (tri Ba Bb Bc).length⟩ :: bl ∧ ∀ W2, Lies bl W2 → BlockIs W2 Ba Da ∧ BlockIs W2 Bb Db ∧ BlockIs W2 Bc Dc
theorem tri_sees {w : World} {q : Nat} {a b c : Block} {T : TypeId} {m : Nat} (ha : a.ok) (hb : b.ok) (hc : c.ok) (h : BlkOk w ⟨q, tri a b c, T, m⟩) : Sees w q (0 + 0 * 131) a.cells ∧ Sees w q (0 + 1 * 131) b.cells ∧ Sees w q (0 + 2 * 131) c.cells := by
  have part : ∀ (o : Nat) (l : List Value), ((tri a b c).drop o).take 131 = l → Sees w q o l := fun o l e => sees_kok h fun j v hj => by
    rw [← e] at hj;have h1 := (List.getElem?_eq_some_iff.1 hj).1;rw [List.getElem?_take_of_lt (by rw [List.length_take] at h1; omega), List.getElem?_drop] at hj;exact hj
  exact ⟨part _ _ (tri_0 ha), part _ _ (tri_1 ha hb), part _ _ (tri_2 ha hb hc)⟩
theorem tri_blocks {w : World} {q : Nat} {a b c : Block} {T : TypeId} {m : Nat} {Da Db Dc : DB} (h : BlkOk w ⟨q, tri a b c, T, m⟩) (hi : BlockIs w a Da ∧ BlockIs w b Db ∧ BlockIs w c Dc) : BlocksAt w ⟨some ⟨q, 0, none⟩, 3, 3⟩ [Da, Db, Dc] := by
  obtain ⟨ha, hb, hc⟩ := hi;refine ⟨[a, b, c], rfl, rfl, fun i r d hr hd => ?_, fun r hr => ?_, Nat.le_refl 3, ?_, (by show 3 ≤ maxLen; decide), fun e => by cases e⟩
  · rcases i with _ | _ | _ | i
    · cases hr; cases hd; exact ha
    · cases hr; cases hd; exact hb
    · cases hr; cases hd; exact hc
    · cases hr
  · simp only [List.mem_cons, List.not_mem_nil, or_false] at hr
    rcases hr with rfl | rfl | rfl
    · exact Block.length ha.ok
    · exact Block.length hb.ok
    · exact Block.length hc.ok
  · refine SeesP.of (sees_kok h fun j v hj => ?_)
    rw [Nat.zero_add]; exact hj

theorem law19_signed (n : Int) (seed : List UInt8) (h32 : seed.length = 32) (B : Block) (hB : B.ok) (D D1 : DB) (hD1 : D1.ok) (cSeed : Meets Tryz.prog 151 [i64 n] [] (fun _ => True) (fun v out => v = agg (Aa seed) ∧ out = [])) (cS : ∀ B : Block, B.ok → Meets Tryz.prog 150 [agg (Aa seed), agg B.cells] [] (fun W => BlockIs W B D) (BlkR 0 D1)) : Meets Tryz.prog 84 [i64 n, agg B.cells] [] (fun W => BlockIs W B D) (BlkV D1) := by
 intro W hW;refine Ac Tryz.func84 J 15 Tryz.ntmps84 J (G3 ?_);intro n3 hn3 hf3;refine .alloc (cs := Block.zero.cells) J Block.zr J ?_;intro n4 hn4 hf4;refine G3 ?_;refine .draw (oP [0,102,301,303,4,5,6,207,408,9]) Ao zK (G1 ?_);refine .lA J J J Y48.h J Sz48 Z1 (Block.length (by exact hB)) ?_;refine .cV J J J J Body151 (cSeed) tV (.call J J J J Body150 (cS B hB) (BlkR.loose 0 D1 hD1) (fun w h => hW.ext h J) ?_);rintro v11 out11 ⟨B11, h11, rfl, ho11⟩;refine G3 ?_;refine .alloc (cs := Block.zero.cells) J Block.zr J ?_;intro n5 hn5 hf5;refine .sA J J J J (Block.isCell (by exact h11.ok)) Sz48 (Block.length (by exact h11.ok)) Z0 (Block.length (by exact Block.zero_ok)) zU ?_;refine G5 ?_;refine .lA J J J Y48.h J Sz48 Z0 (Block.length (by exact h11.ok)) ?_;refine .sA J J J J (Block.isCell (by exact h11.ok)) Sz48 (Block.length (by exact h11.ok)) mR (Block.length (by exact Block.zero_ok)) uU ?_;refine G2 ?_;refine G2 ?_;refine A0 (out := (out11 ++ [])) (An J J Y48.h J Sz48 mR (by exact Block.length (by exact h11.ok))) (Ah sG Al) ?_;exact ⟨B11, h11, rfl, by simpa using ho11⟩

theorem law19_filled (s : Sl) (ds : List DB) (hn : s.n ≤ 1000) (hsm : ∀ d ∈ ds, d.ls.length ≤ 500000 ∧ d.ds.length ≤ 500000) : Meets Tryz.prog 22 [s.v] [] (fun W => BlocksAt W s ds) (fun v out => ∃ (p : Nat) (x : DD), v = ptr p 0 ∧ out = x.blks p ∧ x.ok ∧ x.pl = fillP PD.new ds ∧ x.names.length + x.orp.length ≤ ds.length) := by
 intro W hW;obtain ⟨rs, hs⟩ := hW;have hnd := hs.nd;refine Ac Tryz.func22 J 20 Tryz.ntmps22 J (G7 ?_);refine .call4 J J J J J Body85 (dag_new2) tV ?_;rintro v5 out5 ⟨p, x0, rfl, rfl, hx0, hplx0, hnx0⟩;refine G10 ?_;refine .loop (ι := Nat × DD) (fun r => ⟨[(0, s.v), (3, ptr p 0), (4, i64 (r.1 : Int))], (r.2.blks p ++ [])⟩) (fun r => r.1 ≤ s.n ∧ r.2.ok ∧ r.2.pl = fillP PD.new (ds.take r.1) ∧ r.2.names.length + r.2.orp.length ≤ r.1) (fun r => s.n - r.1) ((0, x0)) ?_ ?_ ?_
 · exact ⟨Nat.zero_le _, hx0, hplx0, Nat.le_of_eq hnx0⟩
 · exact Aq (wk1 rfl (wk1 rfl (wk1 rfl wk0))) (Ah sG Al)
 rintro ⟨k, x⟩ ⟨hk, hx, hplx, hnx⟩;simp only at hk hx hplx hnx ⊢;refine G9 ?_;refine .condP J (fun hc0 => ?_) (fun hc0 => ?_)
 ·
  have hk2 : k < s.n := by omega
  obtain ⟨b, o, r, d, hsp, hr, hd, his, hlen, hsee⟩ := hs.at dE hk2;refine G8 ?_;refine .idxSlP 131 J J J hsp J Y38.h Sz48 k J oM (.loadEN r.cells J J J Y48.h J Sz48 sP hlen hsee (.call4 J J J J J Body47 (db_own r d (hsm d (List.mem_of_getElem? hd)).1 (hsm d (List.mem_of_getElem? hd)).2) (fun w h => his.ext h J) ?_));rintro v17 out17 ⟨B17, h17, rfl, hb17⟩;refine .callL (L := (x.blks p ++ out17)) J J J J J Body46 (dag_add x hx p B17 d out17 ⟨h17, hb17⟩ oM) (sg_two (by repeat (first | exact sg_here | apply sg_seg)) sG) (lent_ok J) (fun w h => Lent.of h (sg_two (by repeat (first | exact sg_here | apply sg_seg)) sG)) ?_;rintro v18 out18 ⟨x1, ⟨p18, n18, c18⟩, bl18, rfl, rfl, hx1, hac18, h3218, hplx1, hnx1⟩;simp only [List.append_assoc];refine G9 ?_;exact ⟨(k + 1, x1), ⟨by simp only; omega, hx1, by show x1.pl = _; rw [hplx1, hplx, take_snoc hd, fillP_snoc], by simp only; omega⟩, by simp only; omega, Aq (wk1 rfl (wk1 rfl (wk1 rfl wk0))) (Ah sG Al)⟩
 have hke : k = s.n := by omega
 refine G11 ?_;refine G2 ?_;refine A0 (out := (x.blks p ++ [])) (Ai J J) (Ah sG Al) ?_;refine ⟨p, x, rfl, by simp, hx, ?_, by omega⟩;rw [hke, List.take_of_length_le oM] at hplx;exact hplx
theorem law19_chain (Da Db Dc : DB) (na : List UInt8) (hDa : Da.ok) (hDb : Db.ok) (hDc : Dc.ok) (lna : na.length = 32) (hna : Bh Da = na) (cSa : ∀ B : Block, B.ok → Meets Tryz.prog 150 [agg (Aa s1B), agg B.cells] [] (fun W => BlockIs W B DB.zero) (BlkR 0 Da)) (cSb : ∀ B : Block, B.ok → Meets Tryz.prog 150 [agg (Aa s1B), agg B.cells] [] (fun W => BlockIs W B { DB.zero with seq := 1, prev := na }) (BlkR 0 Db)) (cSc : ∀ B : Block, B.ok → Meets Tryz.prog 150 [agg (Aa s2B), agg B.cells] [] (fun W => BlockIs W B { DB.zero with ls := [na] }) (BlkR 0 Dc)) : Meets Tryz.prog 21 [] [] (fun _ => True) (ChainS Da Db Dc) := by
 intro W hW;refine Ac Tryz.func21 J 16 Tryz.ntmps21 J (G7 ?_);refine .build (cs := Block.zero.cells) J J J (fun w => by kernel_rfl) ?_;refine .call4 J J J J J Body84 (law19_signed 1 s1B J Block.zero Block.zero_ok DB.zero Da hDa kitS1 cSa) (fun w h => zero_is w) ?_;rintro v4 out4 ⟨Ba, ha, rfl, hoa⟩;have cNa := r15_Name Ba Da ha.ok;rw [hna] at cNa;refine .alloc (cs := Block.zero.cells) J Block.zr J ?_;intro n1 hn1 hf1;refine .sA J J J J (Block.isCell (by exact ha.ok)) Sz48 (Block.length (by exact ha.ok)) Z0 (Block.length (by exact Block.zero_ok)) zU ?_;refine G4 ?_;refine .lA J J J Y48.h J Sz48 Z0 (Block.length (by exact ha.ok)) ?_;refine .cV J J J J Body23 (cNa) (fun w h => hoa w (Lies.of h (by repeat (first | exact Bg | refine Bm ?_)))) ?_;refine .alloc (cs := (Aa (List.replicate 32 0))) J Cr J ?_;intro n2 hn2 hf2;refine .sA J J J J zE Sz25 (by (simp [lna]; done)) Z0 sP zU ?_;refine G3 ?_;refine .drawZ (oP [100,101,2,104,303,205,6,307,208,9]) Ao zK (.lA J J J Y48.h J Sz48 Z1 (Block.length (by exact ha.ok)) ?_);refine .lA J J J Y25.h J Sz25 Z0 (by (simp [lna]; done)) ?_;refine .build (cs := ({ Block.zero with fSeq := 1, fPrev := na } : Block).cells) J J J (fun w => build_sp 1 na lna w) (.lA J J J Y25.h J Sz25 Z0 (by (simp [lna]; done)) ?_);refine .call J J J J Body84 (law19_signed 1 s1B J _ (sp_ok 1 lna) _ Db hDb kitS1 cSb) (BlkV.loose Db hDb) (fun w h => sp_is w 1 lna) ?_;rintro v10 out10 ⟨Bb, hb, rfl, hob⟩;refine .mkRow2 (z := agg (Aa (List.replicate 32 0))) [agg (Aa na)] (Aa na) J J Y26.h Sz25 Cr J J (by intro v hv; rw [List.mem_singleton.1 hv]; simp [Value.cells, Aa, lna]) dE (by simp [Value.cells, agg]) ?_;intro q12;refine .build (cs := (bl1 q12).cells) J J J (fun w => by kernel_rfl) ?_;refine .call J J J J Body84 (law19_signed 2 s2B J (bl1 q12) (bl1_ok q12) _ Dc hDc kitS2 cSc) (BlkV.loose Dc hDc) (fun w h => bl1_is lna (Ar h Z0)) ?_;rintro v14 out14 ⟨Bc, hc, rfl, hoc⟩;refine .mkRow2 (z := agg Block.zero.cells) [agg Ba.cells, agg Bb.cells, agg Bc.cells] (tri Ba Bb Bc) J J Y38.h Sz48 Block.zr J J (by intro v hv; simp only [List.mem_cons, List.not_mem_nil, or_false] at hv; rcases hv with rfl | rfl | rfl; exact Block.length ha.ok; exact Block.length hb.ok; exact Block.length hc.ok) dE (by simp [Value.cells, agg, tri]) ?_;intro q15;refine G3 ?_;refine G2 ?_;refine A0 (out := (⟨q15, tri Ba Bb Bc, 48, (tri Ba Bb Bc).length⟩ :: (out14 ++ (out10 ++ (out4 ++ []))))) (Ai J J) (Ab rM (Ah sG (Ah sG (Ah sG Al)))) ?_;exact ⟨q15, Ba, Bb, Bc, _, ha, hb, hc, rfl, rfl, fun W2 hl => ⟨hoa W2 (hl.sub (by repeat (first | exact Bg | refine in_seg ?_))), hob W2 (hl.sub (by repeat (first | exact Bg | refine in_seg ?_))), hoc W2 (hl.sub (by repeat (exact Bg)))⟩⟩

end Go.Proofs.YtdilealohibfoaaGreat
end

section
namespace Go.Proofs.YtdilealohibfoaaGreat
open Go Hw

open Ed

theorem mA_g : dgood mAD = 0 := mA_f.2.2.1
theorem mB_g : dgood mBD = 0 := mB_f.2.2.1
theorem mL_g : dgood mLD = 0 := mL_f.2.2.1
theorem mA_nm : Bh mAD = mAN := mA_f.2.1
theorem mB_nm : Bh mBD = mBN := mB_f.2.1
theorem mL_nm : Bh mLD = mLN := mL_f.2.1
def cX1 : PD := PD.new.adm mAN mAD
def cX2 : PD := cX1.adm mBN mBD
def cX3 : PD := cX2.adm mLN mLD
theorem c_add1 : PD.new.add mAD = (cX1, [mAN], 0) := by
  have h := add_fits (X := PD.new) mA_g (by rw [mA_nm]; kernel_rfl) zK;rw [mA_nm] at h;have e : PD.settle (PD.new.adm mAN mAD).orp.length (PD.new.adm mAN mAD) = (cX1, []) := by kernel_rfl
  rw [h, e]
theorem c_add2 : cX1.add mBD = (cX2, [mBN], 0) := by
  have h := add_fits (X := cX1) mB_g (by rw [mB_nm]; kernel_rfl) zK;rw [mB_nm] at h;have e : PD.settle (cX1.adm mBN mBD).orp.length (cX1.adm mBN mBD) = (cX2, []) := by kernel_rfl
  rw [h, e]
theorem c_add3 : cX2.add mLD = (cX3, [mLN], 0) := by
  have h := add_fits (X := cX2) mL_g (by rw [mL_nm]; kernel_rfl) zK;rw [mL_nm] at h;have e : PD.settle (cX2.adm mLN mLD).orp.length (cX2.adm mLN mLD) = (cX3, []) := by kernel_rfl
  rw [h, e]
theorem c_fill : fillP PD.new [mAD, mBD, mLD] = cX3 := by
  simp only [fillP, List.foldl_cons, List.foldl_nil, c_add1, c_add2, c_add3]
theorem c_inv : cX3.Inv := by rw [← c_fill]; exact PD.Inv.fill _ PD.Inv.new
theorem c_heads : cX3.heads = [mLN, mBN] := by kernel_rfl
theorem rB_nil (X : PD) (n : List UInt8) : rB X (-1) [] n = false := by
  cases h : rB X (-1) [] n with
  | false => rfl
  | true => exact (reach_nil (rB_iff.1 h)).elim
theorem beneath_nil (X : PD) : (beneath X []).length = 0 := by
  unfold beneath;rw [List.filter_eq_nil_iff.2 fun n _ => by rw [rB_nil]; decide]; rfl
theorem reach_in {X : PD} (hI : X.Inv) {L : List (List UInt8)} {n : List UInt8} {D : DB} (hn : n ∈ L) (hD : Au X.P n = some D) : X.Reach (-1) L n := .base hn hD (by have := hI.d0 n D hD; omega)
theorem beneath_pos {X : PD} (hI : X.Inv) {L : List (List UInt8)} {n : List UInt8} {D : DB} (hn : n ∈ L) (hD : Au X.P n = some D) : 0 < (beneath X L).length :=
  List.length_pos_of_mem (List.mem_filter.2 ⟨keys_in hD, rB_iff.2 (reach_in hI hn hD)⟩)
def cutP1 (n : List UInt8) : DCut := ⟨1, List.replicate 32 0, [n]⟩
def cutP2 (n m : List UInt8) : DCut := ⟨1, List.replicate 32 0, [n, m]⟩
theorem c_ext1 : cX3.ext DCut.zero (List.replicate 32 0) 0 (cutP1 mAN) = 0 := by
  have hD : Au cX3.P mAN = some mAD := by kernel_rfl
  have h1 : (cutP1 mAN).check = 0 := by kernel_rfl
  have h2 : missB cX3 (cutP1 mAN).dHeads = false := by kernel_rfl
  have h3 := beneath_pos c_inv (L := (cutP1 mAN).dHeads) List.mem_cons_self hD;have h4 := beneath_nil cX3;have h5 : parsOf cX3 (cutP1 mAN).dHeads = [] := by kernel_rfl
  have h6 : apartB cX3 (cutP1 mAN).dHeads = true := by
    unfold apartB;rw [h5, List.any_eq_false.2 fun n _ => by rw [rB_nil]; decide]; rfl
  unfold PD.ext;rw [if_neg dE, if_neg (not_not_intro h1), if_neg dE, if_neg dE, if_neg dE, if_neg (by rw [h2]; decide), if_neg (by rw [show DCut.zero.dHeads = [] from rfl, h4]; omega), if_neg (by rw [h6]; decide)];rfl
theorem c_ext2 : cX3.ext DCut.zero (List.replicate 32 0) 0 (cutP2 mBN mAN) = 4 := by
  have hD : Au cX3.P mAN = some mAD := by kernel_rfl
  have h1 : (cutP2 mBN mAN).check = 0 := by kernel_rfl
  have h2 : missB cX3 (cutP2 mBN mAN).dHeads = false := by kernel_rfl
  have h5 : (parsOf cX3 (cutP2 mBN mAN).dHeads).contains mAN = true := by kernel_rfl
  have h6 : apartB cX3 (cutP2 mBN mAN).dHeads = false := by
    have ha : ((cutP2 mBN mAN).dHeads.any fun h => rB cX3 (-1) (parsOf cX3 (cutP2 mBN mAN).dHeads) h) = true := List.any_eq_true.2 ⟨mAN, List.mem_cons_of_mem _ List.mem_cons_self, rB_iff.2 (reach_in c_inv (by simpa using h5) hD)⟩;unfold apartB;rw [ha]; rfl
  unfold PD.ext;rw [if_neg dE, if_neg (not_not_intro h1), if_neg dE, if_neg dE, if_neg dE, if_neg (by rw [h2]; decide), if_pos h6];split <;> rfl
theorem chain19_facts : ∃ (Da Db Dc : DB) (na nb nc : List UInt8) (X : PD), (Da.ok ∧ Db.ok ∧ Dc.ok) ∧ (na.length = 32 ∧ nb.length = 32 ∧ nc.length = 32) ∧ (Bh Da = na ∧ Bh Db = nb ∧ Bh Dc = nc)
    ∧ (∀ B : Block, B.ok → Meets Tryz.prog 150 [agg (Aa s1B), agg B.cells] [] (fun W => BlockIs W B DB.zero) (BlkR 0 Da)) ∧ (∀ B : Block, B.ok → Meets Tryz.prog 150 [agg (Aa s1B), agg B.cells] [] (fun W => BlockIs W B { DB.zero with seq := 1, prev := na }) (BlkR 0 Db)) ∧ (∀ B : Block, B.ok → Meets Tryz.prog 150 [agg (Aa s2B), agg B.cells] [] (fun W => BlockIs W B { DB.zero with ls := [na] }) (BlkR 0 Dc)) ∧ (∀ d ∈ [Da, Db, Dc], d.ls.length ≤ 500000 ∧ d.ds.length ≤ 500000)
    ∧ fillP PD.new [Da, Db, Dc] = X ∧ X.nxt0 = (⟨1, List.replicate 32 0, [nc, nb]⟩, 0) ∧ ¬ nc = nb ∧ Cm nc nb < 0 ∧ 0 < Cm na nb ∧ X.ext DCut.zero (List.replicate 32 0) 0 (cutP1 na) = 0 ∧ X.ext DCut.zero (List.replicate 32 0) 0 (cutP2 nb na) = 4 :=
  ⟨mAD, mBD, mLD, mAN, mBN, mLN, cX3, ⟨mA_f.1, mB_f.1, mL_f.1⟩, ⟨mA_len, mB_len, mL_len⟩, ⟨mA_nm, mB_nm, mL_nm⟩, mA_f.2.2.2, mB_f.2.2.2, mL_f.2.2.2,
    (fun d hd => by simp only [List.mem_cons, List.not_mem_nil, or_false] at hd; rcases hd with rfl | rfl | rfl <;> exact of_decide_eq_true zK), c_fill, by unfold PD.nxt0; rw [c_heads]; rfl, of_decide_eq_true zK, of_decide_eq_true zK, of_decide_eq_true zK, c_ext1, c_ext2⟩
theorem cut_ext_at (x : DD) (hx : x.ok) (hI : x.pl.Inv) (p : Nat) (C : Cut) (D : DCut) (e : Int) (he : x.pl.ext DCut.zero (List.replicate 32 0) 0 D = e) : Meets Tryz.prog 18 [ptr p 0, .slice none 0 0, agg C.cells] [] (fun W => Lies (x.blks p) W ∧ CutIs W C D) (fun v out => v = i64 e ∧ out = []) :=
  (cut_extends x hx hI p Sl.nil [] [] C D).imp (fun w h => ⟨h.1, SeqIs.none, h.2⟩) fun v out h => by rw [← he]; exact h
theorem rows_sees {W : World} {s : Sl} {ls : List (List UInt8)} {b o : Nat} (h : RowsAt W s 32 ls) (hp : s.p = some ⟨b, o, none⟩) {k : Nat} (hk : k < ls.length) : Sees W b (o + k * 32) (Aa (ls.getD k [])) :=
  Cc h.row (fun j v hj => by obtain ⟨b', o', e, e2⟩ := h.see j v hj; rw [hp] at e; cases e; exact e2) hk
theorem row_two {q : Nat} {w : World} {a b : List UInt8} (ha : a.length = 32) (hb : b.length = 32) (h : Sees w q 0 (A1 [a, b])) : RowsAt w ⟨some ⟨q, 0, none⟩, 2, 2⟩ 32 [a, b] := ⟨rfl, two_32 ha hb, Nat.le_refl 2, SeesP.of h, (by show 2 ≤ maxLen; decide), fun e => by cases e⟩
def cutQ (q n : Nat) : Cut := { Cut.zero with fHeight := 1, fHeads := ⟨some ⟨q, 0, none⟩, n, n⟩ }
theorem cutQ_ok (q n : Nat) : (cutQ q n).ok := ⟨rfl⟩

theorem law19_lives  : Meets Tryz.prog 15 [] [] (fun _ => True) (fun v out => v = .bool true ∧ out = []) := by
 intro W hW;obtain ⟨Da, Db, Dc, na, nb, nc, X, ⟨hDa, hDb, hDc⟩, ⟨lna, lnb, lnc⟩, ⟨hna, hnb, hnc⟩, cSa, cSb, cSc, hsm, hfill, hnx, hne, hcb, hab, hx1, hx2⟩ := chain19_facts;refine Ac Tryz.func15 J 93 Tryz.ntmps15 J (G7 ?_);refine .call4 J J J J J Body21 (law19_chain Da Db Dc na hDa hDb hDc lna hna cSa cSb cSc) tV ?_;rintro v9 out9 ⟨q, Ba, Bb, Bc, bl, ha, hb, hc, rfl, rfl, hch⟩;have cNa := r15_Name Ba Da ha.ok;have cNb := r15_Name Bb Db hb.ok;have cNc := r15_Name Bc Dc hc.ok;rw [hna] at cNa;rw [hnb] at cNb;rw [hnc] at cNc;refine G6 ?_;refine .call4 J J J J J Body22 (law19_filled ⟨some ⟨q, 0, none⟩, 3, 3⟩ [Da, Db, Dc] (by show 3 ≤ 1000; omega) hsm) (fun w h => tri_blocks (own_blk (B := ⟨q, tri Ba Bb Bc, 48, (tri Ba Bb Bc).length⟩) h Z0) (hch w (Lies.of h (by repeat (first | exact Bg | refine Bm ?_))))) ?_;rintro v11 out11 ⟨p, x, rfl, rfl, hx, hplx, hnx2⟩;have hI : x.pl.Inv := by rw [hplx]; exact PD.Inv.fill _ PD.Inv.new
 rw [hfill] at hplx;rw [← hplx] at hnx hx1 hx2;refine G4 ?_
 try simp only [List.cons_append, List.nil_append, List.append_assoc]
 refine .withK (sp_x (sp_k (sp_x sp_n))) J (.draw (oP [0,1,2,4,5,6,8,9,10,303,307,311,212,213,214,415,416,417]) Ao zK ?_)
 try simp only [List.cons_append, List.nil_append, List.append_assoc]
 refine G1 ?_;refine .idxSlP 131 J J J J J Y38.h Sz48 0 J dE (.kloadSN (n := 131) Ba.cells J J J Y48.h J Sz48 (Block.length ha.ok) (fun w h => (tri_sees ha.ok hb.ok hc.ok (h ⟨q, tri Ba Bb Bc, 48, (tri Ba Bb Bc).length⟩ (by simp [Cx.with]))).1) ?_);refine G1 ?_;refine .idxSlP 131 J J J J J Y38.h Sz48 1 J dE (.kloadSN (n := 131) Bb.cells J J J Y48.h J Sz48 (Block.length hb.ok) (fun w h => (tri_sees ha.ok hb.ok hc.ok (h ⟨q, tri Ba Bb Bc, 48, (tri Ba Bb Bc).length⟩ (by simp [Cx.with]))).2.1) ?_);refine G1 ?_;refine .idxSlP 131 J J J J J Y38.h Sz48 2 J dE (.kloadSN (n := 131) Bc.cells J J J Y48.h J Sz48 (Block.length hc.ok) (fun w h => (tri_sees ha.ok hb.ok hc.ok (h ⟨q, tri Ba Bb Bc, 48, (tri Ba Bb Bc).length⟩ (by simp [Cx.with]))).2.2) ?_);refine .cV J J J J Body23 (cNa) (fun w h => (hch w (Lies.of h (by repeat (first | exact Bg | refine Bm ?_ | refine in_seg ?_)))).1) ?_;refine .cV J J J J Body23 (cNb) (fun w h => (hch w (Lies.of h (by repeat (first | exact Bg | refine Bm ?_ | refine in_seg ?_)))).2.1) ?_;refine .cV J J J J Body23 (cNc) (fun w h => (hch w (Lies.of h (by repeat (first | exact Bg | refine Bm ?_ | refine in_seg ?_)))).2.2) ?_;refine .alloc (cs := (Aa (List.replicate 32 0))) J Cr J ?_;intro n3 hn3 hf3;refine .alloc (cs := (Aa (List.replicate 32 0))) J Cr J ?_;intro n4 hn4 hf4;refine .alloc (cs := (Aa (List.replicate 32 0))) J Cr J ?_;intro n5 hn5 hf5;refine .sA J J J J zE Sz25 (by (simp [lna]; done)) Z2 sP (by exact upd2) ?_;refine .sA J J J J zE Sz25 (by (simp [lnb]; done)) Z1 sP zV ?_;refine .sA J J J J zE Sz25 (by (simp [lnc]; done)) Z0 sP zU ?_;refine G4 ?_
 try simp only [List.cons_append, List.nil_append, List.append_assoc]
 refine G1 ?_;refine .call4 J J J J J Body17 (cut_next0 x hx hI p) (fun w h => Lies.of h (by repeat (first | exact Bg | refine Bm ?_))) ?_;rintro v26 out26 ⟨C6, ok6, rfl, hC6⟩;rw [hnx] at hC6 ⊢;simp only at hC6 ⊢;refine G3 ?_;refine .alloc (cs := Cut.zero.cells) J Cut.zr J ?_;intro n6 hn6 hf6;refine .sA J J J J (Cut.isCell (by exact ok6)) Sz28 (Cut.length (by exact ok6)) Z0 (Cut.length (by exact Cut.zero_ok)) zU ?_;refine G5 ?_;refine .know (F := C6.fHeight = 1 ∧ C6.fHeads.n = 2 ∧ ∃ b o, C6.fHeads.p = some ⟨b, o, none⟩) (fun w h => by have h9 := hC6 w (Lies.of h (by repeat (first | exact Bg | refine Bm ?_))); obtain ⟨b, o, e, _⟩ := h9.fHeads.see.at (by rw [Az h9.fHeads.row]; show 0 < 2 * 32; decide); exact ⟨h9.fHeight, h9.fHeads.len.symm, b, o, e⟩) (fun hk => ?_);obtain ⟨hkh, hkn, b6, o6, hp6⟩ := hk;have see0 : ∀ w, Lies out26 w → Sees w b6 (o6 + 0 * 32) (Aa nc) := fun w hw => rows_sees (hC6 w hw).fHeads hp6 (k := 0) (by show 0 < 2; decide);have see1 : ∀ w, Lies out26 w → Sees w b6 (o6 + 1 * 32) (Aa nb) := fun w hw => rows_sees (hC6 w hw).fHeads hp6 (k := 1) (by show 1 < 2; decide);refine .draw (oP [0,1,2,3,104,5,6,7,8,109,10,11,12,13,14,115,16,117,118,19,20,21,122,23,124,125,26,27,28,29,30,131,32,133,34,135,36,137,338,39,40]) Ao zK ?_
 try simp only [List.cons_append, List.nil_append, List.append_assoc]
 refine G1 ?_;refine .nei J J J J (show (!decide _) = false from congrArg not (decide_eq_true (rfl))) (G2 ?_);refine .load1 J J J Y23.h J Z0 (by exact Cut.get_fHeight (by exact ok6)) ?_;refine .nei J J J J (show (!decide _) = false from congrArg not (decide_eq_true (by rw [hkh]; rfl))) ?_;refine G3 ?_;refine .load1 J J J Y26.h J Z0 (by exact Cut.get_fHeads (by exact ok6)) ?_;refine G1 ?_;refine .nei J J J J (show (!decide _) = false from congrArg not (decide_eq_true (by rw [hkn]; rfl))) ?_;refine G3 ?_;refine .load1 J J J Y26.h J Z0 (by exact Cut.get_fHeads (by exact ok6)) ?_;refine .idxSlP 32 J J J hp6 J Y26.h Sz25 0 J oM (.loadSN (n := 32) (Aa nc) J J J Y25.h J Sz25 (by rw [Aa, List.length_map]; exact lnc) (fun w h => see0 w (Lies.of h (by repeat (first | exact Bg | refine Bm ?_)))) ?_);refine .lA J J J Y25.h J Sz25 mR (by (simp [lnb]; done)) ?_;refine .neq_bytes J J J J Tryz.eqGuardType25 Y25.h Y5.h Sz5 (by (simp [lnc]; done)) (by (simp [lnb]; done)) (show (!decide _) = true from congrArg not (decide_eq_false (hne))) ?_;refine G2 ?_;refine .load1 J J J Y26.h J Z0 (by exact Cut.get_fHeads (by exact ok6)) ?_;refine .idxSlP 32 J J J hp6 J Y26.h Sz25 0 J oM (.loadSN (n := 32) (Aa nc) J J J Y25.h J Sz25 (by rw [Aa, List.length_map]; exact lnc) (fun w h => see0 w (Lies.of h (by repeat (first | exact Bg | refine Bm ?_)))) ?_);refine .lA J J J Y25.h J Sz25 mR (by (simp [lnc]; done)) ?_;refine .neq_bytes J J J J Tryz.eqGuardType25 Y25.h Y5.h Sz5 (by (simp [lnc]; done)) (by (simp [lnc]; done)) (show (!decide _) = false from congrArg not (decide_eq_true (rfl))) ?_;refine G4 ?_;refine .load1 J J J Y26.h J Z0 (by exact Cut.get_fHeads (by exact ok6)) ?_;refine .idxSlP 32 J J J hp6 J Y26.h Sz25 0 J oM (.loadSN (n := 32) (Aa nc) J J J Y25.h J Sz25 (by rw [Aa, List.length_map]; exact lnc) (fun w h => see0 w (Lies.of h (by repeat (first | exact Bg | refine Bm ?_)))) ?_);refine G1 ?_;refine .load1 J J J Y26.h J Z0 (by exact Cut.get_fHeads (by exact ok6)) ?_;refine .idxSlP 32 J J J hp6 J Y26.h Sz25 1 J oM (.loadSN (n := 32) (Aa nb) J J J Y25.h J Sz25 (by rw [Aa, List.length_map]; exact lnb) (fun w h => see1 w (Lies.of h (by repeat (first | exact Bg | refine Bm ?_)))) ?_);refine .cV J J J J Body65 (r15_cmp nc nb lnc lnb) tV (.geq J J J J (decide_eq_false oM) (G3 ?_));refine .cond_f J J (G4 ?_)
 try simp only [List.cons_append, List.nil_append, List.append_assoc]
 refine .lA J J J Y25.h J Sz25 mR (by (simp [lna]; done)) ?_;refine .lA J J J Y25.h J Sz25 mR (by (simp [lnb]; done)) ?_;refine .mkRow (z := agg (Aa (List.replicate 32 0))) [agg (Aa na), agg (Aa nb)] (A1 [na, nb]) J J J Y26.h Sz25 Cr J J (by intro v hv; simp only [List.mem_cons, List.not_mem_nil, or_false] at hv; rcases hv with rfl | rfl <;> simp [Value.cells, Aa, lna, lnb]) dE (by simp [Value.cells, agg, A1]) ?_;intro q72;refine G6 ?_;refine .lA J J J Y25.h J Sz25 mR (by (simp [lna]; done)) ?_;refine .lA J J J Y25.h J Sz25 mR (by (simp [lnb]; done)) ?_;refine .cV J J J J Body65 (r15_cmp na nb lna lnb) tV (.gtr J J J J (decide_eq_true oM) (G2 ?_));refine .cond_t J J (.region (.lA J J J Y25.h J Sz25 mR (by (simp [lnb]; done)) ?_));refine .lA J J J Y25.h J Sz25 mR (by (simp [lna]; done)) ?_;refine .mkRow (z := agg (Aa (List.replicate 32 0))) [agg (Aa nb), agg (Aa na)] (A1 [nb, na]) J J J Y26.h Sz25 Cr J J (by intro v hv; simp only [List.mem_cons, List.not_mem_nil, or_false] at hv; rcases hv with rfl | rfl <;> simp [Value.cells, Aa, lna, lnb]) dE (by simp [Value.cells, agg, A1]) ?_;intro q79;refine G5 ?_
 try simp only [List.cons_append, List.nil_append, List.append_assoc]
 refine G1 ?_;refine .lA J J J Y25.h J Sz25 mR (by (simp [lna]; done)) ?_;refine .mkRow (z := agg (Aa (List.replicate 32 0))) [agg (Aa na)] (A1 [na]) J J J Y26.h Sz25 Cr J J (by intro v hv; simp only [List.mem_cons, List.not_mem_nil, or_false] at hv; rcases hv with rfl <;> simp [Value.cells, Aa, lna]) dE (by simp [Value.cells, agg, A1]) ?_;intro q82;refine .build (cs := (cutQ q82 1).cells) J J J (fun w => by kernel_rfl) ?_;refine .cV J J J J Body18 (cut_ext_at x hx hI p (cutQ q82 1) (cutP1 na) 0 hx1) (fun w h => ⟨Lies.of h (by repeat (first | exact Bg | refine Bm ?_ | refine in_seg ?_)), cutQ_ok _ _, rfl, rfl, row_one lna (by have h9 := Ar (cs := A1 [na]) h Z0; simpa [A1] using h9)⟩) ?_;refine .eqi J J J J (decide_eq_true (rfl)) (G3 ?_);refine .build (cs := (cutQ q79 2).cells) J J J (fun w => by kernel_rfl) ?_;refine .cV J J J J Body18 (cut_ext_at x hx hI p (cutQ q79 2) (cutP2 nb na) 4 hx2) (fun w h => ⟨Lies.of h (by repeat (first | exact Bg | refine Bm ?_ | refine in_seg ?_)), cutQ_ok _ _, rfl, rfl, row_two lnb lna (Ar h Z1)⟩) ?_;refine .eqi J J J J (decide_eq_true (rfl)) (G4 ?_);refine G2 ?_;refine A0 (out := []) (Ai J J) Al ?_;exact ⟨rfl, rfl⟩

end Go.Proofs.YtdilealohibfoaaGreat
end

section
namespace Go.Proofs.YtdilealohibfoaaGreat
open Go Hw

def sameC (a b : DCut) : Bool := decide ((a.dHeight.toNat : Int) = (b.dHeight.toNat : Int)) && (decide (a.dPrev = b.dPrev) && decide (a.dHeads = b.dHeads))
theorem cuts_one {w : World} {q : Nat} {C : Cut} {D : DCut} (hs : Sees w q 0 C.cells) (h : CutIs w C D) : CutsAt w ⟨some ⟨q, 0, none⟩, 1, 1⟩ [D] := by
  refine ⟨[C], rfl, rfl, fun i r d hr hd => ?_, fun r hr => ?_, Nat.le_refl 1, SeesP.of (by simpa using hs), (by show 1 ≤ maxLen; decide), fun e => by cases e⟩
  · rcases i with _ | i
    · cases hr; cases hd; exact h
    · cases hr
  · rw [List.mem_singleton.1 hr]; exact Cut.length h.ok

theorem kit_cut (A B : Cut) (a b : DCut) (hn : A.fHeads.n ≤ 1000000) : Meets Tryz.prog 19 [agg A.cells, agg B.cells] [] (fun W => CutIs W A a ∧ CutIs W B b) (fun v out => v = .bool (sameC a b) ∧ out = []) := by
 intro W hW;have hA := hW.1.ok;have hB := hW.2.ok;have e1 := hW.1.fHeight;have e2 := hW.2.fHeight;have e3 := hW.1.fPrev;have e4 := hW.2.fPrev;refine Ac Tryz.func19 J 24 Tryz.ntmps19 J (G3 ?_);intro n2 hn2 hf2;refine G1 ?_;intro n3 hn3 hf3;refine G9 ?_;refine two (fun r hr k => Tr.eqi J J J J hr k) (fun hs1_40 => ?_) (fun hs1_40 => ?_)
 ·
  have hs1_4 := of_decide_eq_true hs1_40;refine G2 ?_;refine .lN (Aa _) J J J Y25.h J Sz25 Z1 (Cut.row_fPrev zA) (Cut.rl_fPrev zA) ?_;refine G1 ?_;refine .lN (Aa _) J J J Y25.h J Sz25 Z0 (Cut.row_fPrev zA) (Cut.rl_fPrev zA) ?_;refine two (fun r hr k => Tr.eql_bytes J J J J Tryz.eqGuardType25 Y25.h Y5.h Sz5 (by (simp [hA.l_fPrev]; done)) (by (simp [hB.l_fPrev]; done)) hr k) (fun hs1_100 => ?_) (fun hs1_100 => ?_)
  ·
   have hs1_10 := of_decide_eq_true hs1_100;refine G6 ?_;refine .cV J J J J Body36 (digests_any2 _ _ _ _ _ _ a.dHeads b.dHeads hW.1.fHeads.row hW.2.fHeads.row hW.1.fHeads.len hW.2.fHeads.len hn) (fun w h => ⟨A2 h J hW.1.fHeads.see, A2 h J hW.2.fHeads.see⟩) (G4 ?_);refine G2 ?_;refine ⟨_, [], Ai J J, sP, sP, ?_, rfl⟩;unfold sameC;simp_all
  have hs1_10 := of_decide_eq_false hs1_100;refine G11 ?_;refine G2 ?_;refine ⟨_, [], Ai J J, sP, sP, ?_, rfl⟩;unfold sameC;simp_all
 have hs1_4 := of_decide_eq_false hs1_40;refine G17 ?_;refine G2 ?_;refine ⟨_, [], Ai J J, sP, sP, ?_, rfl⟩;unfold sameC;simp_all
theorem kit_cut0 : Meets Tryz.prog 19 [agg Cut.zero.cells, agg Cut.zero.cells] [] (fun _ => True) (fun v out => v = .bool true ∧ out = []) := by
  have e : sameC DCut.zero DCut.zero = true := by kernel_rfl
  have h := kit_cut Cut.zero Cut.zero DCut.zero DCut.zero (Nat.zero_le _);rw [e] at h;exact h.imp (fun w _ => ⟨cutz_is w, cutz_is w⟩) fun v out h => h

theorem law_cutnil (s : Sl) (ds : List DCut) (C : Cut) (D : DCut) : Meets Tryz.prog 3 [s.v, agg C.cells] [] (fun W => CutsAt W s ds ∧ CutIs W C D) (fun v out => v = .bool true ∧ out = []) := by
 intro W hW;have hC := hW.2;refine Ac Tryz.func3 J 41 Tryz.ntmps3 J (G3 ?_);intro n3 hn3 hf3;refine G6 ?_;refine .cV J J J J Body15 (law19_lives) tV (G3 ?_);refine .cond_f J J (G6 ?_);refine .callB J J J J Body16 (lightd_cuts s ds 16) (fun w h => Cuts_ext h J hW.1) (fun hs3_10 => ?_) (fun hs3_10 => ?_)
 ·
  have hs3_1 := hs3_10;refine G2 ?_;refine .lA J J J Y28.h J Sz28 Z0 (Cut.length (by exact hC.ok)) ?_;refine .mkRow (z := agg Cut.zero.cells) [agg (C).cells] (C).cells J J J Y22.h Sz28 Cut.zr J J (by intro v hv; rw [List.mem_singleton.1 hv]; exact Cut.length hC.ok) dE (by simp [Value.cells]) ?_;intro q14;refine .cV J J J J Body16 (lightd_cuts ⟨some ⟨q14, 0, none⟩, 1, 1⟩ [D] 1) (fun w h => cuts_one (Ar h Z0) (hC.ext h J)) ?_;refine G4 ?_;refine .cond J (fun hc1 => ?_) (fun hc1 => ?_)
  ·
   refine G5 ?_;refine G3 ?_;refine ⟨_, [], Ai J J, sP, sP, ?_, rfl⟩;rfl
  refine G5 ?_;refine .cV J J J J Body17 (cut_next_nil s) tV (G3 ?_);refine .alloc (cs := Cut.zero.cells) J Cut.zr J ?_;intro n5 hn5 hf5;refine G7 ?_;refine .lA J J J Y28.h J Sz28 Z2 (Cut.length (by exact hC.ok)) ?_;refine .cV J J J J Body18 (cut_extends_nil s C hC.ok) tV (.eqi J J J J (decide_eq_true (rfl)) (G2 ?_));refine .eqi J J J J (decide_eq_true (rfl)) (G3 ?_);refine .build (cs := Cut.zero.cells) J J J (fun w => by kernel_rfl) ?_;refine .cV J J J J Body19 (kit_cut0) tV (G3 ?_);refine .cV J J J J Body20 (cut_chain_nil s) tV (.eqi J J J J (decide_eq_true (rfl)) (G4 ?_));refine G2 ?_;refine ⟨_, [], Ai J J, sP, sP, ?_, rfl⟩;rfl
 have hs3_1 := hs3_10;refine G9 ?_;refine .cond_t J J (G5 ?_);refine G3 ?_;refine ⟨_, [], Ai J J, sP, sP, ?_, rfl⟩;rfl
end Go.Proofs.YtdilealohibfoaaGreat
end

section
namespace Go.Proofs.YtdilealohibfoaaGreat
open Go Go.ChangeShapes Go.WideShapes Go.ChangeAt Go.RowKit

theorem ownCNil : ownKnob Tryz.prog.godebug = none := by kernel_rfl
theorem laidOutCNil : laidOutB Tryz.prog = true := by kernel_rfl

theorem openSqCNilCut {H : Type} {enc : TypeId × Value → H} {W : World} {base : Nat} {sp : Nat → Bool} {held : Bool} {k : TypeId} (hu : Tryz.prog.underlying k = some (.slice 28)) (hc : Tryz.prog.cellsOf 28 = 34) {r : Reach} {b0 : Nat} {v : Value} {d : DataW H} {ps : List MemPlace}
    (hval : Value.okWide Tryz.prog W r b0 k v) (hd : DataW.Trod enc Tryz.prog W base sp held k v d ps) : ∃ s l, v = Hw.Sl.v s ∧ CutsAt W s l := by
  simp only [Value.okWide, hu, Cell.okWide] at hval;obtain ⟨a1, len, cap, rfl⟩ : ∃ a1 len cap, v = .slice a1 len cap := by
    unfold Cell.ok at hval;rw [hu] at hval;split at hval <;> first | exact hval.elim | exact ⟨_, _, _, rfl⟩ | simp_all
  obtain ⟨fuel, hf⟩ := hd;obtain ⟨s, l, h1, h2⟩ := Cut.openS hu hc hf;refine ⟨s, l, ?_, h2⟩;simp [Value.cells] at h1;exact h1

theorem walkCNil (w : World) (s0 : Hw.Sl) (l0 : List DCut) (hs0 : CutsAt w s0 l0) (x1 : Cut) (D1 : DCut) (is1 : CutIs w x1 D1) : Calls Tryz.prog 3 #[Hw.Sl.v s0, Hw.agg x1.cells] w fun e w' => e = .returned (.bool true) ∧ Below w.heap.size w w' :=
  by
  have fin : ∀ {us : Array Value}, Calls Tryz.prog 3 us w (fun e W' => ∃ v out, e = .returned v ∧ (v = .bool true ∧ out = []) ∧ Hw.Ret [] out w W') → Calls Tryz.prog 3 us w (fun e w' => e = .returned (.bool true) ∧ Below w.heap.size w w') :=
    fun h => h.mono fun e w' ⟨v, out, he, ⟨hv, ho⟩, hr⟩ => ⟨by rw [he, hv], Hw.Keeps.below hr.keeps⟩
  exact fin (law_cutnil s0 l0 x1 D1 w ⟨hs0, is1⟩)

theorem liftedCNil (os : Os) (started : os.Started) (H : Type) (enc : TypeId × Value → H) :
    ReturnsInHanded {} Tryz.checked os 3 .any (Rows.cutNilSpec.pre6 enc Tryz.prog Tryz.f3 Rows.cutNilRow.domain false) (Rows.cutNilSpec.post enc Tryz.prog Tryz.f3 false true false false) := by
  refine returnsInHanded_of_change (C := Tryz.checked) ownCNil started (by kernel_rfl) Tryz.func3
    (ChangeSpec.witness6 (enc := enc) (C := Tryz.checked) false ⟨#[], #[.slice none 0 0, .agg (#[.int .u64 0] ++ Array.replicate 32 (.int .u8 0) ++ #[.slice none 0 0])], []⟩ 8 (by kernel_rfl) (by kernel_rfl) (by kernel_rfl) (by kernel_rfl)) ?_
  intro W base args ds gs before hval0 hW hcnd _;have hval : ∀ (j : Nat) t v, Tryz.f3.params[j]? = some t → args[j]? = some v → Value.okWide Tryz.prog W .any base t v := hval0;have hW' := hW;obtain ⟨p, q, hA0, hV, rfl, hfz, hnd⟩ := hW;have hA : DataW.TrodAll enc Tryz.prog W 0 (fun _ => true) true Tryz.f3.params.toList args.toList ds p := hA0;rw [Tryz.params3] at hA hval;obtain ⟨v0, vs0, d0, ds0, p0, q0, hargs, rfl, rfl, h0, r0⟩ := trodAll_cons hA;obtain ⟨v1, vs1, d1, ds1, p1, q1, rfl, rfl, rfl, h1, r1⟩ := trodAll_cons r0;obtain ⟨rfl, rfl, rfl⟩ := trodAll_nil r1;obtain rfl : args = #[v0, v1] := by cases args; simp_all
  obtain ⟨rfl, rfl⟩ := trodVars_none hV;have k0 := h0;have lt0 : ∀ x ∈ p0, x.block < W.heap.size := by obtain ⟨m, hm⟩ := k0; exact DataW.trod_lt m _ _ _ hm
  have k1 := h1;have lt1 : ∀ x ∈ p1, x.block < W.heap.size := by obtain ⟨m, hm⟩ := k1; exact DataW.trod_lt m _ _ _ hm
  obtain ⟨s0, l0, rfl, hs0⟩ := openSqCNilCut Tryz.underlying22 (by kernel_rfl) (hval 0 22 v0 rfl rfl) h0;obtain ⟨x1, D1, rfl, is1⟩ := Cut.openW (hval 1 28 v1 rfl rfl) h1;clear hA0 hval0;refine (walkCNil W s0 l0 hs0 x1 D1 is1).mono fun e W' ⟨he, bel⟩ => ?_;subst he;exact ⟨_, rfl, _, _, _, [], _, [], hW', trodAll_mk1 (shut_bool Tryz.underlying4 _), (trodAll_cons_mk (Below.trod laidOutCNil (by kernel_rfl) (of_decide_eq_true (by kernel_rfl)) k0 bel lt0) (trodAll_cons_mk (Below.trod laidOutCNil (by kernel_rfl) (of_decide_eq_true (by kernel_rfl)) k1 bel lt1) trodAll_mk0)), rfl, bel.frame _, fun h => by cases h⟩

theorem cutNil_holds : Rows.CutNilSaid :=
  OpenClaim.holds_of_wide 3 Tryz.f3 rfl rfl rfl rfl rfl rfl rfl ⟨rfl, rfl, rfl, rfl, rfl⟩ rfl rfl rfl rfl rfl (by kernel_rfl) Tryz.func3 closedCNil
    (of_decide_eq_true (by kernel_rfl)) (by unfold Func.isWrapper; first | (rw [if_pos (by decide +kernel)]; kernel_rfl) | (rw [if_neg (by decide +kernel)]; exact ⟨rfl, rfl⟩))
    (fun os started H enc _ => liftedCNil os started H enc)

end Go.Proofs.YtdilealohibfoaaGreat
end
