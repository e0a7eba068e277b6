/- Contracts of functions of the loaded program, and the lemmas that they need (part 5). It proves no statement by itself; it has no conditions. -/
import Derived.WalkKit
import Derived.Orders
import Derived.Deep.LoopGhost
import Derived.IntWalk
import Derived.Laws.StructEq
import Derived.ArgAppend
import Derived.Deep.AppendSrc
import Derived.Lib.Bytealg
import Derived.Lib.BytesEntry
import Derived.Laws.IdiomStrings
import Derived.WideKeyArr2
import Derived.ProofKit
import Derived.OpenShut
import Derived.Deep.Slices
import Derived.Laws.Pointers
import Derived.Laws.Cover3
import Derived.LaidEqlPtr
import Derived.LoopN
import Derived.RangeFuncLeaves
import Derived.RangeFuncSeq
import Derived.OrdersIn
import Derived.Maps.Keyed
import Derived.Maps.RangeRun
import Derived.DeepKeys4
import Derived.Below
import Derived.Test.YtfcbgdkpagcbbaaGreatRows
import Derived.KernelRfl
import Derived.Laws.Externs
import Derived.Defers
import Derived.Laws.MathBits
import Derived.Shelf.SlSortCmp.WholeK
import Derived.Shelf.SlGeneric
import Derived.Test.YtfcbgdkpagcbbaaGreatProg
import Derived.Shelf.SlSortCmp.NoneTotal
import Derived.Deep.QuietTactic
import Derived.BigQuiet
import Derived.ScopeJumps
import Derived.DeepKeys3
import Derived.ChangeOld
import Derived.Test.YtfcbgdkpagcbbaaGreatDNaX4
set_option maxRecDepth 100000
set_option maxHeartbeats 8000000
set_option linter.unusedVariables false
set_option linter.unusedSimpArgs false
set_option linter.unusedSectionVars false
set_option linter.unnecessarySimpa false
section
namespace Go.Proofs.YtfcbgdkpagcbbaaGreat
open Go Hw

open Ed

theorem db_good (B : Block) (D : DB) (hB : B.ok) : Meets Tryz.prog 34 [agg B.cells] [] (fun W => BlockIs W B D) (fun v out => v = i64 (dgood D) ∧ out = []) := by
 intro W hW
 refine Ac Tryz.func34 J 17 Tryz.ntmps34 J (G3 ?_)
 intro n1 hn1 hf1
 refine G7 ?_
 refine .cV J J J J Body60 (db_check B D) (fun w h => hW.ext h J) (G9 ?_)
 refine .condNP J (fun hc0 => ?_) (fun hc0 => ?_)
 ·
  have hq0 : ¬ D.check = 0 := by omega
  refine G6 ?_
  -- ret
  refine G3 ?_
  refine ⟨_, [], Al J J, sP, sP, ?_, rfl⟩
  (unfold dgood; rw [if_neg hq0]; done)
 have hq0 : D.check = 0 := by omega
 obtain ⟨h1, h2⟩ := D.head_small hq0
 have hvn : (btxt D).length ≤ 4005 := DB.body_small hW.dok oM oM
 refine G4 ?_
 refine .draw [(0, 0), (1, 1), (1, 2), (0, 4), (1, 5), (3, 3), (3, 6), (0, 7)] Ap zK (G1 ?_)
 refine .lN (Aa _) J J J Y23.h J Sz23 Z0 (Block.row_fWriter zA) (Block.rl_fWriter zA) ?_
 refine G2 ?_
 refine .lN (Aa _) J J J Y29.h J Sz29 Z0 (Block.row_fSig zA) (Block.rl_fSig zA) ?_
 refine .call J J J J Body62 (db_text B D hB oM oM) (FreshRow.loose _ _ _ _) (fun w h => hW.ext h J) ?_
 rintro v12 out12 ⟨q12, c12, rfl, hc12, rfl⟩
 refine .cV J J J J Body61 (sign_Good B.fWriter hB.l_fWriter ⟨some ⟨q12, 0, none⟩, _, c12⟩ (btxt D) oM B.fSig hB.l_fSig) (fun w h => own_btxt (SeesP.of (Ar h Z0)) hc12 hvn) ?_
 refine G3 ?_
 refine .cond J (fun hc1 => ?_) (fun hc1 => ?_)
 ·
  refine G5 ?_
  -- ret
  refine G3 ?_
  refine ⟨_, [], Al J J, sP, sP, ?_, rfl⟩
  (unfold dgood; rw [if_pos hq0, ← hW.w, ← hW.sg, if_neg (by intro e; rw [e] at hc1; cases hc1)]; done)
 refine G7 ?_
 -- ret
 refine G2 ?_
 refine ⟨_, [], Al J J, sP, sP, ?_, rfl⟩
 (unfold dgood; rw [if_pos hq0, ← hW.w, ← hW.sg, if_pos (by simpa using hc1)]; done)
theorem db_own (B : Block) (D : DB) (hn : D.ls.length ≤ 500000) (hd : D.ds.length ≤ 500000) : Meets Tryz.prog 24 [agg B.cells] [] (fun W => BlockIs W B D) (BlkV D) := fun W hW => by
  have e1 := hW.ls.len
  have e2 := hW.ds.len
  refine (kit_own_block B hW.ok D.ls D.ds oM oM W ⟨hW.ls, hW.ds⟩).mono fun e W' ⟨v, out, h1, ⟨q1, c1, q2, c2, h2, h3, h4, h5⟩, h6⟩ => ⟨v, out, h1, ⟨ownB B q1 c1 q2 c2, ⟨ownB_ok hW.ok q1 c1 q2 c2, hW.w, hW.seq, hW.prev, hW.sg, e1.symm, e2.symm⟩, h2, fun W2 hl => ?_⟩, h6⟩
  subst h5
  have hf : (A1 D.ls).length = B.fLinks.n * 32 := by rw [A7 hW.ls.row, e1]
  have hb : (Aa D.ds).length = B.fData.n * 1 := by rw [Aa, List.length_map, e2, Nat.mul_one]
  refine ⟨ownB_ok hW.ok q1 c1 q2 c2, hW.w, hW.seq, hW.prev, ?_, ?_, hW.sg⟩
  · exact acc_rows (Acc.some (E := 25) h3 hf) (hl.sub (fun b hb => by rw [List.mem_singleton.1 hb]; exact mem1)) hW.ls.row e1 oM
  · exact acc_bytes (Acc.some (E := 5) h4 hb) (hl.sub (fun b hb => by rw [List.mem_singleton.1 hb]; exact Bx)) e2 oM

end Go.Proofs.YtfcbgdkpagcbbaaGreat
end

section
namespace Go.Proofs.YtfcbgdkpagcbbaaGreat
open Go Hw

theorem room_go {x : UInt64} {k : Nat} (hk : 1 ≤ k) (h9 : k < 9) (h : ¬ ((Aq x (7 * k)).toNat : Int) = 0) : k + 1 ≤ szN x.toNat := by
  rcases Nat.lt_or_ge k (szN x.toNat) with h1 | h1
  · exact h1
  · exact absurd (show ((Aq x (7 * k)).toNat : Int) = 0 by rw [A3, Nat.div_eq_of_lt ((szN_le hk oM).1 h1)]; rfl) h
theorem room_end {x : UInt64} {k : Nat} (hk : 1 ≤ k) (h9 : k < 9) (h : ((Aq x (7 * k)).toNat : Int) = 0) : szN x.toNat ≤ k := by
  refine (szN_le hk oM).2 ?_
  rw [A3] at h
  rcases Nat.div_eq_zero_iff.1 (show x.toNat / 2 ^ (7 * k) = 0 by omega) with h1 | h1
  · exact absurd h1 (Nat.ne_of_gt (Nat.pow_pos dE))
  · exact h1
theorem head_or : ∀ r, r < 9 → 1 ≤ r → ∀ y, y < 2 ^ (8 - r) → UInt8.ofNat (256 - 2 ^ (9 - r)) + UInt8.ofNat y = shl8 255 (9 - r) ||| UInt8.ofNat y := by decide
theorem head_9 : shl8 255 0 = 255 := by decide
theorem headB_9 {x : UInt64} (h : szN x.toNat = 9) : headB x = 255 := by
  rw [headB, h, head_9]
  have : ∀ y : UInt8, 255 ||| y = 255 := by
    intro y
    have hh : ∀ n, n < 256 → (255 : UInt8) ||| UInt8.ofNat n = 255 := by decide
    have := hh y.toNat y.toNat_lt
    rwa [UInt8.ofNat_toNat] at this
  exact this _
theorem headB_lt {x : UInt64} (h : szN x.toNat < 9) : ((256 : UInt64) - Ay 1 (9 - szN x.toNat)).toUInt8 + (Aq x (8 * (szN x.toNat - 1))).toUInt8 = headB x := by
  have hp := Cp x.toNat
  have hy : (Aq x (8 * (szN x.toNat - 1))).toNat < 2 ^ (8 - szN x.toNat) := by
    rw [A3, Nat.div_lt_iff_lt_mul (Nat.pow_pos dE), ← Nat.pow_add, show 8 - szN x.toNat + 8 * (szN x.toNat - 1) = 7 * szN x.toNat by omega]
    exact szN_hi oM
  have h1 : ((256 : UInt64) - Ay 1 (9 - szN x.toNat)).toUInt8 = UInt8.ofNat (256 - 2 ^ (9 - szN x.toNat)) := by
    have : ∀ r, r < 9 → 1 ≤ r → ((256 : UInt64) - Ay 1 (9 - r)).toUInt8 = UInt8.ofNat (256 - 2 ^ (9 - r)) := by decide
    exact this _ h hp.1
  have h2 : (Aq x (8 * (szN x.toNat - 1))).toUInt8 = UInt8.ofNat (Aq x (8 * (szN x.toNat - 1))).toNat := rfl
  rw [h1, headB, h2]
  exact head_or _ h hp.1 _ hy

theorem r1_room (x : UInt64) : Meets Tryz.prog 176 [u64 x] [] (fun _ => True) (fun v out => v = i64 ((szN x.toNat : Nat) : Int) ∧ out = []) := by
 intro W hW
 have hz := Cp x.toNat
 refine Ac Tryz.func176 J 17 Tryz.ntmps176 J (G12 ?_)
 refine .loop (ι := Nat) (fun k => ⟨[(0, u64 x), (3, i64 (k : Int))], []⟩) (fun k => 1 ≤ k ∧ k ≤ szN x.toNat) (fun k => 9 - k) (1) ?_ ?_ ?_
 · exact ⟨Nat.le_refl _, hz.1⟩
 · exact Ad (wk1 rfl (wk1 rfl wk0)) wh0 nD
 rintro k ⟨hk1, hk2⟩
 refine G4 ?_
 refine two (fun r hr k => Tr.lss J J J J hr k) (fun hs2_10 => ?_) (fun hs2_10 => ?_)
 ·
  have hs2_1 := of_decide_eq_true hs2_10
  refine G3 ?_
  refine .mul_i64 J J J J oM (G1 ?_)
  refine .shr_u64 J J J J (7 * k) (by rw [show (7 : Int) * (k : Int) = ((7 * k : Nat) : Int) by omega, wordOf_id _ oM]) oM ?_
  refine G4 ?_
  refine .condNP J (fun hc0 => ?_) (fun hc0 => ?_)
  ·
   refine G10 ?_
   exact ⟨k + 1, ⟨by omega, room_go hk1 oM zA⟩, by omega, Ad (wk1 rfl (wk1 (by rw [Int.natCast_add]; rfl) wk0)) wh0 nD⟩
  refine G11 ?_
  -- ret
  refine G2 ?_
  refine ⟨_, [], Al J J, sP, sP, ?_, rfl⟩
  (have := room_end hk1 oM zA; congr 1; omega)
 have hs2_1 := of_decide_eq_false hs2_10
 refine G10 ?_
 refine .cond_f J J (G11 ?_)
 -- ret
 refine G2 ?_
 refine ⟨_, [], Al J J, sP, sP, ?_, rfl⟩
 (congr 1; omega)
theorem r1_Number (p0 : Option Addr) (n c : Nat) (l : List UInt8) (x : UInt64) (hl : l.length = n) (hp0 : p0 = none → n = 0) (hn : n ≤ 90000) : Meets Tryz.prog 125 [.slice p0 n c, u64 x] [] (fun W => SeesP W p0 (Aa l)) (fun v out => FreshRow v out (Aa (l ++ numB x)) 5 (n + szN x.toNat) 1) := by
 intro W hW
 have hz := Cp x.toNat
 refine Ac Tryz.func125 J 51 Tryz.ntmps125 J (G7 ?_)
 refine .mkRow2 (z := u8 0) [] [] rfl J Y27.h Sz5 Zr5 J J (by intro v hv; cases hv) dE J ?_
 intro q8
 refine G1 ?_
 refine .appendSl (z := u8 0) (by' := 1) (Aa l) J J J J J Y27.h Y27.h Sz5 Zr5 (by unfold By; kernel_rfl) J (fun w h => A6 h J hW) hp0 (by simp [Aa, isCell, u8]) A5 J J oM oM oM (by simp [Aa, hl]) ?_
 intro q10 c10 hq10
 rw [Nat.zero_add n] at hq10 ⊢
 refine G6 ?_
 refine .cV J J J J Body176 (r1_room _) tV (G3 ?_)
 refine .join (ι := Nat × Nat) (fun p => ⟨[(1, u64 x), (5, .slice (some ⟨p.1, 0, none⟩) (n + 1) p.2), (6, i64 ((szN x.toNat : Nat) : Int))], [⟨p.1, Aa (l ++ [headB x]), 5, p.2 * 1⟩]⟩) (fun p => n + 1 ≤ p.2) ?_ ?_
 ·
  refine G6 ?_
  refine .condP J (fun hc0 => ?_) (fun hc0 => ?_)
  ·
   refine G2 ?_
   refine .mkRow (z := u8 0) [u8 (255)] (Aa [255]) J J J Y27.h Sz5 Zr5 J J (by intro v hv; rw [List.mem_singleton.1 hv]; rfl) dE J ?_
   intro q16
   refine .appendSl (z := u8 0) (by' := 1) (Aa [255]) J J J J J Y27.h Y27.h Sz5 Zr5 (by unfold By; kernel_rfl) J (fun w h => SeesP.of (Ar h Bx)) (fun e => by cases e) (by simp [Aa, isCell, u8]) (rem_there A5) J (by simp [Aa, hl]) oM oM oM (by rfl) ?_
   intro q17 c17 hq17
   refine G3 ?_
   exact ⟨(q17, c17), hq17, Ad (wk1 rfl (wk1 rfl (wk1 rfl wk0))) (wh1 (by (rw [headB_9 (x := x) oM]; simp only [Aa, List.map_append]; exact Bx)) wh0) nD⟩
  refine G5 ?_
  refine .shl_u64 J J (show Ag _ _ = some (u64 1) from rfl) J (9 - szN x.toNat) (by rw [show (9 : Int) - ((szN x.toNat : Nat) : Int) = ((9 - szN x.toNat : Nat) : Int) by omega, wordOf_id _ oM]) oM ?_
  refine .sub_u64 J J (show Ag _ _ = some (u64 256) from rfl) J (G4 ?_)
  refine .mul_i64 J J J J oM (G1 ?_)
  refine .shr_u64 J J J J (8 * (szN x.toNat - 1)) (by rw [show (8 : Int) * (((szN x.toNat : Nat) : Int) - 1) = ((8 * (szN x.toNat - 1) : Nat) : Int) by omega, wordOf_id _ oM]) oM ?_
  refine G1 ?_
  refine .add_u8 J J J J ?_
  rw [headB_lt (x := x) oM]
  refine .mkRow (z := u8 0) [u8 (headB x)] (Aa [headB x]) J J J Y27.h Sz5 Zr5 J J (by intro v hv; rw [List.mem_singleton.1 hv]; rfl) dE J ?_
  intro q33
  refine .appendSl (z := u8 0) (by' := 1) (Aa [headB x]) J J J J J Y27.h Y27.h Sz5 Zr5 (by unfold By; kernel_rfl) J (fun w h => SeesP.of (Ar h Bx)) (fun e => by cases e) (by simp [Aa, isCell, u8]) (rem_there A5) J (by simp [Aa, hl]) oM oM oM (by rfl) ?_
  intro q17 c17 hq17
  refine G3 ?_
  exact ⟨(q17, c17), hq17, Ad (wk1 rfl (wk1 rfl (wk1 rfl wk0))) (wh1 (by (simp only [Aa, List.map_append]; exact Bx)) wh0) nD⟩
 intro p hj
 have hjp := hj
 refine G9 ?_
 refine .loop (ι := Nat × Nat × Nat) (fun r => ⟨[(1, u64 x), (5, .slice (some ⟨r.2.1, 0, none⟩) (n + 1 + r.1) r.2.2), (7, i64 (((szN x.toNat : Nat) : Int) - 2 - (r.1 : Int)))], [⟨r.2.1, Aa (l ++ numUp x r.1), 5, r.2.2 * 1⟩]⟩) (fun r => r.1 ≤ szN x.toNat - 1 ∧ n + 1 + r.1 ≤ r.2.2) (fun r => szN x.toNat - 1 - r.1) ((0, p.1, p.2)) ?_ ?_ ?_
 · exact ⟨Nat.zero_le _, hjp⟩
 · exact Ad (wk1 rfl (wk1 rfl (wk1 (by rw [show (((szN x.toNat : Nat) : Int) - 2 - ((0 : Nat) : Int)) = ((szN x.toNat : Nat) : Int) - 2 by omega]; rfl) wk0))) (wh1 (by rw [numUp_zero]; exact Bx) wh0) nD
 rintro r ⟨hp1, hp2⟩
 refine G7 ?_
 refine .condP J (fun hc1 => ?_) (fun hc1 => ?_)
 ·
  have hp3 : r.1 < szN x.toNat - 1 := by omega
  refine G8 ?_
  refine .mul_i64 J J J J oM (G1 ?_)
  refine .shr_u64 J J J J (8 * (szN x.toNat - 2 - r.1)) (by rw [show (8 : Int) * (((szN x.toNat : Nat) : Int) - 2 - (r.1 : Int)) = ((8 * (szN x.toNat - 2 - r.1) : Nat) : Int) by omega, wordOf_id _ oM]) oM ?_
  refine G1 ?_
  refine .mkRow (z := u8 0) [u8 ((Aq x (8 * (szN x.toNat - 2 - r.1))).toUInt8)] (Aa [(Aq x (8 * (szN x.toNat - 2 - r.1))).toUInt8]) J J J Y27.h Sz5 Zr5 J J (by intro v hv; rw [List.mem_singleton.1 hv]; rfl) dE J ?_
  intro q48
  refine .appendSl (z := u8 0) (by' := 1) (Aa [(Aq x (8 * (szN x.toNat - 2 - r.1))).toUInt8]) J J J J J Y27.h Y27.h Sz5 Zr5 (by unfold By; kernel_rfl) J (fun w h => SeesP.of (Ar h Bx)) (fun e => by cases e) (by simp [Aa, isCell, u8]) (rem_there A5) J (by rw [Aa, List.length_map, List.length_append, hl, numUp_length x r.1 oM]; omega) oM oM oM (by rfl) ?_
  intro q2 c2 hq2
  refine G10 ?_
  exact ⟨(r.1 + 1, q2, c2), ⟨by simp only []; omega, by simp only []; omega⟩, by simp only []; omega, Ad (wk1 rfl (wk1 (by rw [show n + 1 + (r.1 + 1) = n + 1 + r.1 + 1 by omega]; rfl) (wk1 (by rw [show (((szN x.toNat : Nat) : Int) - 2 - ((r.1 + 1 : Nat) : Int)) = ((szN x.toNat : Nat) : Int) - 2 - (r.1 : Int) - 1 by omega]; rfl) wk0))) (wh1 (by rw [numUp_step x r.1 oM, ← List.append_assoc]; simp only [Aa, List.map_append]; exact Bx) wh0) nD⟩
 have hp3 : r.1 = szN x.toNat - 1 := by omega
 refine G11 ?_
 -- ret
 refine G2 ?_
 refine ⟨_, [⟨r.2.1, Aa (l ++ numB x), 5, r.2.2 * 1⟩], Al J J, (by intro b hb; rw [List.mem_singleton.1 hb, ← numUp_all, ← hp3]; exact Bx), nodup1, ⟨r.2.1, r.2.2, by rw [show n + 1 + r.1 = n + szN x.toNat by omega], by omega, rfl⟩⟩

open Ed

theorem cmpB_same (x : UInt8) (a b : List UInt8) : cmpB (x :: a) (x :: b) = cmpB a b := by simp [cmpB, Go.Lib.compareBytes]
theorem cmpB_other {x y : UInt8} (h : x ≠ y) (a b : List UInt8) : cmpB (x :: a) (y :: b) = cmpI (x.toNat : Int) (y.toNat : Int) := by
  have h2 : x.toNat ≠ y.toNat := fun e => h (UInt8.toNat_inj.1 e)
  simp only [cmpB, Go.Lib.compareBytes, UInt8.lt_iff_toNat_lt]
  unfold cmpI
  (repeat' split) <;> first | rfl | omega
theorem cmpB_at : ∀ (k : Nat) (a b : List UInt8), a.length = b.length → (∀ j, j < k → a.getD j 0 = b.getD j 0) → k < a.length → a.getD k 0 ≠ b.getD k 0 → cmpB a b = cmpI ((a.getD k 0).toNat : Int) ((b.getD k 0).toNat : Int)
  | k, [], b, hl, hs, hk, hd => absurd hk (Nat.not_lt_zero _)
  | k, x :: a, [], hl, hs, hk, hd => by cases hl
  | 0, x :: a, y :: b, hl, hs, hk, hd => cmpB_other hd a b
  | k + 1, x :: a, y :: b, hl, hs, hk, hd => by
    have e : x = y := hs 0 (Nat.succ_pos k)
    subst e
    rw [cmpB_same]
    exact cmpB_at k a b (Nat.succ.inj hl) (fun j hj => hs (j + 1) (Nat.succ_lt_succ hj)) (Nat.lt_of_succ_lt_succ hk) hd
theorem cmpB_all {a b : List UInt8} (ha : a.length = 32) (hb : b.length = 32) (h : ∀ j, j < 32 → a.getD j 0 = b.getD j 0) : cmpB a b = 0 := by
  refine (cmpB_zero a b).2 (List.ext_getElem oM (fun i h1 h2 => ?_))
  have := h i oM
  simpa [List.getD, h1, h2] using this

end Go.Proofs.YtfcbgdkpagcbbaaGreat
end

section
namespace Go.Proofs.YtfcbgdkpagcbbaaGreat
open Go Hw

open Ed

theorem seesP_tk {w : World} {p : Option Addr} {l : List UInt8} {n : Nat} (h : SeesP w p (Aa l)) : SeesP w p (Aa (l.take n)) := fun j v hj => by
  rw [Aa, List.map_take, List.getElem?_take] at hj
  split at hj
  · exact h j v hj
  · cases hj

theorem r2_StartShort (k s0 i0 : List UInt64) (G : List UInt8) (hk : Hid (kW = k)) (hk80 : k.length = 80) (hs0 : Hid (xorUp 8 = s0)) (hs8 : s0.length = 8) (hG : Hid (shaTag = G)) (hGl : G.length = 11) (hi0 : Hid (allW k s0 G = i0)) (hi8 : i0.length = 8)  : Meets Tryz.prog 82 [] [] (fun _ => True) (fun v out => v = agg (Ae i0) ∧ out = []) := by
 intro W hW
 refine Ac Tryz.func82 J 18 Tryz.ntmps82 J (G2 ?_)
 refine .alloc (cs := (Ae (List.replicate 8 0))) J Zr120 J ?_
 intro n0 hn0 hf0
 refine G4 ?_
 refine .cV J J J J Body129 (r2_Start startW ⟨rfl⟩) tV (.alloc (cs := (Ae (List.replicate 8 0))) J Zr120 J ?_)
 intro n1 hn1 hf1
 refine .sA J J J J zB Sz120 (by (simp [startW_length]; done)) Z0 sP zU ?_
 refine G9 ?_
 refine .loop (ι := Nat) (fun j => ⟨[(0, ptr n0 0), (1, ptr n1 0), (2, i64 (j : Int))], [⟨n1, Ae (xorUp j), 120, 8⟩, ⟨n0, Ae (List.replicate 8 0), 120, 8⟩]⟩) (fun j => j ≤ 8) (fun j => 8 - j) (0) ?_ ?_ ?_
 · omega
 · exact Ao (wk1 rfl (wk1 rfl (wk1 rfl wk0))) (Ab rM (Ab rM Ak))
 rintro j hi
 have hlj := xorUp_length j
 refine G7 ?_
 refine .condP J (fun hc0 => ?_) (fun hc0 => ?_)
 ·
  refine G7 ?_
  refine .i1 J J J J Y120.h Sz24 _ J oM (G1 ?_)
  refine .xor_u64 J J J (show Ag _ _ = some (u64 11936128518282651045) from rfl) (.i1 J J J J Y120.h Sz24 _ J oM (.s1 J J J J J Sz24 Z0 (by (simp [xorUp_length]; omega)) (by exact A8 _ _ _) zU ?_))
  refine G9 ?_
  exact ⟨j + 1, by omega, by omega, Ao (wk1 rfl (wk1 rfl (wk1 rfl wk0))) (Ab rM (Ab rM Ak))⟩
 obtain rfl : j = 8 := by omega
 rw [hs0.out]
 clear hlj
 refine G7 ?_
 refine .lA J J J Y120.h J Sz120 Z0 (by (simp [hs8]; done)) ?_
 refine .mkRow (z := u8 0) [u8 83, u8 72, u8 65, u8 45, u8 53, u8 49, u8 50, u8 47, u8 50, u8 53, u8 54] (Aa shaTag) J J J Y27.h Sz5 Zr5 J J (by intro v hv; simp only [List.mem_cons, List.not_mem_nil, or_false] at hv; rcases hv with rfl | rfl | rfl | rfl | rfl | rfl | rfl | rfl | rfl | rfl | rfl <;> rfl) dE J ?_
 intro q15
 rw [hG.out]
 refine .constB J J J J Y27.h Y5.h Z0 ?_
 refine .cV J J J J Body81 (r2_run s0 hs8 k hk hk80 ⟨some ⟨q15, 0, none⟩, 11, 11⟩ G (by simp [hGl]) (fun e => by cases e) oM) (fun w h => SeesP.of (Ar h Z0)) ?_
 rw [hi0.out]
 refine .sA J J J J zB Sz120 (by (simp [hi8]; done)) Z2 sP (by exact upd2) ?_
 refine G2 ?_
 -- ret
 refine G2 ?_
 refine ⟨_, [], An J J Y120.h J Sz120 Z2 (by simp [hi8]), sP, sP, ?_, rfl⟩
 rfl
theorem r2_Sum (k s0 i0 : List UInt64) (G : List UInt8) (hk : Hid (kW = k)) (hk80 : k.length = 80) (hs0 : Hid (xorUp 8 = s0)) (hs8 : s0.length = 8) (hG : Hid (shaTag = G)) (hGl : G.length = 11) (hi0 : Hid (allW k s0 G = i0)) (hi8 : i0.length = 8) (p : Option Addr) (n c : Nat) (ss : List Sl) (ls : List (List UInt8)) (hss : ss.length = n) (hls : ls.length = n) (hsl : ∀ j, j < n → (ss.getD j Sl.nil).n = (ls.getD j []).length ∧ ((ss.getD j Sl.nil).p = none → (ss.getD j Sl.nil).n = 0)) (F : List UInt8) (hF : ls.flatten = F) (htot : F.length ≤ 90000) (hn : n ≤ 1000000) (r : List UInt64) (hr : Hid (allW k i0 F = r)) (s : List UInt8) (hs : Hid (sumUp r 64 = s))  : Meets Tryz.prog 59 [.slice p n c] [] (fun W => SeesP W p (ss.map Sl.v) ∧ ∀ j, j < n → SeesP W (ss.getD j Sl.nil).p (Aa (ls.getD j []))) (fun v out => v = agg (Aa (s.take 32)) ∧ out = []) := by
 intro W hW
 have hr8 : r.length = 8 := by rw [← hr.out, allW_length]; exact hi8
 have hs64 : s.length = 64 := by rw [← hs.out]; exact Cf r 64
 have hs32 : (s.take 32).length = 32 := by rw [List.length_take, hs64]; rfl
 have hrun := fun (x : Sl) (h1 : x.n = F.length) (h2 : x.p = none → x.n = 0) => r2_run i0 hi8 k hk hk80 x F h1 h2 htot
 rw [hr.out] at hrun
 refine Ac Tryz.func59 J 14 Tryz.ntmps59 J (G2 ?_)
 refine .alloc (cs := (Aa (List.replicate 32 0))) J Zr25 J ?_
 intro n2 hn2 hf2
 refine G4 ?_
 refine .cV J J J J Body82 (r2_StartShort k s0 i0 G hk hk80 hs0 hs8 hG hGl hi0 hi8) tV (G1 ?_)
 refine .call4 J J J J J Body83 (r2_join p n c ss ls hss hls hsl F hF htot hn) (fun w h => ⟨A6 h J hW.1, fun j hj => A6 h J (hW.2 j hj)⟩) ?_
 rintro v7 out7 ⟨s7, rfl, hac7⟩
 refine .cV J J J J Body81 (hrun s7 hac7.num hac7.nil) (fun w h => hac7.see (Lies.of h (by repeat (exact Bf)))) ?_
 refine .cV J J J J Body80 (r2_bytes r hr8 s hs) tV (.alloc (cs := (Aa (List.replicate 64 0))) J Zr28 J ?_)
 intro n3 hn3 hf3
 refine .sA J J J J zE Sz28 (by (simp [hs64]; done)) Z0 sP zU ?_
 refine G4 ?_
 refine .alloc (cs := (Aa (List.replicate 32 0))) J Zr25 J ?_
 intro n4 hn4 hf4
 refine G3 ?_
 refine .draw [(0, 0), (0, 1), (4, 2)] Ap zK (G1 ?_)
 refine .sliceArrHi 32 J J J J J dE dE Y28.h Sz5 (.copyP (Aa (s.take 32)) 32 J J J J J Y27.h Sz5 (fun w h => seesP_tk (SeesP.of (Ar h Z1))) (fun e => by cases e) (by simp [Aa, hs64]) J (List.take_of_length_le (by simp [Aa, hs64])) (Ax _) Z0 (by simp [Aa]) (show upd (Aa (List.replicate 32 0)) 0 (Aa (s.take 32)) = Aa (s.take 32) by simp [upd, Aa, hs64]) zU ?_)
 refine G4 ?_
 refine .lA J J J Y25.h J Sz25 Z0 (by (simp [hs64]; done)) ?_
 refine .sA J J J J zE Sz25 (by (simp [hs64]; done)) mR sP uU ?_
 refine G2 ?_
 -- ret
 refine G2 ?_
 refine ⟨_, [], An J J Y25.h J Sz25 mR (by simp [hs64]), sP, sP, ?_, rfl⟩
 rfl



end Go.Proofs.YtfcbgdkpagcbbaaGreat
end

section
namespace Go.Proofs.YtfcbgdkpagcbbaaGreat
open Go Hw

open Ed

theorem dcheck_2 {D : DB} (h : ¬ D.check = 0) : D.check = 2 := by
  unfold DB.check at h ⊢
  by_cases h1 : D.head = true
  · rw [if_pos h1]
  · rw [if_neg h1] at h ⊢
    by_cases h2 : linksBad D.prev D.ls = true
    · rw [if_pos h2]
    · rw [if_neg h2] at h; exact absurd rfl h

theorem r15_cmp (a b : List UInt8) (ha : a.length = 32) (hb : b.length = 32) : Meets Tryz.prog 28 [agg (Aa a), agg (Aa b)] [] (fun _ => True) (fun v out => v = i64 (cmpB a b) ∧ out = []) := by
 intro W hW
 refine Ac Tryz.func28 J 24 Tryz.ntmps28 J (G3 ?_)
 intro n2 hn2 hf2
 refine G1 ?_
 intro n3 hn3 hf3
 refine G10 ?_
 refine .loop (ι := Nat) (fun k => ⟨[(2, ptr n2 0), (3, ptr n3 0), (5, i64 (k : Int))], [⟨n3, Aa b, 25, (Aa b).length⟩, ⟨n2, Aa a, 25, (Aa a).length⟩]⟩) (fun k => k ≤ 32 ∧ ∀ j, j < k → a.getD j 0 = b.getD j 0) (fun k => 32 - k) (0) ?_ ?_ ?_
 · exact ⟨Nat.zero_le _, fun j hj => absurd hj (Nat.not_lt_zero _)⟩
 · exact Ad (wk1 rfl (wk1 rfl (wk1 rfl wk0))) (wh1 Z0 (wh1 Z1 wh0)) nD
 rintro k ⟨hk, hsm⟩
 refine G7 ?_
 refine .condP J (fun hc0 => ?_) (fun hc0 => ?_)
 ·
  have hk2 : k < 32 := by omega
  refine G6 ?_
  refine .draw [(0, 0), (0, 1), (1, 2), (0, 3), (0, 4), (1, 5), (0, 6)] Ap zK (G1 ?_)
  refine .i1 J J J J Y25.h Sz5 k J oM (G2 ?_)
  refine .i1 J J J J Y25.h Sz5 k J oM (G4 ?_)
  refine .condP J (fun hc1 => ?_) (fun hc1 => ?_)
  ·
   have hek : a.getD k 0 ≠ b.getD k 0 := fun e => by rw [e] at hc1; omega
   refine G5 ?_
   -- ret
   refine G8 ?_
   refine ⟨_, [], Al J J, sP, sP, ?_, rfl⟩
   (rw [cmpB_at k a b oM hsm oM hek]; unfold cmpI; rw [if_pos oM]; done)
  refine G3 ?_
  refine .draw [(0, 0), (0, 1), (1, 2), (0, 3), (0, 4), (1, 5), (0, 6)] Ap zK (G1 ?_)
  refine .i1 J J J J Y25.h Sz5 k J oM (G2 ?_)
  refine .i1 J J J J Y25.h Sz5 k J oM (G4 ?_)
  refine .condP J (fun hc2 => ?_) (fun hc2 => ?_)
  ·
   have hek : a.getD k 0 ≠ b.getD k 0 := fun e => by rw [e] at hc2; omega
   refine G5 ?_
   -- ret
   refine G7 ?_
   refine ⟨_, [], Al J J, sP, sP, ?_, rfl⟩
   (rw [cmpB_at k a b oM hsm oM hek]; unfold cmpI; rw [if_neg oM, if_pos oM]; done)
  have hek : a.getD k 0 = b.getD k 0 := UInt8.toNat_inj.1 oM
  refine G9 ?_
  exact ⟨k + 1, ⟨by omega, fun j hj => by rcases Nat.lt_or_ge j k with h1 | h1; exact hsm j h1; exact (show j = k by omega) ▸ hek⟩, by omega, Ad (wk1 rfl (wk1 rfl (wk1 (by rw [Int.natCast_add]; rfl) wk0))) (wh1 Z0 (wh1 Z1 wh0)) nD⟩
 have hk2 : k = 32 := by omega
 refine G10 ?_
 -- ret
 refine G2 ?_
 refine ⟨_, [], Al J J, sP, sP, ?_, rfl⟩
 (rw [cmpB_all ha hb (fun j hj => hsm j oM)]; done)
theorem r15_check (B : Block) (hB : B.ok) (ls : List (List UInt8)) : Meets Tryz.prog 77 [agg B.cells] [] (fun W => RowsAt W B.fLinks 32 ls) (fun v out => v = i64 (bcheck B ls) ∧ out = []) := by
 intro W hW
 have hcx : B.fLinks.n ≤ maxLen := hW.max
 simp only [maxLen] at hcx
 have hcn := hW.cap
 refine Ac Tryz.func77 J 74 Tryz.ntmps77 J (G3 ?_)
 intro n1 hn1 hf1
 refine G5 ?_
 refine .build (cs := Aa (List.replicate 32 0)) J J J (fun w => by kernel_rfl) ?_
 refine .alloc (cs := (Aa (List.replicate 32 0))) J Zr25 J ?_
 intro n3 hn3 hf3
 refine .sA J J J J zE Sz25 sP Z0 sP zU ?_
 refine G4 ?_
 refine .draw [(0, 0), (1, 1), (0, 2), (0, 3), (0, 4), (1, 5), (1, 6), (0, 7), (0, 8), (1, 9), (0, 10), (0, 11), (0, 12), (0, 13), (0, 14), (1, 15), (0, 16), (0, 17), (0, 18), (0, 19), (0, 20), (1, 21), (0, 22), (0, 23), (0, 24)] Ap zK (G2 ?_)
 refine two (fun r hr k => Tr.gtr J J J J hr k) (fun hs2_20 => ?_) (fun hs2_20 => ?_)
 ·
  have hs2_2 := of_decide_eq_true hs2_20
  refine G24 ?_
  refine .cond_t J J (G5 ?_)
  -- ret
  refine G3 ?_
  refine ⟨_, [], Al J J, sP, sP, ?_, rfl⟩
  exact congrArg i64 (bcheck_head (by unfold bhead bheadB; simp_all)).symm
 have hs2_2 := of_decide_eq_false hs2_20
 refine G2 ?_
 refine .lN (Aa _) J J J Y25.h J Sz25 Z1 (Block.row_fPrev zA) (Block.rl_fPrev zA) ?_
 refine .lA J J J Y25.h J Sz25 Z0 sP ?_
 refine .eql_bytes J J J J Tryz.eqGuardType25 Y25.h Y5.h Sz5 (by (simp [hB.l_fPrev]; done)) sP J ?_
 refine G3 ?_
 refine two (fun r hr k => Tr.neb J J J J Tryz.underlying4 hr k) (fun hs2_110 => ?_) (fun hs2_110 => ?_)
 ·
  have hs2_11 := nd_t hs2_110
  refine G15 ?_
  refine .cond_t J J (G5 ?_)
  -- ret
  refine G3 ?_
  refine ⟨_, [], Al J J, sP, sP, ?_, rfl⟩
  exact congrArg i64 (bcheck_head (by unfold bhead bheadB; simp_all)).symm
 have hs2_11 := nd_f hs2_110
 refine G5 ?_
 refine two (fun r hr k => Tr.gtr J J J J hr k) (fun hs2_170 => ?_) (fun hs2_170 => ?_)
 ·
  have hs2_17 := of_decide_eq_true hs2_170
  refine G9 ?_
  refine .cond_t J J (G5 ?_)
  -- ret
  refine G3 ?_
  refine ⟨_, [], Al J J, sP, sP, ?_, rfl⟩
  exact congrArg i64 (bcheck_head (by unfold bhead bheadB; simp_all)).symm
 have hs2_17 := of_decide_eq_false hs2_170
 refine G9 ?_
 refine .condP J (fun hc0 => ?_) (fun hc0 => ?_)
 ·
  refine G5 ?_
  -- ret
  refine G3 ?_
  refine ⟨_, [], Al J J, sP, sP, ?_, rfl⟩
  exact congrArg i64 (bcheck_head (by unfold bhead bheadB; simp_all)).symm
 have hnb : ¬ bhead B := by unfold bhead bheadB; simp_all
 refine G9 ?_
 refine .loop (ι := Nat) (fun k => ⟨[(1, ptr n1 0), (3, ptr n3 0), (4, i64 (k : Int))], [⟨n3, Aa (List.replicate 32 0), 25, 32⟩, ⟨n1, B.cells, 31, B.cells.length⟩]⟩) (fun k => k ≤ B.fLinks.n ∧ ∀ j, j < k → badAt B.fPrev ls j = false) (fun k => B.fLinks.n - k) (0) ?_ ?_ ?_
 · exact ⟨by omega, fun j hj => by omega⟩
 · exact Ad (wk1 rfl (wk1 rfl (wk1 rfl wk0))) (wh1 Z0 (wh1 Z1 wh0)) nD
 rintro k ⟨hk, hg⟩
 refine G10 ?_
 refine .condP J (fun hc1 => ?_) (fun hc1 => ?_)
 ·
  have hk2 : k < B.fLinks.n := by omega
  have hll := hW.len
  obtain ⟨b, o, hbp, hbs⟩ := hW.see.at (by rw [A7 hW.row]; omega)
  have hr0 : (ls.getD k []).length = 32 := getD_len hW.row oM
  have hr1 : (ls.getD (k - 1) []).length = 32 := getD_len hW.row oM
  refine G2 ?_
  refine .join (ι := Unit) (fun _u => ⟨[(1, ptr n1 0), (3, ptr n3 0), (4, i64 (k : Int))], [⟨n3, Aa (List.replicate 32 0), 25, 32⟩, ⟨n1, B.cells, 31, B.cells.length⟩]⟩) (fun _u => badAt B.fPrev ls k = false) ?_ ?_
  ·
   refine G2 ?_
   refine .draw [(0, 0), (1, 1), (0, 2), (0, 3), (1, 4), (1, 5), (0, 6), (0, 7), (0, 8), (1, 9), (0, 10), (0, 11), (1, 12), (0, 13), (1, 14), (0, 15), (0, 16), (0, 17), (0, 18), (0, 19), (0, 20), (0, 21), (1, 22), (0, 23), (0, 24), (0, 25), (1, 26), (0, 27), (1, 28), (0, 29), (0, 30), (1, 31), (3, 32), (0, 33), (0, 34), (0, 35)] Ap zK (G3 ?_)
   refine .idxSlP 32 J J J hbp J Y26.h Sz25 k J oM (.loadEN (Aa (ls.getD (k) [])) J J J Y25.h J Sz25 sP (by rw [Aa, List.length_map]; exact getD_len hW.row (by rw [hW.len]; omega)) (sees_row hW.row hbs (by rw [hW.len]; omega)) ?_)
   refine .lA J J J Y25.h J Sz25 Z0 sP ?_
   refine two (fun r hr k => Tr.eql_bytes J J J J Tryz.eqGuardType25 Y25.h Y5.h Sz5 zA sP hr k) (fun hs7_60 => ?_) (fun hs7_60 => ?_)
   ·
    have hs7_6 := of_decide_eq_true hs7_60
    refine G31 ?_
    refine .cond_t J J (G5 ?_)
    -- ret
    refine G7 ?_
    refine ⟨_, [], Al J J, sP, sP, ?_, rfl⟩
    exact congrArg i64 (bcheck_bad hnb (linksBad_at (k := k) oM (by unfold badAt; simp_all))).symm
   have hs7_6 := of_decide_eq_false hs7_60
   refine G4 ?_
   refine .idxSlP 32 J J J hbp J Y26.h Sz25 k J oM (.loadEN (Aa (ls.getD (k) [])) J J J Y25.h J Sz25 sP (by rw [Aa, List.length_map]; exact getD_len hW.row (by rw [hW.len]; omega)) (sees_row hW.row hbs (by rw [hW.len]; omega)) ?_)
   refine G1 ?_
   refine .lN (Aa _) J J J Y25.h J Sz25 Z1 (Block.row_fPrev zA) (Block.rl_fPrev zA) ?_
   refine two (fun r hr k => Tr.eql_bytes J J J J Tryz.eqGuardType25 Y25.h Y5.h Sz5 zA (by (simp [hB.l_fPrev]; done)) hr k) (fun hs7_150 => ?_) (fun hs7_150 => ?_)
   ·
    have hs7_15 := of_decide_eq_true hs7_150
    refine G22 ?_
    refine .cond_t J J (G5 ?_)
    -- ret
    refine G7 ?_
    refine ⟨_, [], Al J J, sP, sP, ?_, rfl⟩
    exact congrArg i64 (bcheck_bad hnb (linksBad_at (k := k) oM (by unfold badAt; simp_all))).symm
   have hs7_15 := of_decide_eq_false hs7_150
   refine G3 ?_
   refine two (fun r hr k => Tr.gtr J J J J hr k) (fun hs7_190 => ?_) (fun hs7_190 => ?_)
   ·
    have hs7_19 := of_decide_eq_true hs7_190
    refine G5 ?_
    refine .idxSlP 32 J J J hbp J Y26.h Sz25 (k - 1) oM oM (.loadEN (Aa (ls.getD (k - 1) [])) J J J Y25.h J Sz25 sP (by rw [Aa, List.length_map]; exact getD_len hW.row (by rw [hW.len]; omega)) (sees_row hW.row hbs (by rw [hW.len]; omega)) ?_)
    refine G3 ?_
    refine .idxSlP 32 J J J hbp J Y26.h Sz25 k J oM (.loadEN (Aa (ls.getD (k) [])) J J J Y25.h J Sz25 sP (by rw [Aa, List.length_map]; exact getD_len hW.row (by rw [hW.len]; omega)) (sees_row hW.row hbs (by rw [hW.len]; omega)) ?_)
    refine .cV J J J J Body28 (r15_cmp _ _ hr1 hr0) tV (G5 ?_)
    refine .condP J (fun hc2 => ?_) (fun hc2 => ?_)
    ·
     refine G5 ?_
     -- ret
     refine G7 ?_
     refine ⟨_, [], Al J J, sP, sP, ?_, rfl⟩
     exact congrArg i64 (bcheck_bad hnb (linksBad_at (k := k) oM (by unfold badAt; simp_all))).symm
    refine G3 ?_
    refine ⟨(), by unfold badAt; simp_all, Ad (wk1 J (wk1 J (wk1 J wk0))) (wh1 Z0 (wh1 Z1 wh0)) nD⟩
   have hs7_19 := of_decide_eq_false hs7_190
   refine G18 ?_
   refine .cond_f J J (G3 ?_)
   refine ⟨(), by unfold badAt; simp_all, Ad (wk1 J (wk1 J (wk1 J wk0))) (wh1 Z0 (wh1 Z1 wh0)) nD⟩
  intro _u hj
  have hgk := hj
  refine G6 ?_
  exact ⟨k + 1, ⟨by omega, fun j hj => by rcases Nat.lt_succ_iff_lt_or_eq.1 hj with h | rfl; exact hg j h; exact hgk⟩, by omega, Ad (wk1 rfl (wk1 rfl (wk1 (by rw [Int.natCast_add]; rfl) wk0))) (wh1 Z0 (wh1 Z1 wh0)) nD⟩
 obtain rfl : k = B.fLinks.n := by omega
 refine G10 ?_
 -- ret
 refine G2 ?_
 refine ⟨_, [], Al J J, sP, sP, ?_, rfl⟩
 exact congrArg i64 (bcheck_ok hnb (linksBad_not (by rw [hW.len]; exact hg))).symm
theorem r15_Check (B : Block) (D : DB) : Meets Tryz.prog 77 [agg B.cells] [] (fun W => BlockIs W B D) (fun v out => v = i64 D.check ∧ out = []) :=
  fun W hW => by rw [← hW.check]; exact r15_check B hW.ok D.ls W hW.ls

theorem r1_Block (p r : Option Addr) (n c m d : Nat) (l ys : List UInt8) (hl : l.length = n) (hy : ys.length = m) (hp : p = none → n = 0) (hr : r = none → m = 0) (hn : n ≤ 40000) (hm : m ≤ 40000) : Meets Tryz.prog 126 [.slice p n c, .slice r m d] [] (fun W => SeesP W p (Aa l) ∧ SeesP W r (Aa ys)) (fun v out => FreshRow v out (Aa (l ++ numB (UInt64.ofNat m) ++ ys)) 5 (n + szN m + m) 1) := by
 intro W hW
 have hz := Cp m
 have hw : wordOf (m : Int) = UInt64.ofNat m := by simp only [wordOf]; congr 1; omega
 have hmn : (UInt64.ofNat m).toNat = m := by rw [UInt64.toNat_ofNat', Nat.mod_eq_of_lt oM]
 refine Ac Tryz.func126 J 12 Tryz.ntmps126 J (G11 ?_)
 rw [hw]
 refine .call4 J J J J J Body125 (r1_Number p n c l (UInt64.ofNat m) hl hp oM) (fun w h => A6 h J hW.1) ?_
 rintro v9 out9 ⟨q9, c9, rfl, hc9, rfl⟩
 rw [hmn] at hc9 ⊢
 refine G1 ?_
 refine .appendSl (z := u8 0) (by' := 1) (Aa ys) J J J J J Y27.h Y27.h Sz5 Zr5 (by unfold By; kernel_rfl) J (fun w h => A6 h J hW.2) hr (Ax _) rM J (by rw [Aa, List.length_map, List.length_append, Bk, hl, hmn, Nat.mul_one]) oM oM oM (by rw [Aa, List.length_map, hy, Nat.mul_one]) ?_
 intro q11 c11 hq11
 rw [← bytesV_app]
 refine G3 ?_
 -- ret
 refine G2 ?_
 refine Az (out := (⟨q11, Aa (l ++ numB (UInt64.ofNat m) ++ ys), 5, c11 * 1⟩ :: [])) (Al J J) (Ab rM Ak) ?_
 exact ⟨q11, c11, rfl, hq11, rfl⟩

theorem btag_length : btag.length = 5 := rfl

theorem r15_Text (B : Block) (D : DB) (hB : B.ok) (h1 : D.ls.length ≤ 40) (h2 : D.ds.length ≤ 2000) : Meets Tryz.prog 79 [agg B.cells] [] (fun W => BlockIs W B D) (fun v out => FreshRow v out (Aa (btxt D)) 5 (btxt D).length 1) := by
 intro W hW
 have hbs0 := DB.body_small hW.dok h1 h2
 have e1 := hW.ls.len
 have e2 := hW.ds.len
 have hz1 := Cp B.fSeq.toNat
 have hz2 := Cp (UInt64.ofNat B.fLinks.n).toNat
 have hz3 := Cp B.fData.n
 have hw2 := word_nat (n := B.fLinks.n) oM
 have hrow := hW.ls.row
 refine Ac Tryz.func79 J 41 Tryz.ntmps79 J (G3 ?_)
 intro n1 hn1 hf1
 refine G5 ?_
 refine .mkRow (z := u8 0) [u8 98, u8 108, u8 111, u8 99, u8 107] (Aa btag) J J J Y27.h Sz5 Zr5 J J (by intro v hv; simp only [List.mem_cons, List.not_mem_nil, or_false] at hv; rcases hv with rfl | rfl | rfl | rfl | rfl <;> rfl) dE J ?_
 intro q5
 refine .constB J J J J Y27.h Y5.h Z0 ?_
 refine G2 ?_
 refine .appendSl (z := u8 0) (by' := 1) (Aa B.fWriter) J J J J J Y27.h Y27.h Sz5 Zr5 (by unfold By; kernel_rfl) J (fun w h => SeesP.of (sees_part h Z1 (Block.see_fWriter hB))) (fun e => by cases e) (Ax _) rM J J dE dE dE (by simp [hB.l_fWriter]) ?_
 intro q9 c9 hq9
 rw [← bytesV_app]
 refine G4 ?_
 refine .draw [(0, 0), (0, 1), (1, 2), (0, 4), (0, 5), (4, 3), (4, 6), (0, 7)] Ap zK (G5 ?_)
 refine .call4 J J J J J Body125 (r1_Number (some ⟨q9, 0, none⟩) (5 + 32) c9 (btag ++ B.fWriter) (B.fSeq) (by simp only [List.length_append, Bk, hB.l_fWriter, hB.l_fPrev, btag_length]) (fun e => by cases e) oM) (fun w h => SeesP.of (Ar (cs := Aa (btag ++ B.fWriter)) h Z0)) ?_
 rintro v13 out13 ⟨q13, c13, rfl, hc13, rfl⟩
 refine .appendSl (z := u8 0) (by' := 1) (Aa B.fPrev) J J J J J Y27.h Y27.h Sz5 Zr5 (by unfold By; kernel_rfl) J (fun w h => SeesP.of (sees_part h Z2 (Block.see_fPrev hB))) (fun e => by cases e) (Ax _) rM J (by rw [Aa, List.length_map, Nat.mul_one]; simp only [List.length_append, Bk, hB.l_fWriter, hB.l_fPrev, btag_length]) oM oM oM (by simp [hB.l_fPrev]) ?_
 intro q16 c16 hq16
 rw [← bytesV_app]
 refine G10 ?_
 rw [hw2]
 refine .call4 J J J J J Body125 (r1_Number (some ⟨q16, 0, none⟩) (5 + 32 + szN B.fSeq.toNat + 32) c16 (btag ++ B.fWriter ++ numB B.fSeq ++ B.fPrev) (UInt64.ofNat B.fLinks.n) (by simp only [List.length_append, Bk, hB.l_fWriter, hB.l_fPrev, btag_length]) (fun e => by cases e) oM) (fun w h => SeesP.of (Ar (cs := Aa (btag ++ B.fWriter ++ numB B.fSeq ++ B.fPrev)) h Z0)) ?_
 rintro v22 out22 ⟨q22, c22, rfl, hc22, rfl⟩
 refine G10 ?_
 refine .loop (ι := Nat × Nat × Nat) (fun p => ⟨[(1, ptr n1 0), (3, .slice (some ⟨p.2.1, 0, none⟩) (5 + 32 + szN B.fSeq.toNat + 32 + szN (UInt64.ofNat B.fLinks.n).toNat + 32 * p.1) p.2.2), (4, i64 (p.1 : Int))], [⟨p.2.1, Aa (btag ++ B.fWriter ++ numB B.fSeq ++ B.fPrev ++ numB (UInt64.ofNat B.fLinks.n) ++ (D.ls.take p.1).flatten), 5, p.2.2 * 1⟩, ⟨n1, B.cells, 31, B.cells.length⟩]⟩) (fun p => p.1 ≤ B.fLinks.n ∧ 5 + 32 + szN B.fSeq.toNat + 32 + szN (UInt64.ofNat B.fLinks.n).toNat + 32 * p.1 ≤ p.2.2) (fun p => B.fLinks.n - p.1) ((0, q22, c22)) ?_ ?_ ?_
 · exact ⟨Nat.zero_le _, by simp only []; omega⟩
 · exact Ao (wk1 rfl (wk1 rfl (wk1 rfl wk0))) (pm_consE rM (by simp only [List.take_zero, List.flatten_nil, List.append_nil]) rfl (Ab rM Ak))
 rintro p ⟨hp1, hp2⟩
 refine G10 ?_
 refine .condP J (fun hc0 => ?_) (fun hc0 => ?_)
 ·
  have hp3 : p.1 < B.fLinks.n := by omega
  obtain ⟨b, o, hbp, hbs⟩ := hW.ls.see.at (by rw [A7 hrow]; omega)
  have hrk : (D.ls.getD p.1 []).length = 32 := getD_len hrow oM
  refine G9 ?_
  refine .idxSlP 32 J J J hbp J Y26.h Sz25 p.1 J oM (G1 ?_)
  refine .appendSl (z := u8 0) (by' := 1) (Aa (D.ls.getD p.1 [])) J J J J J Y27.h Y27.h Sz5 Zr5 (by unfold By; kernel_rfl) J (fun w h => SeesP.of (sees_ext h sP (sees_row hrow hbs oM))) (fun e => by cases e) (Ax _) rM J (by simp only [Aa, List.length_map, List.length_append, Bk, hB.l_fWriter, hB.l_fPrev, btag_length, Cj hrow (show p.1 ≤ D.ls.length by omega)]; omega) oM oM oM (by rw [Aa, List.length_map, hrk]) ?_
  intro q36 c36 hq36
  rw [← bytesV_app]
  refine G10 ?_
  exact ⟨(p.1 + 1, q36, c36), ⟨by simp only []; omega, by simp only []; omega⟩, by simp only []; omega, Ao (wk1 rfl (wk1 (by rw [show 5 + 32 + szN B.fSeq.toNat + 32 + szN (UInt64.ofNat B.fLinks.n).toNat + 32 * (p.1 + 1) = 5 + 32 + szN B.fSeq.toNat + 32 + szN (UInt64.ofNat B.fLinks.n).toNat + 32 * p.1 + 32 by omega]; rfl) (wk1 (by rw [Int.natCast_add]; rfl) wk0))) (pm_consE rM (by rw [flatten_take_step oM, ← List.append_assoc]) rfl (Ab rM Ak))⟩
 have hp3 : p.1 = B.fLinks.n := by omega
 refine G10 ?_
 refine .call4 J J J J J Body126 (r1_Block (some ⟨p.2.1, 0, none⟩) B.fData.p (5 + 32 + szN B.fSeq.toNat + 32 + szN (UInt64.ofNat B.fLinks.n).toNat + 32 * p.1) p.2.2 B.fData.n B.fData.c (btag ++ B.fWriter ++ numB B.fSeq ++ B.fPrev ++ numB (UInt64.ofNat B.fLinks.n) ++ (D.ls.take p.1).flatten) D.ds (by simp only [List.length_append, Bk, hB.l_fWriter, hB.l_fPrev, btag_length, Cj hrow (show p.1 ≤ D.ls.length by omega)]; omega) e2 (fun e => by cases e) (fun e => by have h3 := hW.ds.nil e; have h4 := hW.ds.cap; omega) oM oM) (fun w h => ⟨SeesP.of (Ar h Z0), A6 h J hW.ds.see⟩) ?_
 rintro v40 out40 ⟨q40, c40, rfl, hc40, rfl⟩
 refine G3 ?_
 -- ret
 refine G2 ?_
 refine Az (out := (⟨q40, Aa (btag ++ B.fWriter ++ numB B.fSeq ++ B.fPrev ++ numB (UInt64.ofNat B.fLinks.n) ++ (D.ls.take p.1).flatten ++ numB (UInt64.ofNat B.fData.n) ++ D.ds), 5, c40 * 1⟩ :: [])) (Al J J) (Ab rM Ak) ?_
 have hfin : btag ++ B.fWriter ++ numB B.fSeq ++ B.fPrev ++ numB (UInt64.ofNat B.fLinks.n) ++ (D.ls.take p.1).flatten ++ numB (UInt64.ofNat B.fData.n) ++ D.ds = btxt D := by rw [btxt, DB.body, ← hW.w, ← hW.seq, ← hW.prev, e1, e2, List.take_of_length_le oM]; simp only [List.append_assoc]
 have hlen : 5 + 32 + szN B.fSeq.toNat + 32 + szN (UInt64.ofNat B.fLinks.n).toNat + 32 * p.1 + szN B.fData.n + B.fData.n = (btxt D).length := by rw [← hfin]; simp only [List.length_append, Bk, hB.l_fWriter, hB.l_fPrev, btag_length, Cj hrow (show p.1 ≤ D.ls.length by omega), e2, ofNat_nat (show B.fData.n ≤ 1000000 by omega)]; omega
 rw [hfin]
 exact ⟨q40, c40, by rw [hlen], by omega, rfl⟩
end Go.Proofs.YtfcbgdkpagcbbaaGreat
end

section
namespace Go.Proofs.YtfcbgdkpagcbbaaGreat
open Go Hw

open Ed

theorem r15_Copy (B : Block) (D : DB) (hB : B.ok) (hn : D.ls.length ≤ 500000) (hd : D.ds.length ≤ 500000) : Meets Tryz.prog 75 [agg B.cells] [] (fun W => BlockIs W B D) (BlkV D) := by
 intro W hW
 have e1 := hW.ls.len
 have e2 := hW.ds.len
 refine Ac Tryz.func75 J 14 Tryz.ntmps75 J (G3 ?_)
 intro n1 hn1 hf1
 refine .alloc (cs := Block.zero.cells) J Block.zr J ?_
 intro n2 hn2 hf2
 refine G3 ?_
 refine .draw [(0, 1), (1, 2), (0, 5), (1, 6), (2, 0), (3, 3), (0, 8), (2, 4), (3, 7), (4, 9), (0, 10), (4, 11)] Ap zK (G4 ?_)
 refine .mkRow2 (z := agg (Aa (List.replicate 32 0))) [] [] rfl J Y26.h Sz25 Zr25 J J (by intro v hv; cases hv) dE J ?_
 intro q3
 refine .appendE (z := agg (Aa (List.replicate 32 0))) (by' := 32) (A1 D.ls) J J J J Y26.h Y26.h Sz25 Zr25 (by unfold By; kernel_rfl) J (fun w h => A6 h J hW.ls.see) (fun e => by have := hW.ls.nil e; have := hW.ls.cap; omega) (flatB_cell _) oM oM (by rw [A7 hW.ls.row, e1]) ?_
 intro s6 bl6 hr6
 refine G1 ?_
 refine .mkRow2 (z := u8 0) [] [] rfl J Y27.h Sz5 Zr5 J J (by intro v hv; cases hv) dE J ?_
 intro q7
 refine .appendE (z := u8 0) (by' := 1) (Aa D.ds) J J J J Y27.h Y27.h Sz5 Zr5 (by unfold By; kernel_rfl) J (fun w h => A6 h J hW.ds.see) (fun e => by have := hW.ds.nil e; have := hW.ds.cap; omega) (Ax _) oM oM (by rw [Aa, List.length_map, e2, Nat.mul_one]) ?_
 intro s10 bl10 hr10
 refine .s1 J J J J J Sz26 mR (by rw [Block.length zA]; decide) (by exact Block.set_fLinks zA _) uU ?_
 refine G1 ?_
 refine .s1 J J J J J Sz27 mR (by rw [Block.length (by exact ⟨hB.l_fWriter, hB.l_fPrev, hB.l_fSig⟩)]; decide) (by exact Block.set_fData (by exact ⟨hB.l_fWriter, hB.l_fPrev, hB.l_fSig⟩) _) uU ?_
 refine G4 ?_
 refine .lA J J J Y31.h J Sz31 mR (Block.length (by exact ⟨hB.l_fWriter, hB.l_fPrev, hB.l_fSig⟩)) ?_
 refine .sA J J J J (Block.isCell (by exact ⟨hB.l_fWriter, hB.l_fPrev, hB.l_fSig⟩)) Sz31 (Block.length (by exact ⟨hB.l_fWriter, hB.l_fPrev, hB.l_fSig⟩)) mR (Block.length (by exact Block.zero_ok)) uU ?_
 refine G2 ?_
 -- ret
 refine G2 ?_
 refine Az (out := (bl10 ++ (bl6 ++ []))) (An J J Y31.h J Sz31 mR (by exact Block.length (by exact ⟨hB.l_fWriter, hB.l_fPrev, hB.l_fSig⟩))) (Af sG (Af sG Ak)) ?_
 have g6 := hr6.num
 have g10 := hr10.num
 exact ⟨({ B with fLinks := s6, fData := s10 } : Block), ⟨⟨hB.l_fWriter, hB.l_fPrev, hB.l_fSig⟩, hW.w, hW.seq, hW.prev, hW.sg, g6.trans e1.symm, g10.trans e2.symm⟩, rfl, fun W2 h2 => ⟨⟨hB.l_fWriter, hB.l_fPrev, hB.l_fSig⟩, hW.w, hW.seq, hW.prev, ⟨e1.trans g6.symm, hW.ls.row, hr6.cap, hr6.see W2 (h2.sub (in_seg Bf)), by show s6.n ≤ maxLen; rw [g6]; unfold maxLen; omega, hr6.nil⟩, ⟨e2.trans g10.symm, hr10.cap, hr10.see W2 (h2.sub Bf), by show s10.n ≤ maxLen; rw [g10]; unfold maxLen; omega, hr10.nil⟩, hW.sg⟩⟩

theorem with_w' {W : World} {B : Block} {D : DB} (h : BlockIs W B D) {K : List UInt8} (hK : K.length = 32) : BlockIs W { B with fWriter := K } { D with w := K } := ⟨⟨hK, h.ok.l_fPrev, h.ok.l_fSig⟩, rfl, h.seq, h.prev, h.ls, h.ds, h.sg⟩
theorem with_wg' {W : World} {B : Block} {D : DB} (h : BlockIs W B D) {K G : List UInt8} (hK : K.length = 32) (hG : G.length = 64) : BlockIs W { B with fWriter := K, fSig := G } { D with w := K, sg := G } := ⟨⟨hK, h.ok.l_fPrev, hG⟩, rfl, h.seq, h.prev, h.ls, h.ds, rfl⟩

theorem r15_Sign (B : Block) (D : DB) (hB : B.ok) (hn : D.ls.length ≤ 40) (hd : D.ds.length ≤ 2000) (seed : List UInt8) (h32 : seed.length = 32) (s s1 s2 : List UInt8) (hs : Hid (Bz seed = s)) (hs1 : Hid (Bz (s.drop 32 ++ btxt ({ D with w := sgK s } : DB)) = s1)) (hs2 : Hid (Bz (sgF s1 ++ (sgK s ++ btxt ({ D with w := sgK s } : DB))) = s2)) (hc : D.check = 0) : Meets Tryz.prog 56 [agg (Aa seed), agg B.cells] [] (fun W => BlockIs W B D) (BlkR 0 (bsg D (sgK s) (sgF s1 ++ sgS s s1 s2))) := by
 intro W hW
 have lG : (sgF s1 ++ sgS s s1 s2).length = 64 := by rw [List.length_append, sgF_length, sgS_length]
 have lK := sgK_length s
 have cK := r6_Key seed h32 s hs
 have e1 := hW.ls.len
 have e2 := hW.ds.len
 have hDk : ({ D with w := sgK s } : DB).ok := ⟨lK, hW.dok.prev, hW.dok.sg, hW.dok.ls⟩
 have hvn : (btxt { D with w := sgK s }).length ≤ 4005 := DB.body_small hDk oM oM
 have cS := fun (x : Sl) => r6_Sign seed h32 x (btxt { D with w := sgK s }) oM s s1 s2 hs hs1 hs2
 clear hs hs1 hs2
 revert lG lK cK hDk hvn cS
 generalize sgF s1 ++ sgS s s1 s2 = G
 generalize sgK s = K
 intro lG lK cK hDk hvn cS
 refine Ac Tryz.func56 J 21 Tryz.ntmps56 J (G3 ?_)
 intro n2 hn2 hf2
 refine G1 ?_
 intro n3 hn3 hf3
 refine .alloc (cs := Block.zero.cells) J Block.zr J ?_
 intro n4 hn4 hf4
 refine G6 ?_
 refine .call4 J J J J J Body75 (r15_Copy B D hB oM oM) (fun w h => hW.ext h J) ?_
 rintro v7 out7 ⟨B7, h7, rfl, ho7⟩
 have okX : ({ B7 with fWriter := K } : Block).ok := ⟨lK, h7.ok.l_fPrev, h7.ok.l_fSig⟩
 have okG : ({ B7 with fWriter := K, fSig := G } : Block).ok := ⟨lK, h7.ok.l_fPrev, lG⟩
 have cC := r15_Check ({ B7 with fWriter := K } : Block) { D with w := K }
 rw [show ({ D with w := K } : DB).check = D.check from rfl] at cC
 have cT := r15_Text ({ B7 with fWriter := K } : Block) { D with w := K } okX hn hd
 try simp only [List.append_assoc, List.cons_append, List.nil_append]
 refine .sA J J J J (Block.isCell (by exact h7.ok)) Sz31 (Block.length (by exact h7.ok)) mR (Block.length zA) uU ?_
 refine G4 ?_
 refine .lA J J J Y22.h J Sz22 mR (by (simp [h32]; done)) ?_
 refine .cV J J J J Body76 (cK) tV (G1 ?_)
 refine .storeN (Aa _) J J J J J zE Sz23 (by simp [lK]) mR (by rw [Block.length (by exact h7.ok)]; simp [lK]) (Block.upd_fWriter (by exact h7.ok) _ (by simp [lK])) uU ?_
 refine G6 ?_
 refine .cV J J J J Body77 (cC) (fun w h => with_w' (ho7 w (Lies.of h (by repeat (exact Bf)))) lK) ?_
 refine G3 ?_
 refine .cond_f J (by simpa using hc) ?_
 refine G3 ?_
 refine .draw [(1, 0), (1, 1), (3, 2), (3, 3), (0, 4), (4, 5)] Ap zK (.lA J J J Y22.h J Sz22 mR (by (simp [h32]; done)) ?_)
 refine G1 ?_
 refine .call J J J J Body79 (cT) (FreshRow.loose _ _ _ _) (fun w h => with_w' (ho7 w (Lies.of h (by repeat (exact Bf)))) lK) ?_
 rintro v17 out17 ⟨q17, c17, rfl, hc17, rfl⟩
 refine .cV J J J J Body78 (cS ⟨some ⟨q17, 0, none⟩, _, c17⟩) (fun w h => own_btxt (SeesP.of (Ar h Z0)) hc17 hvn) ?_
 refine G1 ?_
 refine .storeN (Aa _) J J J J J zE Sz29 (by simp [lG]) mR (by rw [Block.length zA]; simp [lG]) (Block.upd_fSig zA _ (by simp [lG])) uU ?_
 refine G9 ?_
 -- ret
 refine G2 ?_
 refine Az (out := (out7 ++ [])) (Bj J J J Y31.h J Sz31 mR (by exact Block.length zA)) (Af sG Ak) ?_
 rw [List.append_nil]
 exact ⟨({ B7 with fWriter := K, fSig := G } : Block), ⟨okG, rfl, h7.seq, h7.prev, rfl, h7.ln, h7.dn⟩, rfl, fun W2 h2 => with_wg' (ho7 W2 h2) lK lG⟩

def ByR (e : Int) (l : List UInt8) (v : Value) (out : List Blk) : Prop := ∃ s : Sl, v = .tuple #[s.v, i64 e] ∧ s.n = l.length ∧ (s.p = none → s.n = 0) ∧ ∀ W2, Lies out W2 → SeesP W2 s.p (Aa l)
theorem body_pos (D : DB) : 0 < D.body.length := by
  have := Cp D.seq.toNat
  simp only [DB.body, List.length_append, Bk]
  omega

theorem text_off {q c : Nat} {D : DB} {E : TypeId} (hc : (btxt D).length ≤ c) (hl : (btxt D).length = 5 + D.body.length) : AccO ⟨some ⟨q, if c = 5 then 0 else 0 + 5 * 1, none⟩, (btxt D).length - 5, c - 5⟩ [⟨q, Aa (btxt D), E, c * 1⟩] (Aa D.body) E ((btxt D).length - 5) := by
  refine .inr ⟨q, if c = 5 then 0 else 0 + 5 * 1, c - 5, c * 1, Aa (if c = 5 then [] else btag), Aa [], rfl, by omega, by rw [Aa, List.length_map]; omega, ?_, .inl rfl, ?_, ?_⟩
  · split <;> rfl
  · split <;> omega
  · by_cases h5 : c = 5
    · exfalso; have hb : 0 < D.body.length := body_pos D; omega
    · rw [if_neg h5, ← bytesV_app, ← bytesV_app, List.append_nil]; rfl

theorem r15_Bytes (B : Block) (D : DB) (hB : B.ok) : Meets Tryz.prog 58 [agg B.cells] [] (fun W => BlockIs W B D) (ByR D.check (bytesR D)) := by
 intro W hW
 have hsl := hB.l_fSig
 have hsg := hW.sg
 refine Ac Tryz.func58 J 13 Tryz.ntmps58 J (G3 ?_)
 intro n1 hn1 hf1
 refine G8 ?_
 refine .cV J J J J Body77 (r15_Check B D) (fun w h => hW.ext h J) (G3 ?_)
 refine .condNP J (fun hc0 => ?_) (fun hc0 => ?_)
 ·
  have hq0 : ¬ D.check = 0 := by omega
  refine G6 ?_
  -- ret
  refine G3 ?_
  refine Az (out := []) (res_tmp2 J J J) Ak ?_
  rw [dcheck_2 hq0]
  exact ⟨Sl.nil, rfl, by rw [show bytesR D = [] from if_neg hq0]; rfl, fun _ => rfl, fun W2 _ => by rw [show bytesR D = [] from if_neg hq0]; exact SeesP.nil⟩
 have hq0 : D.check = 0 := by omega
 obtain ⟨h1, h2⟩ := D.head_small hq0
 have hvn : (btxt D).length ≤ 4005 := DB.body_small hW.dok oM oM
 have hbl5 : (btxt D).length = 5 + D.body.length := by rw [btxt, List.length_append]; rfl
 refine G3 ?_
 refine .draw [(1, 0), (0, 3), (0, 4), (3, 1), (0, 2), (4, 5), (0, 6), (0, 7)] Ap zK (G3 ?_)
 refine .call J J J J Body79 (r15_Text B D hB oM oM) (FreshRow.loose _ _ _ _) (fun w h => hW.ext h J) ?_
 rintro v8 out8 ⟨q8, c8, rfl, hc8, rfl⟩
 refine .sliceLoN 5 J J J J J oM oM Y27.h Sz5 (.appendO (z := u8 0) (by' := 1) (Aa B.fSig) J J J J J Y27.h Y27.h Sz5 Zr5 (by unfold By; kernel_rfl) J (text_off hc8 hbl5) sG (fun w h => SeesP.of (sees_part h Z1 (Block.see_fSig hB))) dE (fun e => by cases e) (Ax _) oM oM (by simp [hsl]) ?_)
 intro s12 bl12 hac12
 refine G4 ?_
 -- ret
 refine G2 ?_
 refine Az (out := (bl12 ++ [])) (res_tmp2 J J J) (Af sG Ak) ?_
 rw [hq0, show bytesR D = D.body ++ D.sg from if_pos hq0, ← hsg, List.append_nil]
 refine ⟨s12, rfl, by rw [hac12.num, List.length_append, hsl]; omega, fun e => by have := hac12.nilc e; have := hac12.cap; omega, fun W2 h2 => ?_⟩
 rw [bytesV_app]
 exact hac12.see h2
theorem r15_Name (B : Block) (D : DB) (hB : B.ok) : Meets Tryz.prog 26 [agg B.cells] [] (fun W => BlockIs W B D) (fun v out => v = agg (Aa (Bd D)) ∧ out = []) := by
 intro W hW
 have hvl : (bytesR D).length ≤ 5000 := by
  unfold bytesR
  split
  · rename_i h9; exact D.bytes_small h9 hW.dok
  · exact Nat.zero_le _
 obtain ⟨k, hk⟩ : ∃ k, Hid (kW = k) := ⟨_, ⟨rfl⟩⟩
 obtain ⟨s0, hs0⟩ : ∃ s0, Hid (xorUp 8 = s0) := ⟨_, ⟨rfl⟩⟩
 obtain ⟨G, hG⟩ : ∃ G, Hid (shaTag = G) := ⟨_, ⟨rfl⟩⟩
 obtain ⟨i0, hi0⟩ : ∃ i0, Hid (allW k s0 G = i0) := ⟨_, ⟨rfl⟩⟩
 have hk80 : k.length = 80 := by rw [← hk.out]; rfl
 have hs8 : s0.length = 8 := by rw [← hs0.out]; exact xorUp_length 8
 have hGl : G.length = 11 := by rw [← hG.out]; rfl
 have hi8 : i0.length = 8 := by rw [← hi0.out, allW_length]; exact hs8
 obtain ⟨r, hr⟩ : ∃ r, Hid (allW k i0 (bytesR D) = r) := ⟨_, ⟨rfl⟩⟩
 obtain ⟨s, hs⟩ : ∃ s, Hid (sumUp r 64 = s) := ⟨_, ⟨rfl⟩⟩
 have hsd : Hid (s.take 32 = sha256 (bytesR D)) := ⟨by rw [← hs.out, ← hr.out, ← hi0.out, ← hG.out, ← hs0.out, ← hk.out]; rfl⟩
 have hs64 : s.length = 64 := by rw [← hs.out]; exact Cf r 64
 have hs32 : (s.take 32).length = 32 := by rw [List.length_take, hs64]; rfl
 refine Ac Tryz.func26 J 16 Tryz.ntmps26 J (G3 ?_)
 intro n1 hn1 hf1
 refine .alloc (cs := (Aa (List.replicate 32 0))) J Zr25 J ?_
 intro n2 hn2 hf2
 refine G5 ?_
 refine .call4 J J J J J Body58 (r15_Bytes B D hB) (fun w h => hW.ext h J) ?_
 rintro v7 out7 ⟨s7, rfl, hn7, hp7, hs7⟩
 refine G14 ?_
 refine .condNP J (fun hc0 => ?_) (fun hc0 => ?_)
 ·
  have hq0 : ¬ D.check = 0 := by omega
  refine G2 ?_
  refine .build (cs := Aa (List.replicate 32 0)) J J J (fun w => by kernel_rfl) ?_
  refine .sA J J J J zE Sz25 sP mR sP (by (repeat (first | exact upd0 | apply Upd.seg))) ?_
  refine G2 ?_
  -- ret
  refine G3 ?_
  refine ⟨_, [], An J J Y25.h J Sz25 mR sP, sP, sP, ?_, rfl⟩
  (rw [Bd, if_neg hq0]; done)
 have hq0 : D.check = 0 := by omega
 refine G5 ?_
 refine .mkRow (z := .slice none 0 0) [s7.v] [s7.v] rfl J J Y118.h Sz27 Zr27 J J (by intro v hv; rw [List.mem_singleton.1 hv]; rfl) dE J ?_
 intro q14
 refine .cV J J J J Body59 (r2_Sum k s0 i0 G hk hk80 hs0 hs8 hG hGl hi0 hi8 (some ⟨q14, 0, none⟩) 1 1 [s7] [bytesR D] rfl J (fun j hj => (by obtain rfl : j = 0 := oM; exact ⟨by simp [hn7], hp7⟩)) (bytesR D) sP oM dE r hr s hs) (fun w h => ⟨SeesP.of (Ar h Z0), fun j hj => (by obtain rfl : j = 0 := oM; exact hs7 w (Lies.of h (by repeat (first | exact Bf | refine Bp ?_))))⟩) ?_
 refine .sA J J J J zE Sz25 (by (simp [hs64]; done)) mR sP uU ?_
 refine G2 ?_
 -- ret
 refine G2 ?_
 refine ⟨_, [], An J J Y25.h J Sz25 mR (by simp [hs64]), sP, sP, ?_, rfl⟩
 (rw [Bd, if_pos hq0, ← show bytesR D = D.bytes from if_pos hq0, hsd.out]; done)
end Go.Proofs.YtfcbgdkpagcbbaaGreat
end

section
namespace Go.Proofs.YtfcbgdkpagcbbaaGreat
open Go Hw

open Ed

def Ca (D : DB) : List (List UInt8) := if D.seq = 0 then D.ls else D.prev :: D.ls
theorem parL_row {D : DB} (h : D.ok) : ∀ l ∈ Ca D, l.length = 32 := by
  intro l hl
  unfold Ca at hl
  split at hl
  · exact h.ls l hl
  · rcases List.mem_cons.1 hl with rfl | hl
    · exact h.prev
    · exact h.ls l hl
end Go.Proofs.YtfcbgdkpagcbbaaGreat
end

section
namespace Go.Proofs.YtfcbgdkpagcbbaaGreat
open Go Hw

theorem key_seqB {ν : Type} {ev : ν → Value} {z : Value} (M : MOk Tryz.prog 71 25 31 (As 32 ev) z) {fs : List (List UInt8 × ν)} {b c : Nat} {W : World} (hb : BlkOk W (A0 b (As 32 ev) fs)) (hc : CapM W c b) (hcl : c < W.heap.size) : KeySeq Tryz.prog 95 #[ptr c 0] (fs.map (·.1)) W := by
  intro σ X vis s0 names l w1 hk hn hv hH hY
  obtain ⟨es, clock, h1, F⟩ := hb.map
  have hb1 : w1.heap[b]? = some (.map es clock) := (hk.block b hb.lt sP).trans h1
  have hbn : b ∉ names := fun h => by have := hn b h; have := hb.lt; simp only at this; omega
  have hcn : c ∉ names := fun h => by have := hn c h; omega
  have hc1 : CapM w1 c b := by
    unfold CapM World.cell? at hc ⊢
    rw [hk.block c hcl sP]; exact hc
  have hcl1 : c < w1.heap.size := Nat.lt_of_lt_of_le hcl hk.size
  refine callsIn_wide.2 ((keys_iterB M X vis s0 names l c b fs es clock w1 F hv hbn hcn w1 ⟨rfl, hH, hb1, hc1, hcl1, fun s k h32 hvl W2 h => hY s k h32 (by simpa using hvl) W2 h⟩).mono fun e W' ⟨v, out, he, ⟨_, s, hp, ho⟩, hr⟩ => ⟨⟨v, he⟩, s, hp, ?_⟩)
  subst ho
  exact ⟨hr.cells, hr.nodup, hr.own, hr.keeps, fun _ h => (by cases h), fun _ _ _ h => (by cases h)⟩

theorem key_seqU {ν : Type} {ev : ν → Value} {z : Value} (M : MOk Tryz.prog 70 25 82 (As 32 ev) z) {fs : List (List UInt8 × ν)} {b c : Nat} {W : World} (hb : BlkOk W (A0 b (As 32 ev) fs)) (hc : CapM W c b) (hcl : c < W.heap.size) : KeySeq Tryz.prog 94 #[ptr c 0] (fs.map (·.1)) W := by
  intro σ X vis s0 names l w1 hk hn hv hH hY
  obtain ⟨es, clock, h1, F⟩ := hb.map
  have hb1 : w1.heap[b]? = some (.map es clock) := (hk.block b hb.lt sP).trans h1
  have hbn : b ∉ names := fun h => by have := hn b h; have := hb.lt; simp only at this; omega
  have hcn : c ∉ names := fun h => by have := hn c h; omega
  have hc1 : CapM w1 c b := by
    unfold CapM World.cell? at hc ⊢
    rw [hk.block c hcl sP]; exact hc
  have hcl1 : c < w1.heap.size := Nat.lt_of_lt_of_le hcl hk.size
  refine callsIn_wide.2 ((keys_iterU M X vis s0 names l c b fs es clock w1 F hv hbn hcn w1 ⟨rfl, hH, hb1, hc1, hcl1, fun s k h32 hvl W2 h => hY s k h32 (by simpa using hvl) W2 h⟩).mono fun e W' ⟨v, out, he, ⟨_, s, hp, ho⟩, hr⟩ => ⟨⟨v, he⟩, s, hp, ?_⟩)
  subst ho
  exact ⟨hr.cells, hr.nodup, hr.own, hr.keeps, fun _ h => (by cases h), fun _ _ _ h => (by cases h)⟩

theorem KeySeq.keep {P : Program} {gf : Nat} {lb : Array Value} {keys : List (List UInt8)} {C : Cx} {hp : List Blk} {w : World} (h : KeySeq P gf lb keys C.W0) (hh : HRep C hp w) (hl : C.lent = [] := by rfl) : KeySeq P gf lb keys w := by
  intro σ X vis s0 names l w1 hk hn hv hH hY
  have k0 := hh.keeps
  rw [hl] at k0
  exact h σ X vis s0 names l w1 (k0.trans hk) (fun n hm => Nat.le_trans k0.size (hn n hm)) hv hH hY

theorem append_keys (gf : Nat) (lb : Array Value) (keys : List (List UInt8)) (hgf : Av Tryz.prog gf) (hkn : keys.length ≤ 100000) : Meets Tryz.prog 96 [.slice none 0 0, .func (.func gf) #[] lb] [] (fun W => KeySeq Tryz.prog gf lb keys W) (fun v out => ∃ (s : Sl) (ks : List (List UInt8)), ks.Perm keys ∧ v = s.v ∧ Hw.Acc s out (A1 ks) 25 ks.length 32) := by
  intro W hW
  refine calls_rangeR (hp0 := []) Tryz.func96 rfl 13 Tryz.ntmps96 rfl (HRep.nil _) ?_
  refine Sat.region ?_
  refine Tr.box1 rfl rfl rfl ?_
  intro n2 hn2 hf2
  refine G7 ?_
  refine ⟨gf, lb, {t : Sl × List Blk × List (List UInt8) // Hw.Acc t.1 t.2.1 (A1 t.2.2) 25 t.2.2.length 32}, fun t => ⟨n2, [t.1.1.v], 26, 1⟩ :: t.1.2.1, ⟨(Sl.nil, [], []), Acc.none⟩, [n2], (fun t v => ∃ k, v = agg (Aa k) ∧ k.length = 32 ∧ t.1.2.2.length < keys.length), (fun t v t2 => ∃ k, v = agg (Aa k) ∧ t2.1.2.2 = t.1.2.2 ++ [k]), (fun t => t.1.2.2.Perm keys), (fun sl t v st => ∃ k n5 m5, v = agg (Aa k) ∧ st = ⟨(5, ptr n5 0) :: (7, v) :: sl, ⟨n5, Aa k, 25, m5⟩ :: ⟨n2, [t.1.1.v], 26, 1⟩ :: t.1.2.1⟩), rfl, rfl, hgf, dE, rfl, ?_, ?_, ?_, ?_⟩
  ·
    intro l w1 hk hh hy
    refine (hW _ (fun t : {t : Sl × List Blk × List (List UInt8) // Hw.Acc t.1 t.2.1 (A1 t.2.2) 25 t.2.2.length 32} => ⟨n2, [t.1.1.v], 26, 1⟩ :: t.1.2.1) (fun t => t.1.2.2) ⟨(Sl.nil, [], []), Acc.none⟩ [n2] l w1 hk (fun n hn => by rw [List.mem_singleton.1 hn]; exact hn2) rfl hh fun s k h32 hvl W2 h => ?_)
    obtain ⟨fn, tmps, ae, bd, hrun, hR⟩ := hy s (agg (Aa k)) ⟨k, rfl, h32, hvl⟩ W2 h
    exact ⟨fn, tmps, ae, bd, hrun, RoundIn.mono hR fun e W3 ⟨he, s2, ⟨k2, e2, hs2⟩, hr⟩ => ⟨he, s2, by rw [agg_bytes_inj e2]; exact hs2, hr⟩⟩
  ·
    intro t v hok l W2 ns hns hh
    obtain ⟨k, rfl, hk32, hlt⟩ := hok
    refine SatI.region zK ?_
    refine Tr.alloc (cs := (Aa (List.replicate 32 0))) rfl Zr25 rfl ?_
    intro n5 hn5 hf5
    refine Tr.sA rfl rfl rfl rfl zE Sz25 (by (rw [Aa, List.length_map]; assumption)) Z0 sP zU ?_
    refine Tr.nil ?_
    exact ⟨k, _, _, rfl, rfl⟩
  ·
    intro t v hok st hmid l W2 ns hns hh
    obtain ⟨k, n5, m5, rfl, rfl⟩ := hmid
    obtain ⟨k1, ek, hk32, hlt⟩ := hok
    obtain rfl := agg_bytes_inj ek
    refine SatI.block ?_
    refine SatI.region zK ?_
    refine G1 ?_
    refine Tr.lA rfl rfl rfl Y25.h rfl Sz25 Z0 (by (rw [Aa, List.length_map]; assumption)) ?_
    refine Tr.mkRow2 (z := agg (Aa (List.replicate 32 0))) [agg (Aa k)] (Aa k) rfl rfl Y26.h Sz25 Zr25 rfl rfl (by intro v hv; rw [List.mem_singleton.1 hv]; simp [Value.cells, Aa, hk32]) dE (by simp [Value.cells, agg]) ?_
    intro q10
    refine Tr.appendAcc (z := agg (Aa (List.replicate 32 0))) (by' := 32) (Aa k) rfl rfl rfl rfl rfl Y26.h Y26.h Sz25 Zr25 (by unfold By; kernel_rfl) rfl t.2 (by repeat (first | exact sg_end | apply sg_there)) (fun w h => SeesP.of (Ar h Z0)) (fun e => by cases e) (Ax _) oM oM (by rw [Aa, List.length_map, hk32]) ?_
    intro s11 bl11 hac11
    refine Tr.s1 rfl rfl rfl rfl rfl Sz26 mR sP (by rfl) uU ?_
    refine Tr.nil ?_
    refine ⟨⟨(s11, bl11, t.1.2.2 ++ [k]), by simpa [flatB_append, A1] using hac11⟩, _, ⟨k, rfl, rfl⟩, (Ab rM sG)⟩
  intro t hdn D W2 ns hns
  skip
  refine G6 ?_
  -- ret
  refine Sat.ret ?_
  refine enA_r ?_
  refine endA_perm (out := (t.1.2.1 ++ [])) (fun W names => Al rfl rfl) (Af (by repeat (first | exact sg_end | apply sg_there)) Ak) ?_
  exact ⟨t.1.1, t.1.2.2, hdn, rfl, by simpa using t.2⟩
theorem collect_keys (gf : Nat) (lb : Array Value) (keys : List (List UInt8)) (hgf : Av Tryz.prog gf) (hkn : keys.length ≤ 100000) : Meets Tryz.prog 68 [.func (.func gf) #[] lb] [] (fun W => KeySeq Tryz.prog gf lb keys W) (fun v out => ∃ (s : Sl) (ks : List (List UInt8)), ks.Perm keys ∧ v = s.v ∧ Hw.Acc s out (A1 ks) 25 ks.length 32) := by
 intro W hW
 refine Ac Tryz.func68 J 5 Tryz.ntmps68 J (G8 ?_)
 refine .call4 J J J J J Body96 (append_keys gf lb keys hgf hkn) (fun w h => hW.keep h) ?_
 rintro v4 out4 ⟨s4, ks, hp, rfl, hac⟩
 refine G3 ?_
 -- ret
 refine G2 ?_
 refine Az (out := (out4 ++ [])) (Al J J) (Af sG Ak) ?_
 exact ⟨s4, ks, hp, rfl, by simpa using hac⟩


open Go.RowKit Go.Shelf Go.Lib Go.Sort
set_option maxHeartbeats 2000000

theorem bytes70 (W : World) {p q : Option Addr} {c1 c2 n m : Nat} {a b : List UInt8} (ha : a.length = n) (hb : b.length = m) (h1 : SeesP W p (Aa a)) (h2 : SeesP W q (Aa b)) : Calls Tryz.prog 70 #[.slice p n c1, .slice q m c2] W fun e w' => e = .returned (i64 (cmpB a b)) ∧ w' = W := by
  have hr := bytealg_run (w := W) (c1 := c1) (c2 := c2) ha hb h1 h2
  rw [show [Value.slice p n c1, Value.slice q m c2].toArray = #[.slice p n c1, .slice q m c2] from rfl] at hr
  generalize cmpB a b = r at hr ⊢
  clear h1 h2 ha hb
  go_enter Tryz.func70, Tryz.ntmps70
  go_wp2
  go_ret
  exact ⟨rfl, rfl⟩
theorem cmp47 (x y : List UInt8) (hx : x.length = 32) (hy : y.length = 32) (W : World) : Calls Tryz.prog 47 #[agg (Aa x), agg (Aa y)] W fun e w' => e = .returned (i64 (cmpB x y)) ∧ ∃ q os', w' = grow (W.drewN q) os' := by
  obtain ⟨r, hr⟩ : ∃ r, cmpB x y = r := ⟨_, rfl⟩
  rw [hr]
  have hs : ∀ W' : World, (∀ i, i < W.heap.size + 2 → W'.heap[i]? = ((W.alloc (.cells (Aa x).toArray 25)).alloc (.cells (Aa y).toArray 25)).heap[i]?) → Calls Tryz.prog 70 #[.slice (some ⟨W.heap.size, 0, none⟩) 32 32, .slice (some ⟨W.heap.size + 1, 0, none⟩) 32 32] W' fun e w' => e = .returned (i64 r) ∧ w' = W' := fun W' h => by
    rw [← hr]
    refine bytes70 W' hx hy (SeesP.of fun j v hj => ?_) (SeesP.of fun j v hj => ?_)
    · have e := h W.heap.size oM
      have e2 : ((W.alloc (.cells (Aa x).toArray 25)).alloc (.cells (Aa y).toArray 25)).heap[W.heap.size]? = some (.cells (Aa x).toArray 25) := by
        show ((W.heap.push _).push _)[W.heap.size]? = _
        rw [Array.getElem?_push, if_neg sP, Array.getElem?_push, if_pos rfl]
      rw [e2] at e
      simpa [World.cell?, e] using hj
    · have e := h (W.heap.size + 1) oM
      have e2 : ((W.alloc (.cells (Aa x).toArray 25)).alloc (.cells (Aa y).toArray 25)).heap[W.heap.size + 1]? = some (.cells (Aa y).toArray 25) := by
        show ((W.heap.push _).push _)[W.heap.size + 1]? = _
        rw [Array.getElem?_push, if_pos sP]
      rw [e2] at e
      simpa [World.cell?, e] using hj
  go_enter Tryz.func47, Tryz.ntmps47
  go_wp2
  generalize hw2 : (W.alloc (.cells (Aa x).toArray 25)).alloc (.cells (Aa y).toArray 25) = w2 at hs ⊢
  go_quiet ((go_at_call 70; exact Calls.quiet_of_same (hs _ (fun i hi => rfl))))
  go_wp2
  go_ret
  refine ⟨rfl, nq, #[.cells (Aa x).toArray 25, .cells (Aa y).toArray 25], ?_⟩
  rw [← hw2, alloc_eq_grow, alloc_eq_grow, grow_grow]
  rfl
abbrev L32 := {l : List UInt8 // l.length = 32}
instance : Inhabited L32 := ⟨⟨List.replicate 32 0, by simp⟩⟩
def cf32 (x y : L32) : Int := cmpB x.1 y.1
theorem lt32 (x y : L32) : ltOf cf32 x y = decide (cmpB x.1 y.1 < 0) := rfl
theorem swo32 : SWO (ltOf cf32) where
  irrefl x := by rw [lt32, cmpB_self]; rfl
  trans x y z h1 h2 := by
    rw [lt32] at *
    simp only [decide_eq_true_eq] at *
    exact (cmpB_trans _ _ _ oM oM).2 (.inl h1)
  ntrans x y z h1 h2 := by
    rw [lt32] at *
    simp only [decide_eq_false_iff_not] at *
    have e1 := cmpB_neg x.1 y.1
    have e2 := cmpB_neg y.1 z.1
    have e3 := cmpB_neg x.1 z.1
    have := (cmpB_trans z.1 y.1 x.1 oM oM).1
    omega
theorem enc32_cells (x : L32) : ∀ v ∈ Aa x.1, v.oneCell' = true := fun v hv => by
  obtain ⟨u, _, rfl⟩ := List.mem_map.1 hv
  rfl
def up32 (ks : List (List UInt8)) (h : ∀ l ∈ ks, l.length = 32) : List L32 := ks.attach.map fun x => ⟨x.1, h x.1 x.2⟩
theorem up32_val (ks : List (List UInt8)) (h : ∀ l ∈ ks, l.length = 32) : (up32 ks h).map (·.1) = ks := by
  unfold up32
  rw [List.map_map]
  show ks.attach.map Subtype.val = ks
  simp
theorem flatK_list (d : Array L32) : ∀ (j : Nat) (v : Value), (A1 (d.toList.map (·.1)))[j]? = some v → j < d.size * 32 ∧ (flatK (fun x : L32 => Aa x.1) 32 d)[j]! = v := fun j v hj => by
  have h32 : ∀ l ∈ d.toList.map (·.1), l.length = 32 := fun l hl => by obtain ⟨x, _, rfl⟩ := List.mem_map.1 hl; exact x.2
  have hlen := A7 h32
  have hlt := (List.getElem?_eq_some_iff.1 hj).1
  rw [hlen] at hlt
  have hlt2 : j < d.size * 32 := by simpa using hlt
  refine ⟨hlt2, ?_⟩
  rw [get_flatK _ _ _ _ hlt2]
  have hi : j / 32 < d.size := by omega
  have hc : ((d.toList.map (·.1)).map Aa)[j / 32]? = some (Aa d[j / 32]!.1) := by
    rw [List.getElem?_map, List.getElem?_map]
    have : d.toList[j / 32]? = some d[j / 32]! := by simp [hi]
    rw [this]; rfl
  have hm : j % 32 < (Aa d[j / 32]!.1).length := by rw [Aa, List.length_map, d[j / 32]!.2]; omega
  have := flat_get (m := 32) (fun l hl => flatB_all h32 l hl) hc hm
  have e : j / 32 * 32 + j % 32 = j := by omega
  rw [e] at this
  have hj2 : ((d.toList.map (·.1)).map Aa).flatten[j]? = some v := hj
  rw [hj2] at this
  rw [List.getElem!_eq_getElem?_getD, ← this]
  rfl
def SortB (ks : List (List UInt8)) : Prop := ks.Pairwise fun a b => cmpB a b ≤ 0
theorem sort_digs (q n c m : Nat) (ks : List (List UInt8)) (h32 : ∀ l ∈ ks, l.length = 32) (hl : ks.length = n) (hbig : n ≤ 1000000) (hm : n * 32 ≤ m) : Meets Tryz.prog 51 [.slice (some ⟨q, 0, none⟩) n c, .func (.func 47) #[] #[]] [q] (fun W => BlkOk W ⟨q, A1 ks, 25, m⟩)
    (fun v out => v = .tuple #[] ∧ ∃ ks' : List (List UInt8), ks'.Perm ks ∧ SortB ks' ∧ out = [⟨q, A1 ks', 25, m⟩]) := fun W hb => by
  obtain ⟨d, hd⟩ : ∃ d : Array L32, d = (up32 ks h32).toArray := ⟨_, rfl⟩
  have hdl : d.toList.map (·.1) = ks := by rw [hd]; exact up32_val ks h32
  have hds : d.size = n := by rw [← hl, ← hdl]; simp
  have hb0 : ∃ full fr, BlkAt W ⟨q, A1 ks, 25, m⟩ full fr := hb
  obtain ⟨full, fr, hbk⟩ := hb0
  have hfl := A7 h32
  have hH : HoldsK (fun x : L32 => Aa x.1) 32 W q 0 d := fun j hj => by
    rw [size_flatK] at hj
    have hj2 : j < (A1 ks).length := by rw [hfl, hl, ← hds]; exact hj
    have h1 := List.getElem?_eq_getElem hj2
    have h2 := (flatK_list d j _ (by rw [hdl]; exact h1)).2
    rw [h2]
    exact ⟨hb.cell (b := ⟨q, A1 ks, 25, m⟩) (by simpa using h1), hbk.unfrozen (by show 0 + j < m; omega)⟩
  have eg : ∀ args w, (callFunc 47 args).run Tryz.prog w = .ok (.enter 47 args) w := enters_of Tryz.func47 zK rfl
  have hcmp : CmpLays Tryz.prog 47 #[] (fun x : L32 => Aa x.1) 32 cf32 q 0 d.size W := fun k os dk hk x y => cmp47 x.1 y.1 x.2 y.2 _
  have hz25 : ∀ w, (Go.sizeOf (sortD_ren.t 24)).run Tryz.prog w = .ok 32 w := by
    intro w
    have e : sortD_ren.t 24 = 25 := by rfl
    rw [e]
    exact Cg Sz25 w
  have hcon := AnyQ.slices_SortFunc sortD 32 (fun w => run_isAgg_arr Y25.h rfl w) (fun w => hz25 w) (fun x : L32 => Aa x.1) (fun x => by rw [Aa, List.length_map, x.2]) enc32_cells cf32 swo32 47 #[] q 0 c d W eg hcmp hH hb.lt oM
  have hcon2 : Calls Tryz.prog 51 #[.slice (some ⟨q, 0, none⟩) d.size c, .func (.func 47) #[] #[]] W _ := hcon
  rw [hds] at hcon2
  refine hcon2.mono fun e W' ⟨he, d', k, os, hp, hs, hw⟩ => ?_
  subst hw
  have hsz' : d'.size = d.size := hp.1
  obtain ⟨ks', hk'⟩ : ∃ ks', ks' = d'.toList.map (·.1) := ⟨_, rfl⟩
  have h32' : ∀ l ∈ ks', l.length = 32 := fun l hl => by rw [hk'] at hl; obtain ⟨x, _, rfl⟩ := List.mem_map.1 hl; exact x.2
  have hlen' : ks'.length = n := by rw [hk']; simp [hsz', hds]
  have hperm : ks'.Perm ks := by
    rw [hk', ← hdl]
    refine List.Perm.map _ ?_
    have h3 := hp.2.2
    have e1 : d.extract 0 d.size = d := by simp
    have e2 : d'.extract 0 d.size = d' := by rw [← hsz']; simp
    rw [← hds] at h3
    rwa [e1, e2] at h3
  have hsort : SortB ks' := by
    rw [hk']
    refine List.pairwise_map.2 (List.pairwise_iff_getElem.2 fun i j hi hj hij => ?_)
    have h4 := hs i j (Nat.zero_le _) hij (by rw [← hds, ← hsz']; simpa using hj)
    rw [lt32, decide_eq_false_iff_not] at h4
    have hi2 : i < d'.size := by simpa using hi
    have hj2 : j < d'.size := by simpa using hj
    rw [getElem!_pos d' j hj2, getElem!_pos d' i hi2] at h4
    have := cmpB_neg d'.toList[i].1 d'.toList[j].1
    simp only [Array.getElem_toList] at this ⊢
    omega
  refine ⟨_, _, he, ⟨rfl, ks', hperm, hsort, rfl⟩, ⟨⟨rfl, rfl, rfl, ?_, fun i hi hn => ?_⟩, fun b hb2 => ?_, by simp, fun b hb2 => ?_⟩⟩
  · simp [sortWorldK, grow, putRowK]
  · have hne : i ≠ q := by simpa using hn
    simp only [sortWorldK, grow, putRowK, putRow, mapBlock]
    rw [Array.getElem?_append_left (by simpa using hi), Array.getElem?_modify]
    rw [if_neg (fun e : q = i => hne e.symm)]
    rfl
  · rw [List.mem_singleton.1 hb2]
    have hq : W.heap[q]? = some (.cells full 25 fr) := hbk.heap
    have hql : q < W.heap.size := hb.lt
    refine ⟨putCells id 0 (flatK (fun x : L32 => Aa x.1) 32 d') full, fr, ?_, by simpa [putCells] using hbk.size, ?_, hbk.free⟩
    · simp only [sortWorldK, grow, putRowK, putRow, mapBlock]
      rw [Array.getElem?_append_left (by simpa using hql), Array.getElem?_modify, if_pos rfl, show (Go.Sort.ahead W k).heap[q]? = some (Obj.cells full 25 fr) from hq]
      rfl
    · have hms := hbk.size
      simp only at hms
      rw [prefix_iff]
      intro j v hj
      simp only at hj
      have hf := flatK_list d' j v (by rw [← hk']; exact hj)
      simp only [putCells, Array.getElem?_toList, Array.getElem?_mapIdx]
      have hjf : j < full.size := by rw [hms]; have := hf.1; omega
      rw [Array.getElem?_eq_getElem hjf]
      simp only [Option.map_some, Option.some.injEq, Nat.zero_le, true_and, Nat.zero_add, size_flatK, Nat.sub_zero]
      rw [if_pos hf.1, hf.2]; rfl
  · rw [List.mem_singleton.1 hb2]; exact .inr sP
theorem sort_none (p : Option Addr) (c : Nat) : Meets Tryz.prog 51 [.slice p 0 c, .func (.func 47) #[] #[]] [] (fun _ => True) (fun v out => v = .tuple #[] ∧ out = []) := fun W _ => by
  have hcon := AnyF.slices_SortFunc_none sortD p c (.func (.func 47) #[] #[]) W
  have hcon2 : Calls Tryz.prog 51 #[.slice p 0 c, .func (.func 47) #[] #[]] W _ := hcon
  refine hcon2.mono fun e W' h => ?_
  obtain ⟨he, hw⟩ := h
  subst hw
  exact ⟨_, [], he, ⟨rfl, rfl⟩, ⟨Keeps.refl _ _, fun b hb => (by cases hb), List.nodup_nil, fun b hb => (by cases hb)⟩⟩

end Go.Proofs.YtfcbgdkpagcbbaaGreat
end

section
namespace Go.Proofs.YtfcbgdkpagcbbaaGreat
open Go Hw

theorem sort_acc (s : Sl) (bl : List Blk) (ks : List (List UInt8)) (h32 : ∀ l ∈ ks, l.length = 32) (hbig : ks.length ≤ 1000000) (hac : Hw.Acc s bl (A1 ks) 25 ks.length 32) : Meets Tryz.prog 51 [s.v, .func (.func 47) #[] #[]] (bl.map (·.n)) (fun W => Lies bl W)
    (fun v out => v = .tuple #[] ∧ ∃ ks' : List (List UInt8), ks'.Perm ks ∧ SortB ks' ∧ Hw.Acc s out (A1 ks') 25 ks.length 32) := by
  rcases hac with ⟨rfl, rfl, hz, hn⟩ | ⟨q, c, rfl, hnc, hfl, rfl⟩
  · obtain rfl := List.eq_nil_of_length_eq_zero hn
    intro W _
    exact (sort_none none 0 W trivial).mono fun e W' ⟨v, out, he, ⟨hv, ho⟩, hr⟩ => ⟨v, out, he, ⟨hv, [], List.Perm.refl _, List.Pairwise.nil, .inl ⟨rfl, ho, rfl, rfl⟩⟩, hr⟩
  · intro W hW
    have hb : BlkOk W ⟨q, A1 ks, 25, c * 32⟩ := hW _ (List.mem_singleton.2 rfl)
    refine (sort_digs q ks.length c (c * 32) ks h32 rfl hbig (Nat.mul_le_mul_right 32 hnc) W hb).mono fun e W' ⟨v, out, he, ⟨hv, ks', hp, hs, ho⟩, hr⟩ => ⟨v, out, he, ⟨hv, ks', hp, hs, ?_⟩, hr⟩
    have h32' : ∀ l ∈ ks', l.length = 32 := fun l hl => h32 l (hp.mem_iff.1 hl)
    exact .inr ⟨q, c, rfl, hnc, by rw [A7 h32', hp.length_eq], ho⟩
theorem mblk_keep {C : Cx} {hp : List Blk} {w : World} {B : Blk} (h : BlkOk C.W0 B) (hh : HRep C hp w) (hl : C.lent = [] := by rfl) : BlkOk w B :=
  h.of_heap (hh.keeps.block B.n h.lt (by rw [hl]; simp))
theorem CapM.of_own {C : Cx} {hp : List Blk} {w : World} {c b : Nat} {T : TypeId} (hh : HRep C hp w) (hc : (⟨c, [.map (some b)], T, 1⟩ : Blk) ∈ hp) : CapM w c b ∧ c < w.heap.size :=
  ⟨(hh.cells _ hc).cell (o := 0) rfl, (hh.cells _ hc).lt⟩

theorem sorted_keys (gf : Nat) (lb : Array Value) (keys : List (List UInt8)) (hgf : Av Tryz.prog gf) (hkn : keys.length ≤ 100000) (hk32 : ∀ l ∈ keys, l.length = 32) : Meets Tryz.prog 45 [.func (.func gf) #[] lb, .func (.func 47) #[] #[]] [] (fun W => KeySeq Tryz.prog gf lb keys W) (fun v out => ∃ (s : Sl) (ks : List (List UInt8)), ks.Perm keys ∧ SortB ks ∧ v = s.v ∧ Hw.Acc s out (A1 ks) 25 ks.length 32) := by
 intro W hW
 refine Ac Tryz.func45 J 12 Tryz.ntmps45 J (G8 ?_)
 refine .call4 J J J J J Body68 (collect_keys gf lb keys hgf hkn) (fun w h => hW.keep h) ?_
 rintro v7 out7 ⟨s7, ks, hp, rfl, hac⟩
 refine G7 ?_
 refine .callL (L := out7) J J J J J Body51 (sort_acc s7 out7 ks (fun l hl => hk32 l (hp.mem_iff.1 hl)) (by have := hp.length_eq; omega) hac) sG (B6 J) (fun w h => Lies.of h (by repeat (exact Bf))) ?_
 rintro v10 out10 ⟨rfl, ks2, hp2, hs2, hac2⟩
 refine G8 ?_
 -- ret
 refine G2 ?_
 refine Az (out := (out10 ++ [])) (Al J J) (Af sG Ak) ?_
 exact ⟨s7, ks2, hp2.trans hp, hs2, rfl, by rw [hp2.length_eq]; simpa using hac2⟩

theorem dag_sortedB {ν : Type} {ev : ν → Value} {z : Value} (M : MOk Tryz.prog 71 25 31 (As 32 ev) z) (b : Nat) (fs : List (List UInt8 × ν)) (h32 : ∀ p ∈ fs, p.1.length = 32) (hn : fs.length ≤ 100000) : Meets Tryz.prog 43 [.map (some b)] [] (fun W => BlkOk W (A0 b (As 32 ev) fs)) (fun v out => ∃ (s : Sl) (ks : List (List UInt8)), ks.Perm (fs.map (·.1)) ∧ SortB ks ∧ v = s.v ∧ Hw.Acc s out (A1 ks) 25 ks.length 32) := by
 intro W hW
 refine Ac Tryz.func43 J 6 Tryz.ntmps43 J (G8 ?_)
 refine .call4 J J J J J Body67 (mk_keysB b) tV ?_
 rintro v4 out4 ⟨c, rfl, rfl⟩
 refine .call4 J J J J J Body45 (sorted_keys 95 #[ptr c 0] (fs.map (·.1)) Body95 (by simpa using hn) (fun l hl => by obtain ⟨p, hp, rfl⟩ := List.mem_map.1 hl; exact h32 p hp)) (fun w h => key_seqB M (mblk_keep (B := A0 b (As 32 ev) fs) hW h) (CapM.of_own h Z0).1 (CapM.of_own h Z0).2) ?_
 rintro v5 out5 ⟨s5, ks, hp, hs, rfl, hac⟩
 refine G3 ?_
 -- ret
 refine G2 ?_
 refine Az (out := (out5 ++ [])) (Al J J) (Af sG Ak) ?_
 exact ⟨s5, ks, hp, hs, rfl, by simpa using hac⟩

theorem dag_sortedU {ν : Type} {ev : ν → Value} {z : Value} (M : MOk Tryz.prog 70 25 82 (As 32 ev) z) (b : Nat) (fs : List (List UInt8 × ν)) (h32 : ∀ p ∈ fs, p.1.length = 32) (hn : fs.length ≤ 100000) : Meets Tryz.prog 40 [.map (some b)] [] (fun W => BlkOk W (A0 b (As 32 ev) fs)) (fun v out => ∃ (s : Sl) (ks : List (List UInt8)), ks.Perm (fs.map (·.1)) ∧ SortB ks ∧ v = s.v ∧ Hw.Acc s out (A1 ks) 25 ks.length 32) := by
 intro W hW
 refine Ac Tryz.func40 J 6 Tryz.ntmps40 J (G8 ?_)
 refine .call4 J J J J J Body66 (mk_keysU b) tV ?_
 rintro v4 out4 ⟨c, rfl, rfl⟩
 refine .call4 J J J J J Body45 (sorted_keys 94 #[ptr c 0] (fs.map (·.1)) Body94 (by simpa using hn) (fun l hl => by obtain ⟨p, hp, rfl⟩ := List.mem_map.1 hl; exact h32 p hp)) (fun w h => key_seqU M (mblk_keep (B := A0 b (As 32 ev) fs) hW h) (CapM.of_own h Z0).1 (CapM.of_own h Z0).2) ?_
 rintro v5 out5 ⟨s5, ks, hp, hs, rfl, hac⟩
 refine G3 ?_
 -- ret
 refine G2 ?_
 refine Az (out := (out5 ++ [])) (Al J J) (Af sG Ak) ?_
 exact ⟨s5, ks, hp, hs, rfl, by simpa using hac⟩


abbrev EV := DEnt × DB
abbrev BV := Block × DB
structure RV where
  s : Sl
  bl : List Blk
  ks : List (List UInt8)
def RV.none : RV := ⟨Sl.nil, [], []⟩
structure RV.ok (r : RV) : Prop where
  acc : Hw.Acc r.s r.bl (A1 r.ks) 25 r.ks.length 32
  r32 : ∀ l ∈ r.ks, l.length = 32
theorem RV.none_ok : RV.none.ok := ⟨.inl ⟨rfl, rfl, rfl, rfl⟩, fun l h => by cases h⟩
abbrev evE (x : EV) : Value := agg x.1.cells
abbrev evB (x : BV) : Value := agg x.1.cells
abbrev evU (_ : Unit) : Value := agg []
abbrev evR (r : RV) : Value := r.s.v
theorem A25 : WideMaps.ArrKey Tryz.prog 25 5 32 := ⟨Y25.h, by kernel_rfl, by kernel_rfl, by kernel_rfl⟩
theorem A23 : WideMaps.ArrKey Tryz.prog 23 5 32 := ⟨Y23.h, by kernel_rfl, by kernel_rfl, by kernel_rfl⟩
theorem K25 : Maps.Keyed Tryz.prog 25 := .of_law (deep_law (m := 3) dE zK zK (by rw [Y25.h]))
theorem K23 : Maps.Keyed Tryz.prog 23 := .of_law (deep_law (m := 3) dE zK zK (by rw [Y23.h]))
theorem K87 : Maps.Keyed Tryz.prog 87 := .of_law (deep_law (m := 4) dE zK zK (by rw [Tryz.underlying87]))
theorem size_pos : ∃ m, Tryz.prog.types.size = m + 1 := ⟨Tryz.prog.types.size - 1, by kernel_rfl⟩
theorem size_two : ∃ m, Tryz.prog.types.size = m + 2 := ⟨Tryz.prog.types.size - 2, by kernel_rfl⟩
theorem zr_run {T : TypeId} {v : Value} (h : Zr Tryz.prog T v) (w : World) : (zeroValue T).run Tryz.prog w = .ok v w := by
  unfold Zr at h
  cases hi : Tryz.prog.info? T with
  | none => rw [hi] at h; cases h
  | some i =>
    rw [hi] at h
    simp only [Option.bind_some] at h
    simp [zeroValue, typeInfo, hi, h]
theorem ME : MOk Tryz.prog 69 25 79 (As 32 evE) (agg DEnt.zero.cells) := bytesT_ok _ Y69.h A25 Y5.h size_pos K25 (zr_run DEnt.zr)
theorem MH : MOk Tryz.prog 70 25 82 (As 32 evU) (agg []) := bytesT_ok _ Y70.h A25 Y5.h size_pos K25 (zr_run Zr82)
theorem MO : MOk Tryz.prog 71 25 31 (As 32 evB) (agg Block.zero.cells) := bytesT_ok _ Y71.h A25 Y5.h size_pos K25 (zr_run Block.zr)
theorem MW : MOk Tryz.prog 73 23 26 (As 32 evR) (.slice none 0 0) := bytesT_ok _ Tryz.underlying73 A23 Y5.h size_pos K23 (zr_run Zr26)
theorem MP : MOk Tryz.prog 72 87 26 (placeT 32 evR) (.slice none 0 0) :=
  placeT_ok _ Tryz.underlying72 (fun l x hl => keyOf_place Tryz.underlying87 rfl zK rfl rfl zK zK zK A23 Y5.h Y24.h zK size_two hl x) K87 (zr_run Zr26)
section
variable {κ ν μ : Type} [DecidableEq κ]
theorem Cs {fs : List (κ × ν)} {k : κ} {v : ν} (h : Au fs k = some v) : (k, v) ∈ fs := by
  unfold Au at h
  cases hf : fs.find? (fun p => decide (p.1 = k)) with
  | none => rw [hf] at h; cases h
  | some p =>
    rw [hf] at h
    simp only [Option.map_some, Option.some.injEq] at h
    have h1 := List.mem_of_find?_eq_some hf
    have h2 := List.find?_some hf
    simp only [decide_eq_true_eq] at h2
    rw [← h2, ← h]; exact h1
theorem mput_mem {fs : List (κ × ν)} {k : κ} {v : ν} {p : κ × ν} (h : p ∈ Bh fs k v) : p ∈ fs ∨ p = (k, v) := by
  unfold Bh at h
  split at h
  · exact List.mem_or_eq_of_mem_set h
  · rcases List.mem_append.1 h with h | h
    · exact .inl h
    · exact .inr (List.mem_singleton.1 h)
theorem mdel_mem {fs : List (κ × ν)} {k : κ} {p : κ × ν} (h : p ∈ mdel fs k) : p ∈ fs := by
  unfold mdel at h
  split at h
  · exact (List.eraseIdx_sublist _ _).subset h
  · exact h
theorem mput_len (fs : List (κ × ν)) (k : κ) (v : ν) : (Bh fs k v).length ≤ fs.length + 1 := by
  unfold Bh
  split
  · rw [List.length_set]; omega
  · simp
theorem mdel_len (fs : List (κ × ν)) (k : κ) : (mdel fs k).length ≤ fs.length := by
  unfold mdel
  split
  · exact (List.eraseIdx_sublist _ _).length_le
  · exact Nat.le_refl _
theorem midx_map (f : ν → μ) (fs : List (κ × ν)) (k : κ) : midx (fs.map fun p => (p.1, f p.2)) k = midx fs k := by
  unfold midx
  rw [List.findIdx?_map]; rfl
theorem mget_map (f : ν → μ) (fs : List (κ × ν)) (k : κ) : Au (fs.map fun p => (p.1, f p.2)) k = (Au fs k).map f := by
  unfold Au
  rw [List.find?_map]
  cases h : fs.find? (fun p => decide (p.1 = k)) with
  | none =>
    have : List.find? ((fun p : κ × μ => decide (p.1 = k)) ∘ fun p : κ × ν => (p.1, f p.2)) fs = none := h
    rw [this]; rfl
  | some p =>
    have : List.find? ((fun p : κ × μ => decide (p.1 = k)) ∘ fun p : κ × ν => (p.1, f p.2)) fs = some p := h
    rw [this]; rfl
theorem mput_map (f : ν → μ) (fs : List (κ × ν)) (k : κ) (v : ν) : (Bh fs k v).map (fun p => (p.1, f p.2)) = Bh (fs.map fun p => (p.1, f p.2)) k (f v) := by
  unfold Bh
  rw [midx_map]
  split
  · rw [List.map_set]
  · rw [List.map_append]; rfl
theorem mdel_map (f : ν → μ) (fs : List (κ × ν)) (k : κ) : (mdel fs k).map (fun p => (p.1, f p.2)) = mdel (fs.map fun p => (p.1, f p.2)) k := by
  unfold mdel
  rw [midx_map]
  split
  · exact (ChangeMaps.map_eraseIdx ..)
  · rfl
theorem mput_mput {fs : List (κ × ν)} (k : κ) (v v2 : ν) : Bh (Bh fs k v) k v2 = Bh fs k v2 := by
  cases h : midx fs k with
  | some j =>
    have e1 : Bh fs k v = fs.set j (k, v) := by unfold Bh; rw [h]
    have e2 : Bh fs k v2 = fs.set j (k, v2) := by unfold Bh; rw [h]
    have h2 : midx (fs.set j (k, v)) k = some j := by
      unfold midx at h ⊢
      rw [List.findIdx?_eq_some_iff_getElem] at h ⊢
      obtain ⟨hl, he, hn⟩ := h
      refine ⟨by simpa using hl, by simp, fun i hi => ?_⟩
      rw [List.getElem_set_ne oM]
      exact hn i hi
    rw [e1, e2]
    unfold Bh
    rw [h2]
    simp
  | none =>
    have e1 : Bh fs k v = fs ++ [(k, v)] := by unfold Bh; rw [h]
    have e2 : Bh fs k v2 = fs ++ [(k, v2)] := by unfold Bh; rw [h]
    have h2 : midx (fs ++ [(k, v)]) k = some fs.length := by
      unfold midx at h ⊢
      rw [List.findIdx?_append, h]
      simp [List.findIdx?_cons]
    rw [e1, e2]
    unfold Bh
    rw [h2]
    simp
theorem flat_set {α : Type} (f : α → List Blk) {l : List α} {j : Nat} {x : α} (h : l[j]? = some x) : ∃ R, (l.map f).flatten.Perm (f x ++ R) ∧ ∀ y, ((l.set j y).map f).flatten.Perm (f y ++ R) := by
  obtain ⟨hl, he⟩ := List.getElem?_eq_some_iff.1 h
  refine ⟨((l.take j).map f).flatten ++ ((l.drop (j + 1)).map f).flatten, ?_, ?_⟩
  · have e : l = l.take j ++ x :: l.drop (j + 1) := by rw [← he, ← List.drop_eq_getElem_cons hl, List.take_append_drop]
    have e2 : (l.map f).flatten = ((l.take j).map f).flatten ++ (f x ++ ((l.drop (j + 1)).map f).flatten) := by
      conv => lhs; rw [e]
      simp [List.map_append, List.flatten_append]
    rw [e2, ← List.append_assoc, ← List.append_assoc]
    exact List.Perm.append_right _ List.perm_append_comm
  · intro y
    have e : l.set j y = l.take j ++ y :: l.drop (j + 1) := List.set_eq_take_append_cons_drop .. |>.trans (by rw [if_pos hl])
    have e2 : ((l.set j y).map f).flatten = ((l.take j).map f).flatten ++ (f y ++ ((l.drop (j + 1)).map f).flatten) := by
      rw [e]
      simp [List.map_append, List.flatten_append]
    rw [e2, ← List.append_assoc, ← List.append_assoc]
    exact List.Perm.append_right _ List.perm_append_comm
end
def rbl {κ : Type} (fs : List (κ × RV)) : List Blk := (fs.map fun p => p.2.bl).flatten
theorem rbl_put {κ : Type} [DecidableEq κ] (fs : List (κ × RV)) (k : κ) : ∃ R, (rbl fs).Perm (((Au fs k).getD RV.none).bl ++ R) ∧ ∀ r, (rbl (Bh fs k r)).Perm (r.bl ++ R) := by
  cases h : midx fs k with
  | some j =>
    have e : ∀ r, Bh fs k r = fs.set j (k, r) := fun r => by unfold Bh; rw [h]
    unfold midx at h
    have hg : ∃ x, fs[j]? = some x ∧ Au fs k = some x.2 := by
      have h2 := h
      rw [List.findIdx?_eq_some_iff_getElem] at h2
      obtain ⟨hl, he, hn⟩ := h2
      refine ⟨fs[j], List.getElem?_eq_getElem hl, ?_⟩
      unfold Au
      have h3 : fs.find? (fun q => decide (q.1 = k)) = some fs[j] := List.find?_eq_some_iff_getElem.2 ⟨he, j, hl, rfl, fun i hi => by simpa using hn i hi⟩
      rw [h3]; rfl
    obtain ⟨x, hx, hm⟩ := hg
    rw [hm]
    obtain ⟨R, h1, h2⟩ := flat_set (fun p : κ × RV => p.2.bl) hx
    exact ⟨R, h1, fun r => by rw [e r]; exact h2 (k, r)⟩
  | none =>
    have e : ∀ r, Bh fs k r = fs ++ [(k, r)] := fun r => by unfold Bh; rw [h]
    have hm : Au fs k = none := by
      refine mget_none fun p hp e2 => ?_
      unfold midx at h
      rw [List.findIdx?_eq_none_iff] at h
      have := h p hp
      simp [e2] at this
    rw [hm]
    refine ⟨rbl fs, List.Perm.refl _, fun r => ?_⟩
    rw [e r]
    unfold rbl
    simp only [List.map_append, List.flatten_append, List.map_cons, List.map_nil, List.flatten_cons, List.flatten_nil, List.append_nil]
    exact List.perm_append_comm
structure DD where
  nm : Sl
  nb : List Blk
  names : List (List UInt8)
  ent : List (List UInt8 × EV)
  hds : List (List UInt8 × Unit)
  orp : List (List UInt8 × BV)
  pls : List ((List UInt8 × UInt64) × RV)
  wrs : List (List UInt8 × RV)
  cb : List Blk
  bE : Nat
  bH : Nat
  bO : Nat
  bP : Nat
  bW : Nat
def DD.blks (x : DD) (p : Nat) : List Blk :=
  ⟨p, [ptr p 0, x.nm.v, .map (some x.bE), .map (some x.bH), .map (some x.bO), .map (some x.bP), .map (some x.bW)], 75, 7⟩ :: A0 x.bE (As 32 evE) x.ent :: A0 x.bH (As 32 evU) x.hds :: A0 x.bO (As 32 evB) x.orp :: A0 x.bP (placeT 32 evR) x.pls :: A0 x.bW (As 32 evR) x.wrs :: (x.nb ++ (x.cb ++ (rbl x.pls ++ (rbl x.wrs ++ []))))
def Held (cb : List Blk) (B : Block) (D : DB) : Prop := SameB B D ∧ ∀ W, Lies cb W → BlockIs W B D
structure DD.ok (x : DD) : Prop where
  nm : Hw.Acc x.nm x.nb (A1 x.names) 25 x.names.length 32
  n32 : ∀ l ∈ x.names, l.length = 32
  big : x.names.length + x.orp.length ≤ 20000
  orpn : x.orp.length ≤ 64
  ent : ∀ p ∈ x.ent, p.1.length = 32 ∧ Held x.cb p.2.1.fBlock p.2.2 ∧ 0 ≤ p.2.1.fDepth ∧ p.2.1.fDepth ≤ x.names.length
  entn : x.ent.length ≤ x.names.length
  hds : ∀ p ∈ x.hds, p.1.length = 32
  hdsn : x.hds.length ≤ x.names.length
  orp : ∀ p ∈ x.orp, p.1.length = 32 ∧ Held x.cb p.2.1 p.2.2 ∧ p.2.2.ls.length ≤ 16
  pls : ∀ p ∈ x.pls, p.1.1.length = 32 ∧ p.2.ok ∧ p.2.ks.length ≤ x.names.length
  wrs : ∀ p ∈ x.wrs, p.1.length = 32 ∧ p.2.ok ∧ p.2.ks.length ≤ x.names.length
theorem DD.ok.entOk {x : DD} (h : x.ok) {k : List UInt8} {e : EV} (hg : Au x.ent k = some e) : e.1.ok := ⟨(h.ent _ (Cs hg)).2.1.1.ok⟩
theorem DD.ok.orpOk {x : DD} (h : x.ok) {k : List UInt8} {e : BV} (hg : Au x.orp k = some e) : e.1.ok := (h.orp _ (Cs hg)).2.1.1.ok
theorem DEnt.part {e : DEnt} (h : e.ok) (o n : Nat) (hn : o + n ≤ 131) : (e.cells.drop o).take n = (e.fBlock.cells.drop o).take n := by
  have hl := Block.length h.o_fBlock
  unfold DEnt.cells
  rw [List.drop_append_of_le_length oM, List.take_append_of_le_length (by rw [List.length_drop]; omega)]
theorem Held.more {cb cb2 : List Blk} {B : Block} {D : DB} (h : Held cb B D) (hs : ∀ b ∈ cb, b ∈ cb2) : Held cb2 B D := ⟨h.1, fun W hW => h.2 W (hW.sub hs)⟩

end Go.Proofs.YtfcbgdkpagcbbaaGreat
end

section
namespace Go.Proofs.YtfcbgdkpagcbbaaGreat
open Go Hw

def RowA (L : List (List UInt8)) (v : Value) (out : List Blk) : Prop := ∃ s : Sl, v = s.v ∧ Hw.Acc s out (A1 L) 25 L.length 32
theorem fresh_rowA {L : List (List UInt8)} {n : Nat} (hr : ∀ l ∈ L, l.length = 32) (hn : L.length = n) {v : Value} {out : List Blk} (h : FreshRow v out (A1 L) 25 n 32) : RowA L v out := by
  obtain ⟨q, c, h1, h2, h3⟩ := h
  subst h3; subst hn
  exact ⟨⟨some ⟨q, 0, none⟩, L.length, c⟩, h1, Acc.some h2 (A7 hr)⟩
theorem db_parA (B : Block) (D : DB) (hn : D.ls.length ≤ 500000) : Meets Tryz.prog 44 [agg B.cells] [] (fun W => BlockIs W B D) (RowA (Ca D)) := fun W hW => by
  have e1 := hW.ls.len
  have hsq := hW.seq
  have hL := parL_row hW.dok
  by_cases hs : (B.fSeq.toNat : Int) = 0
  · have hp : Ca D = D.ls := if_pos (by rw [← hsq]; exact UInt64.toNat_inj.1 (by show B.fSeq.toNat = 0; omega))
    rw [hp] at hL ⊢
    by_cases h0 : B.fLinks.n = 0
    · have hl0 : D.ls = [] := List.eq_nil_of_length_eq_zero oM
      exact (parents_nil B hW.ok D.ls oM hs h0 W hW.ls).mono fun e W' ⟨v, out, h1, ⟨h2, h3⟩, h4⟩ => ⟨v, out, h1, ⟨Sl.nil, h2, by rw [hl0, h3]; exact Acc.none⟩, h4⟩
    · exact (parents_0 B hW.ok D.ls oM hs oM W hW.ls).mono fun e W' ⟨v, out, h1, h2, h4⟩ => ⟨v, out, h1, fresh_rowA hL e1 h2, h4⟩
  · have hp : Ca D = D.prev :: D.ls := if_neg (fun e => hs (by rw [hsq, e]; rfl))
    rw [hp] at hL ⊢
    rw [← hW.prev] at hL ⊢
    exact (parents_s B hW.ok D.ls oM hs W hW.ls).mono fun e W' ⟨v, out, h1, h2, h4⟩ => ⟨v, out, h1, fresh_rowA hL (by rw [List.length_cons]; omega) h2, h4⟩
def DD.P (x : DD) : List (List UInt8 × DB) := x.ent.map fun p => (p.1, p.2.2)
theorem DD.getP (x : DD) (k : List UInt8) : Au x.P k = (Au x.ent k).map (·.2) := mget_map (fun e : EV => e.2) x.ent k
def wrongB (P : List (List UInt8 × DB)) (D : DB) : Bool := decide (D.seq ≠ 0) && (match Au P D.prev with | none => false | some e => decide (e.w ≠ D.w) || decide (e.seq ≠ D.seq - 1))
def readyB (P : List (List UInt8 × DB)) (D : DB) : Bool := (Ca D).all fun n => (Au P n).isSome
def Ch (P : List (List UInt8 × DB)) (D : DB) : Int := if wrongB P D = true then 2 else if readyB P D = true then 1 else 0
theorem parL_len (D : DB) : (Ca D).length ≤ D.ls.length + 1 := by unfold Ca; split <;> simp
theorem judge_wrong {P : List (List UInt8 × DB)} {D : DB} (h : wrongB P D = true) : Ch P D = 2 := if_pos h
theorem judge_waits {P : List (List UInt8 × DB)} {D : DB} (h : wrongB P D = false) {k : Nat} (hk : k < (Ca D).length) (hn : Au P ((Ca D).getD k []) = none) : Ch P D = 0 := by
  have h2 : readyB P D = false := by
    unfold readyB
    rw [List.all_eq_false]
    refine ⟨(Ca D)[k], List.getElem_mem hk, ?_⟩
    rw [List.getD_eq_getElem?_getD, List.getElem?_eq_getElem hk] at hn
    simp only [Option.getD_some] at hn
    rw [hn]; simp
  unfold Ch
  rw [h, h2]; rfl
theorem judge_fits {P : List (List UInt8 × DB)} {D : DB} (h : wrongB P D = false) (hall : ∀ j, j < (Ca D).length → (Au P ((Ca D).getD j [])).isSome = true) : Ch P D = 1 := by
  have h2 : readyB P D = true := by
    unfold readyB
    rw [List.all_eq_true]
    intro n hn
    obtain ⟨j, hj, rfl⟩ := List.getElem_of_mem hn
    have := hall j hj
    rwa [List.getD_eq_getElem?_getD, List.getElem?_eq_getElem hj] at this
  unfold Ch
  rw [h, h2]; rfl
theorem u64_ne {a b : UInt64} (h : ¬ ((a.toNat : Int) = (b.toNat : Int))) : a ≠ b := fun e => h (by rw [e])
theorem u64_eq {a b : UInt64} (h : (a.toNat : Int) = (b.toNat : Int)) : a = b := UInt64.toNat_inj.1 oM
theorem wrong_seq {P : List (List UInt8 × DB)} {D : DB} (h : D.seq = 0) : wrongB P D = false := by simp [wrongB, h]
theorem wrong_none {P : List (List UInt8 × DB)} {D : DB} (h : Au P D.prev = none) : wrongB P D = false := by simp [wrongB, h]
theorem wrong_some {P : List (List UInt8 × DB)} {D e : DB} (hs : D.seq ≠ 0) (h : Au P D.prev = some e) : wrongB P D = (decide (e.w ≠ D.w) || decide (e.seq ≠ D.seq - 1)) := by simp [wrongB, h, hs]
def DagSee (x : DD) (p : Nat) (W : World) : Prop := BlkOk W ⟨p, [ptr p 0, x.nm.v, .map (some x.bE), .map (some x.bH), .map (some x.bO), .map (some x.bP), .map (some x.bW)], 75, 7⟩ ∧ BlkOk W (A0 x.bE (As 32 evE) x.ent)
theorem DagSee.of {C : Cx} {x : DD} {p : Nat} {hp : List Blk} {w : World} (hh : HRep C hp w) (h1 : ⟨p, [ptr p 0, x.nm.v, .map (some x.bE), .map (some x.bH), .map (some x.bO), .map (some x.bP), .map (some x.bW)], 75, 7⟩ ∈ hp) (h2 : A0 x.bE (As 32 evE) x.ent ∈ hp) : DagSee x p w := ⟨hh.cells _ h1, hh.cells _ h2⟩
theorem DagSee.at {x : DD} {p : Nat} {W : World} (h : DagSee x p W) {o : Nat} {v : Value} (hv : [ptr p 0, x.nm.v, .map (some x.bE), .map (some x.bH), .map (some x.bO), .map (some x.bP), .map (some x.bW)][o]? = some v) : W.cell? ⟨p, o, none⟩ = some v := h.1.cell hv
theorem DagSee.ext {C : Cx} {x : DD} {p : Nat} {hp : List Blk} {w : World} (hh : HRep C hp w) (h : DagSee x p C.W0) (hl : C.lent = [] := by rfl) : DagSee x p w := ⟨mblk_keep h.1 hh hl, mblk_keep h.2 hh hl⟩

theorem dag_new  : Meets Tryz.prog 23 [] [] (fun _ => True) (fun v out => ∃ p bE bH bO bP bW, v = ptr p 0 ∧ out = (⟨Sl.nil, [], [], [], [], [], [], [], [], bE, bH, bO, bP, bW⟩ : DD).blks p) := by
 intro W hW
 refine Ac Tryz.func23 J 14 Tryz.ntmps23 J (G7 ?_)
 refine .mkMap (As 32 evE) J J ?_
 intro bE
 refine .mkMap (As 32 evU) J J ?_
 intro bH
 refine .mkMap (As 32 evB) J J ?_
 intro bO
 refine .mkMap (placeT 32 evR) J J ?_
 intro bP
 refine .mkMap (As 32 evR) J J ?_
 intro bW
 refine .build (cs := [.pointer none, .slice none 0 0, .map (some bE), .map (some bH), .map (some bO), .map (some bP), .map (some bW)]) J J J (fun w => by kernel_rfl) ?_
 refine G1 ?_
 intro n8 hn8 hf8
 refine G9 ?_
 refine .s1 J J J J J Sz35 Z0 sP (by rfl) zU ?_
 refine G8 ?_
 -- ret
 refine G2 ?_
 refine Az (out := (⟨n8, [ptr n8 0, .slice none 0 0, .map (some bE), .map (some bH), .map (some bO), .map (some bP), .map (some bW)], 75, 7⟩ :: (A0 bE (As 32 evE) [] :: (A0 bH (As 32 evU) [] :: (A0 bO (As 32 evB) [] :: (A0 bP (placeT 32 evR) [] :: (A0 bW (As 32 evR) [] :: []))))))) (Al J J) (Ab rM (Ab rM (Ab rM (Ab rM (Ab rM (Ab rM Ak)))))) ?_
 exact ⟨n8, bE, bH, bO, bP, bW, rfl, rfl⟩

theorem dag_valid (x : DD) (p : Nat) : Meets Tryz.prog 33 [ptr p 0] [] (fun W => DagSee x p W) (fun v out => v = .bool true ∧ out = []) := by
 intro W hW
 refine Ac Tryz.func33 J 13 Tryz.ntmps33 J (G8 ?_)
 refine .neqNilP J J J J Y35.h (G4 ?_)
 refine .loadE J J J Y35.h J sP (hW.at (o := 0) J) (G1 ?_)
 refine .eqSameP J J J J Y35.h Sz75 (G4 ?_)
 -- ret
 refine G2 ?_
 refine ⟨_, [], Al J J, sP, sP, ?_, rfl⟩
 rfl

theorem dag_has (x : DD) (hx : x.ok) (p : Nat) (n : List UInt8) (h32 : n.length = 32) : Meets Tryz.prog 13 [ptr p 0, agg (Aa n)] [] (fun W => DagSee x p W) (fun v out => v = .bool (Au x.ent n).isSome ∧ out = []) := by
 intro W hW
 refine Ac Tryz.func13 J 20 Tryz.ntmps13 J (G3 ?_)
 intro n3 hn3 hf3
 refine G7 ?_
 refine .cV J J J J Body33 (dag_valid x p) (fun w h => hW.ext h) (G3 ?_)
 refine .cond_f J J (G3 ?_)
 refine .draw [(0, 0), (0, 1), (0, 2), (1, 3), (1, 4), (1, 5), (0, 6), (0, 7), (0, 8), (2, 9), (4, 10), (0, 11)] Ap zK (G3 ?_)
 refine .loadE J J J Y69.h J sP (hW.at (o := 2) J) (.lA J J J Y25.h J Sz25 Z0 (by (simp [h32]; done)) ?_)
 refine .lookFC evE ME hW.2 sP J J J J h32 (fun hg => ?_) (fun e hg => ?_)
 ·
  skip
  refine G3 ?_
  refine .alloc (cs := DEnt.zero.cells) J DEnt.zr J ?_
  intro n5 hn5 hf5
  refine G10 ?_
  -- ret
  refine G2 ?_
  refine ⟨_, [], Al J J, sP, sP, ?_, rfl⟩
  rw [hg]; rfl
 skip
 refine G3 ?_
 refine .alloc (cs := DEnt.zero.cells) J DEnt.zr J ?_
 intro n5 hn5 hf5
 refine .sA J J J J (DEnt.isCell (by exact hx.entOk hg)) Sz79 (DEnt.length (by exact hx.entOk hg)) Z0 (DEnt.length (by exact DEnt.zero_ok)) zU ?_
 refine G9 ?_
 -- ret
 refine G2 ?_
 refine ⟨_, [], Al J J, sP, sP, ?_, rfl⟩
 rw [hg]; rfl
theorem dag_judge (x : DD) (hx : x.ok) (p : Nat) (B : Block) (D : DB) (hB : SameB B D) (hs : D.ls.length ≤ 500000) : Meets Tryz.prog 36 [ptr p 0, agg B.cells] [] (fun W => DagSee x p W ∧ BlockIs W B D) (fun v out => v = i64 (Ch x.P D) ∧ out = []) := by
 intro W hW
 have hrow0 := parL_row hW.2.dok
 refine Ac Tryz.func36 J 61 Tryz.ntmps36 J (G3 ?_)
 intro n3 hn3 hf3
 refine G3 ?_
 refine .join (ι := Unit) (fun u => ⟨[(0, ptr p 0), (3, ptr n3 0)], [⟨n3, B.cells, 31, B.cells.length⟩]⟩) (fun u => wrongB x.P D = false) ?_ ?_
 ·
  refine G3 ?_
  refine .load1 J J J Y24.h J Z0 (by exact Block.get_fSeq (by exact hB.ok)) ?_
  refine G3 ?_
  refine .condP J (fun hc0 => ?_) (fun hc0 => ?_)
  ·
   refine .seq (.draw [(0, 0), (0, 1), (0, 2), (1, 3), (0, 4), (1, 5), (1, 6), (0, 7), (0, 8), (0, 9), (2, 10), (4, 11), (0, 12)] Ap zK (G3 ?_))
   refine .loadE J J J Y69.h J sP (hW.1.at (o := 2) J) (G1 ?_)
   refine .lN (Aa _) J J J Y25.h J Sz25 Z0 (Block.row_fPrev (by exact hB.ok)) (Block.rl_fPrev (by exact hB.ok)) ?_
   refine .lookFC evE ME hW.1.2 sP J J J J hB.ok.l_fPrev (fun hg => ?_) (fun e hg => ?_)
   ·
    skip
    refine G3 ?_
    refine .alloc (cs := DEnt.zero.cells) J DEnt.zr J ?_
    intro n5 hn5 hf5
    refine G26 ?_
    refine .cond_f J J (G2 ?_)
    exact ⟨(), wrong_none (by rw [x.getP, ← hB.prev, hg]; rfl), Ao (wk1 rfl (wk1 rfl wk0)) (Ab rM Ak)⟩
   have he := (hx.ent _ (Cs hg)).2.1.1
   have hP : Au x.P D.prev = some e.2 := by rw [x.getP, ← hB.prev, hg]; rfl
   have hsq : D.seq ≠ 0 := fun h => by rw [hB.seq, h] at hc0; simp at hc0
   refine G3 ?_
   refine .alloc (cs := DEnt.zero.cells) J DEnt.zr J ?_
   intro n5 hn5 hf5
   refine .sA J J J J (DEnt.isCell (by exact hx.entOk hg)) Sz79 (DEnt.length (by exact hx.entOk hg)) Z0 (DEnt.length (by exact DEnt.zero_ok)) zU ?_
   refine G9 ?_
   have hwl := (hx.entOk hg).o_fBlock.l_fWriter
   refine .lN (Aa e.1.fBlock.fWriter) J J J Y23.h J Sz23 Z0 ((DEnt.part (hx.entOk hg) 0 32 dE).trans (Block.row_fWriter (hx.entOk hg).o_fBlock)) (by rw [Aa, List.length_map]; exact hwl) ?_
   refine G1 ?_
   refine .lN (Aa _) J J J Y23.h J Sz23 Z1 (Block.row_fWriter (by exact hB.ok)) (Block.rl_fWriter (by exact hB.ok)) ?_
   refine two (fun r hr k => Tr.neq_bytes J J J J Tryz.eqGuardType23 Y23.h Y5.h Sz5 zA (by (simp [hB.ok.l_fWriter]; done)) hr k) (fun hs3_70 => ?_) (fun hs3_70 => ?_)
   ·
    have hs3_7 := nd_t hs3_70
    refine G12 ?_
    refine .cond_t J J (G5 ?_)
    -- ret
    refine G3 ?_
    refine ⟨_, [], Al J J, sP, sP, ?_, rfl⟩
    rw [judge_wrong (by rw [wrong_some hsq hP, ← he.w, ← hB.w]; simp [hs3_7])]
   have hs3_7 := nd_f hs3_70
   refine G3 ?_
   refine .load1 J J J Y24.h J Z0 (DEnt.see_fBlock (hx.entOk hg) 32 _ (Block.get_fSeq (hx.entOk hg).o_fBlock)) ?_
   refine G1 ?_
   refine .load1 J J J Y24.h J Z1 (by exact Block.get_fSeq (by exact hB.ok)) ?_
   refine .sub_u64 J J J (show Ag _ _ = some (u64 1) from rfl) (G5 ?_)
   refine .condNP J (fun hc1 => ?_) (fun hc1 => ?_)
   ·
    refine G5 ?_
    -- ret
    refine G3 ?_
    refine ⟨_, [], Al J J, sP, sP, ?_, rfl⟩
    rw [judge_wrong (by have h9 := u64_ne hc1; rw [wrong_some hsq hP, ← he.seq, ← hB.seq]; simp [h9])]
   refine G2 ?_
   exact ⟨(), (by have h9 := u64_eq hc1; rw [wrong_some hsq hP, ← he.w, ← he.seq, ← hB.w, ← hB.seq, hs3_7, h9]; simp), Ao (wk1 rfl (wk1 rfl wk0)) (Ab rM Ak)⟩
  refine G2 ?_
  exact ⟨(), wrong_seq (by rw [← hB.seq]; exact u64_eq (b := 0) (by have h9 : ((0 : UInt64).toNat : Int) = 0 := rfl; omega)), Ao (wk1 rfl (wk1 rfl wk0)) (Ab rM Ak)⟩
 intro u hj
 skip
 refine G3 ?_
 refine .lA J J J Y31.h J Sz31 Z0 (Block.length (by exact hB.ok)) ?_
 refine .call4 J J J J J Body44 (db_parA B D hs) (fun w h => hW.2.ext h J) ?_
 rintro v43 out43 ⟨s43, rfl, hac⟩
 have hn43 : s43.n = (Ca D).length := hac.num
 refine G5 ?_
 refine .loop (ι := Nat) (fun k => ⟨[(0, ptr p 0), (3, ptr n3 0), (43, s43.v), (44, i64 (s43.n : Int)), (45, i64 (k : Int))], (⟨n3, B.cells, 31, B.cells.length⟩ :: (out43 ++ []))⟩) (fun k => k ≤ (Ca D).length ∧ ∀ j, j < k → (Au x.P ((Ca D).getD j [])).isSome = true) (fun k => (Ca D).length - k) (0) ?_ ?_ ?_
 · exact ⟨Nat.zero_le _, fun j hj => by omega⟩
 · exact Ao (wk1 rfl (wk1 rfl (wk1 rfl (wk1 rfl (wk1 rfl wk0))))) (Ab (by repeat (first | exact A5 | apply Cn)) (Af sG Ak))
 rintro k ⟨hk0, hall⟩
 refine G6 ?_
 refine .condP J (fun hc2 => ?_) (fun hc2 => ?_)
 ·
  refine G6 ?_
  have hk : k < (Ca D).length := by omega
  have hkb : k ≤ 600000 := by have := parL_len D; omega
  rcases hac with ⟨_, _, _, h0⟩ | ⟨qr, cr, rfl, hnc, hfl, rfl⟩
  · exfalso; omega
  have hrow := hrow0
  obtain ⟨kk, hkk⟩ : ∃ kk, kk = (Ca D).getD k [] := ⟨_, rfl⟩
  have h32k : kk.length = 32 := by rw [hkk, List.getD_eq_getElem?_getD, List.getElem?_eq_getElem hk]; exact hrow _ (List.getElem_mem hk)
  refine .idxSlP 32 J J J J J Y26.h Sz25 k J oM (.loadSN (n := 32) (Aa kk) J J J Y25.h J Sz25 (by rw [Aa, List.length_map]; exact h32k) (fun w h => by rw [hkk]; simpa using sees_row hrow (Ar h Z1) hk) ?_)
  refine .alloc (cs := (Aa (List.replicate 32 0))) J Zr25 J ?_
  intro n8 hn8 hf8
  refine .sA J J J J zE Sz25 (by (rw [Aa, List.length_map]; assumption)) Z0 sP zU ?_
  refine G3 ?_
  refine .draw [(0, 0), (0, 1), (0, 2), (1, 3), (1, 4), (1, 5), (0, 6), (0, 7), (0, 8), (2, 9), (4, 10), (0, 11)] Ap zK (G3 ?_)
  refine .loadE J J J Y69.h J sP (hW.1.at (o := 2) J) (.lA J J J Y25.h J Sz25 Z0 (by (rw [Aa, List.length_map]; assumption)) ?_)
  refine .lookFC evE ME hW.1.2 sP J J J J h32k (fun hg => ?_) (fun e hg => ?_)
  ·
   skip
   refine G3 ?_
   refine .alloc (cs := DEnt.zero.cells) J DEnt.zr J ?_
   intro n9 hn9 hf9
   refine G10 ?_
   refine .cond_t J J (G5 ?_)
   -- ret
   refine G7 ?_
   refine ⟨_, [], Al J J, sP, sP, ?_, rfl⟩
   rw [judge_waits hj hk (by rw [← hkk, x.getP, hg]; rfl)]
  skip
  refine G3 ?_
  refine .alloc (cs := DEnt.zero.cells) J DEnt.zr J ?_
  intro n9 hn9 hf9
  refine .sA J J J J (DEnt.isCell (by exact hx.entOk hg)) Sz79 (DEnt.length (by exact hx.entOk hg)) Z0 (DEnt.length (by exact DEnt.zero_ok)) zU ?_
  refine G9 ?_
  refine .cond_f J J (G8 ?_)
  exact ⟨k + 1, ⟨hk, fun j hj => by rcases Nat.lt_or_eq_of_le (Nat.le_of_lt_succ hj) with h | h; exact hall j h; rw [h, ← hkk, x.getP, hg]; rfl⟩, by omega, Ao (wk1 rfl (wk1 rfl (wk1 rfl (wk1 rfl (wk1 rfl wk0))))) (Ab rM (Af sG Ak))⟩
 refine G10 ?_
 -- ret
 refine G2 ?_
 refine ⟨_, [], Al J J, sP, sP, ?_, rfl⟩
 rw [judge_fits hj (by rw [Nat.le_antisymm hk0 oM] at hall; exact hall)]

theorem dag_clone (B : Block) (D : DB) (hB : SameB B D) (h1 : D.ls.length ≤ 90000) (h2 : D.ds.length ≤ 90000) : Meets Tryz.prog 37 [agg B.cells] [] (fun W => BlockIs W B D) (BlkV D) := by
 intro W hW
 have f1 : (A1 D.ls).length = B.fLinks.n * 32 := by rw [A7 hW.ls.row, hW.ls.len]
 have f2 : (Aa D.ds).length = B.fData.n * 1 := by rw [Aa, List.length_map, hB.dn]; omega
 have g1 := hB.ln
 have g2 := hB.dn
 refine Ac Tryz.func37 J 12 Tryz.ntmps37 J (G3 ?_)
 intro n1 hn1 hf1
 refine .alloc (cs := Block.zero.cells) J Block.zr J ?_
 intro n2 hn2 hf2
 refine G3 ?_
 refine .draw [(0, 0), (1, 1), (0, 3), (1, 4), (3, 2), (0, 6), (3, 5), (4, 7), (0, 8), (4, 9)] Ap zK (G1 ?_)
 refine .load1 J J J Y26.h J Z1 (by exact Block.get_fLinks (by exact hB.ok)) ?_
 refine G1 ?_
 refine .load1 J J J Y27.h J Z1 (by exact Block.get_fData (by exact hB.ok)) ?_
 refine .call J J J J Body42 (cl_digs B.fLinks D.ls oM) (acc_loose _ _ _ _ f1) (fun w h => (hW.ext h J).ls) ?_
 rintro v5 out5 ⟨⟨p5, n5, c5⟩, rfl, hac5⟩
 have hn5 := hac5.num
 refine G1 ?_
 refine .call J J J J Body65 (cl_byte B.fData D.ds oM) (acc_loose _ _ _ _ f2) (fun w h => (hW.ext h J).ds) ?_
 rintro v8 out8 ⟨⟨p8, n8, c8⟩, rfl, hac8⟩
 have hn8 := hac8.num
 refine .s1 J J J J J Sz26 mR (by rw [Block.length (by exact hB.ok)]; decide) (by exact Block.set_fLinks (by exact hB.ok) _) uU ?_
 refine G1 ?_
 refine .s1 J J J J J Sz27 mR (by rw [Block.length (by exact ⟨hB.ok.l_fWriter, hB.ok.l_fPrev, hB.ok.l_fSig⟩)]; decide) (by exact Block.set_fData (by exact ⟨hB.ok.l_fWriter, hB.ok.l_fPrev, hB.ok.l_fSig⟩) _) uU ?_
 refine G4 ?_
 refine .lA J J J Y31.h J Sz31 mR (Block.length (by exact ⟨hB.ok.l_fWriter, hB.ok.l_fPrev, hB.ok.l_fSig⟩)) ?_
 refine .sA J J J J (Block.isCell (by exact ⟨hB.ok.l_fWriter, hB.ok.l_fPrev, hB.ok.l_fSig⟩)) Sz31 (Block.length (by exact ⟨hB.ok.l_fWriter, hB.ok.l_fPrev, hB.ok.l_fSig⟩)) mR (Block.length (by exact Block.zero_ok)) (by (repeat (first | exact upd0 | apply Upd.seg))) ?_
 refine G2 ?_
 -- ret
 refine G2 ?_
 refine Az (out := (out8 ++ (out5 ++ []))) (An J J Y31.h J Sz31 mR (by exact Block.length (by exact ⟨hB.ok.l_fWriter, hB.ok.l_fPrev, hB.ok.l_fSig⟩))) (Af sG (Af sG Ak)) ?_
 exact ⟨{ B with fLinks := ⟨p5, n5, c5⟩, fData := ⟨p8, n8, c8⟩ }, ⟨⟨hB.ok.l_fWriter, hB.ok.l_fPrev, hB.ok.l_fSig⟩, hB.w, hB.seq, hB.prev, hB.sg, hn5.trans g1, hn8.trans g2⟩, rfl, fun W2 hl => ⟨⟨hB.ok.l_fWriter, hB.ok.l_fPrev, hB.ok.l_fSig⟩, hB.w, hB.seq, hB.prev, acc_rows hac5 (hl.sub (by repeat (first | exact Bf | refine in_seg ?_))) hW.ls.row hW.ls.len oM, acc_bytes hac8 (hl.sub (by repeat (exact Bf))) g2.symm oM, hB.sg⟩⟩

def stepD (ent : List (List UInt8 × EV)) (d : Int) (n : List UInt8) : Int := if ((Au ent n).map fun e => e.1.fDepth).getD 0 + 1 > d then ((Au ent n).map fun e => e.1.fDepth).getD 0 + 1 else d
def depL (ent : List (List UInt8 × EV)) (L : List (List UInt8)) : Int := L.foldl (stepD ent) 0
def delL (hds : List (List UInt8 × Unit)) (L : List (List UInt8)) : List (List UInt8 × Unit) := L.foldl mdel hds
theorem take_one {α : Type} {L : List α} {k : Nat} {a : α} {d : α} (hk : k < L.length) (ha : a = L.getD k d) : L.take (k + 1) = L.take k ++ [a] := by
  rw [ha, List.getD_eq_getElem?_getD, List.getElem?_eq_getElem hk, List.take_succ_eq_append_getElem hk]; rfl
theorem depL_none {x : DD} {L : List (List UInt8)} {k : Nat} {a : List UInt8} (hk : k < L.length) (ha : a = L.getD k []) (h : Au x.ent a = none) : depL x.ent (L.take (k + 1)) = if (0 : Int) + 1 > depL x.ent (L.take k) then 0 + 1 else depL x.ent (L.take k) := by
  unfold depL
  rw [take_one hk ha, List.foldl_append]
  simp only [List.foldl_cons, List.foldl_nil, stepD, h, Option.map_none, Option.getD_none]
theorem depL_some {x : DD} {L : List (List UInt8)} {k : Nat} {a : List UInt8} {e : EV} (hk : k < L.length) (ha : a = L.getD k []) (h : Au x.ent a = some e) : depL x.ent (L.take (k + 1)) = if e.1.fDepth + 1 > depL x.ent (L.take k) then e.1.fDepth + 1 else depL x.ent (L.take k) := by
  unfold depL
  rw [take_one hk ha, List.foldl_append]
  simp only [List.foldl_cons, List.foldl_nil, stepD, h, Option.map_some, Option.getD_some]
theorem delL_one {hds : List (List UInt8 × Unit)} {L : List (List UInt8)} {k : Nat} {a : List UInt8} (hk : k < L.length) (ha : a = L.getD k []) : delL hds (L.take (k + 1)) = mdel (delL hds (L.take k)) a := by
  unfold delL
  rw [take_one hk ha, List.foldl_append]; rfl
theorem delL_mem {hds : List (List UInt8 × Unit)} {L : List (List UInt8)} : ∀ p ∈ delL hds L, p ∈ hds := by
  unfold delL
  induction L generalizing hds with
  | nil => intro p h; exact h
  | cons a L ih => intro p h; exact mdel_mem (ih p h)
theorem delL_len {hds : List (List UInt8 × Unit)} {L : List (List UInt8)} : (delL hds L).length ≤ hds.length := by
  unfold delL
  induction L generalizing hds with
  | nil => exact Nat.le_refl _
  | cons a L ih => exact Nat.le_trans ih (mdel_len _ _)
def DD.adm (x : DD) (s : Sl) (bl : List Blk) (n : List UInt8) (B : Block) (D : DB) (rp rw : RV) : DD :=
  { x with nm := s, nb := bl, names := x.names ++ [n], ent := Bh x.ent n (⟨B, depL x.ent (Ca D)⟩, D), hds := Bh (delL x.hds (Ca D)) n (), pls := Bh x.pls (B.fWriter, B.fSeq) rp, wrs := Bh x.wrs B.fWriter rw }
def MoreR (old : Option RV) (n : List UInt8) (r : RV) : Prop := r.ok ∧ r.ks = (old.getD RV.none).ks ++ [n]
theorem DD.ok.plsR {x : DD} (hx : x.ok) (k : List UInt8 × UInt64) : ((Au x.pls k).getD RV.none).ok ∧ ((Au x.pls k).getD RV.none).ks.length ≤ x.names.length := by
  cases h : Au x.pls k with
  | none => exact ⟨RV.none_ok, Nat.zero_le _⟩
  | some r => exact (hx.pls _ (Cs h)).2
theorem DD.ok.wrsR {x : DD} (hx : x.ok) (k : List UInt8) : ((Au x.wrs k).getD RV.none).ok ∧ ((Au x.wrs k).getD RV.none).ks.length ≤ x.names.length := by
  cases h : Au x.wrs k with
  | none => exact ⟨RV.none_ok, Nat.zero_le _⟩
  | some r => exact (hx.wrs _ (Cs h)).2
theorem depL_le {x : DD} (hx : x.ok) (L : List (List UInt8)) : 0 ≤ depL x.ent L ∧ depL x.ent L ≤ x.names.length + 1 := by
  have key : ∀ (L : List (List UInt8)) (d : Int), 0 ≤ d → d ≤ x.names.length + 1 → 0 ≤ L.foldl (stepD x.ent) d ∧ L.foldl (stepD x.ent) d ≤ x.names.length + 1 := by
    intro L
    induction L with
    | nil => intro d h0 h1; exact ⟨h0, h1⟩
    | cons a L ih =>
      intro d h0 h1
      refine ih _ ?_ ?_ <;> unfold stepD <;> cases h : Au x.ent a with
      | none => simp only [Option.map_none, Option.getD_none]; split <;> omega
      | some e =>
        have := (hx.ent _ (Cs h)).2.2
        simp only [Option.map_some, Option.getD_some]
        simp only at this
        split <;> omega
  exact key L 0 (Int.le_refl _) oM
theorem DD.ok.adm {x : DD} (hx : x.ok) {s : Sl} {bl : List Blk} {n : List UInt8} {B : Block} {D : DB} {rp rw : RV} (h32 : n.length = 32) (hB : Held x.cb B D) (hroom : x.names.length + x.orp.length < 20000)
    (hs : Hw.Acc s bl (A1 x.names ++ Aa n) 25 (x.names.length + 1) 32) (hp : MoreR (Au x.pls (B.fWriter, B.fSeq)) n rp) (hw : MoreR (Au x.wrs B.fWriter) n rw) : (x.adm s bl n B D rp rw).ok where
  nm := by
    show Hw.Acc s bl (A1 (x.names ++ [n])) 25 (x.names ++ [n]).length 32
    rw [List.length_append, flatB_append]
    simpa [A1] using hs
  n32 := fun l hl => by rcases List.mem_append.1 hl with h | h; exact hx.n32 l h; rw [List.mem_singleton.1 h]; exact h32
  big := by show (x.names ++ [n]).length + x.orp.length ≤ 20000; rw [List.length_append, List.length_singleton]; omega
  ent := fun p hp => by
    have e : ((x.names ++ [n]).length : Int) = x.names.length + 1 := by rw [List.length_append, List.length_singleton]; rfl
    show p.1.length = 32 ∧ Held x.cb p.2.1.fBlock p.2.2 ∧ 0 ≤ p.2.1.fDepth ∧ p.2.1.fDepth ≤ ((x.names ++ [n]).length : Int)
    rw [e]
    rcases mput_mem hp with h | h
    · have := hx.ent p h
      exact ⟨this.1, this.2.1, this.2.2.1, by omega⟩
    · subst h
      exact ⟨h32, hB, depL_le hx _⟩
  entn := by
    show (Bh x.ent n _).length ≤ (x.names ++ [n]).length
    rw [List.length_append, List.length_singleton]
    exact Nat.le_trans (mput_len ..) (by have := hx.entn; omega)
  hds := fun p hp => by
    rcases mput_mem hp with h | h
    · exact hx.hds p (delL_mem p h)
    · subst h; exact h32
  hdsn := by
    show (Bh _ n _).length ≤ (x.names ++ [n]).length
    rw [List.length_append, List.length_singleton]
    exact Nat.le_trans (mput_len ..) (by have := hx.hdsn; have := @delL_len x.hds (Ca D); omega)
  orp := hx.orp
  orpn := hx.orpn
  pls := fun p h => by
    show p.1.1.length = 32 ∧ p.2.ok ∧ p.2.ks.length ≤ (x.names ++ [n]).length
    rw [List.length_append, List.length_singleton]
    rcases mput_mem h with h | h
    · have := hx.pls p h
      exact ⟨this.1, this.2.1, by omega⟩
    · subst h
      refine ⟨hB.1.ok.l_fWriter, hp.1, ?_⟩
      show rp.ks.length ≤ _
      rw [hp.2, List.length_append, List.length_singleton]
      have := (hx.plsR (B.fWriter, B.fSeq)).2
      omega
  wrs := fun p h => by
    show p.1.length = 32 ∧ p.2.ok ∧ p.2.ks.length ≤ (x.names ++ [n]).length
    rw [List.length_append, List.length_singleton]
    rcases mput_mem h with h | h
    · have := hx.wrs p h
      exact ⟨this.1, this.2.1, by omega⟩
    · subst h
      refine ⟨hB.1.ok.l_fWriter, hw.1, ?_⟩
      show rw.ks.length ≤ _
      rw [hw.2, List.length_append, List.length_singleton]
      have := (hx.wrsR B.fWriter).2
      omega

theorem dag_admit (x : DD) (hx : x.ok) (p : Nat) (n : List UInt8) (h32 : n.length = 32) (B : Block) (D : DB) (hB : Held x.cb B D) (hs : D.ls.length ≤ 500000) (hroom : x.names.length + x.orp.length < 20000) : Meets Tryz.prog 38 [ptr p 0, agg (Aa n), agg B.cells] ((x.blks p).map (·.n)) (fun W => Lent (x.blks p) W) (fun v out => v = .tuple #[] ∧ ∃ s bl rp rw, out = (x.adm s bl n B D rp rw).blks p ∧ (x.adm s bl n B D rp rw).ok ∧ MoreR (Au x.pls (B.fWriter, B.fSeq)) n rp ∧ MoreR (Au x.wrs B.fWriter) n rw) := by
 intro W hW
 have hbd := hB.2 W (hW.1.sub (by unfold DD.blks; exact (by repeat (first | exact Bf | refine Bp ?_ | refine in_seg ?_))))
 have hrow := parL_row hbd.dok
 have hwp : ((⟨B.fWriter, B.fSeq⟩ : DPl)).ok := ⟨hB.1.ok.l_fWriter⟩
 have hbig := hx.big
 refine calls_of (hp0 := (⟨p, [ptr p 0, x.nm.v, .map (some x.bE), .map (some x.bH), .map (some x.bO), .map (some x.bP), .map (some x.bW)], 75, 7⟩ :: A0 x.bE (As 32 evE) (x.ent) :: A0 x.bH (As 32 evU) (x.hds) :: A0 x.bO (As 32 evB) (x.orp) :: A0 x.bP (placeT 32 evR) (x.pls) :: A0 x.bW (As 32 evR) (x.wrs) :: (x.nb ++ (x.cb ++ (rbl x.pls ++ (rbl x.wrs ++ [])))))) Tryz.func38 J 85 Tryz.ntmps38 J hW.rep (G3 ?_)
 intro n4 hn4 hf4
 refine G1 ?_
 intro n5 hn5 hf5
 refine G10 ?_
 refine .lA J J J Y31.h J Sz31 Z0 (Block.length (by exact hB.1.ok)) ?_
 refine .call4 J J J J J Body44 (db_parA B D hs) (fun w h => hB.2 w (Lies.of h (by repeat (first | exact Bf | refine Bp ?_ | refine in_seg ?_)))) ?_
 rintro v11 out11 ⟨s11, rfl, hac⟩
 have hn11 : s11.n = (Ca D).length := hac.num
 refine G5 ?_
 refine .loop (ι := Nat × Int × List (List UInt8 × Unit)) (fun q => ⟨[(0, ptr p 0), (4, ptr n4 0), (5, ptr n5 0), (6, i64 q.2.1), (11, s11.v), (12, i64 (s11.n : Int)), (13, i64 (q.1 : Int))], (⟨n5, B.cells, 31, B.cells.length⟩ :: (⟨n4, Aa n, 25, (Aa n).length⟩ :: (⟨p, [ptr p 0, x.nm.v, .map (some x.bE), .map (some x.bH), .map (some x.bO), .map (some x.bP), .map (some x.bW)], 75, 7⟩ :: (A0 x.bE (As 32 evE) (x.ent) :: (A0 x.bH (As 32 evU) (q.2.2) :: (A0 x.bO (As 32 evB) (x.orp) :: (A0 x.bP (placeT 32 evR) (x.pls) :: (A0 x.bW (As 32 evR) (x.wrs) :: (x.nb ++ (x.cb ++ (rbl x.pls ++ (rbl x.wrs ++ (out11 ++ [])))))))))))))⟩) (fun q => q.1 ≤ (Ca D).length ∧ q.2.1 = depL x.ent ((Ca D).take q.1) ∧ q.2.2 = delL x.hds ((Ca D).take q.1)) (fun q => (Ca D).length - q.1) ((0, 0, x.hds)) ?_ ?_ ?_
 · exact ⟨Nat.zero_le _, rfl, rfl⟩
 · exact Ao (wk1 rfl (wk1 rfl (wk1 rfl (wk1 rfl (wk1 rfl (wk1 rfl (wk1 rfl wk0))))))) (Ab (by repeat (first | exact A5 | apply Cn)) (Ab (by repeat (first | exact A5 | apply Cn)) (Ab (by repeat (first | exact A5 | apply Cn)) (Ab (by repeat (first | exact A5 | apply Cn)) (Ab (by repeat (first | exact A5 | apply Cn)) (Ab (by repeat (first | exact A5 | apply Cn)) (Ab (by repeat (first | exact A5 | apply Cn)) (Ab (by repeat (first | exact A5 | apply Cn)) (Af (by repeat (first | exact Cm | apply sg_seg)) (Af (by repeat (first | exact Cm | apply sg_seg)) (Af (by repeat (first | exact Cm | apply sg_seg)) (Af (by repeat (first | exact Cm | apply sg_seg)) (Af sG Ak)))))))))))))
 rintro ⟨k, dp, hd⟩ ⟨hk0, hdp, hhd⟩
 simp only at hk0 hdp hhd ⊢
 have hdl := depL_le hx ((Ca D).take k)
 rw [← hdp] at hdl
 refine G6 ?_
 refine .condP J (fun hc0 => ?_) (fun hc0 => ?_)
 ·
  refine G6 ?_
  have hk : k < (Ca D).length := by omega
  have hkb : k ≤ 600000 := by have := parL_len D; omega
  rcases hac with ⟨_, _, _, h0⟩ | ⟨qr, cr, rfl, hnc, hfl, rfl⟩
  · exfalso; omega
  obtain ⟨kk, hkk⟩ : ∃ kk, kk = (Ca D).getD (k) [] := ⟨_, rfl⟩
  have h32k : kk.length = 32 := by rw [hkk, List.getD_eq_getElem?_getD, List.getElem?_eq_getElem hk]; exact hrow _ (List.getElem_mem hk)
  refine .idxSlP 32 J J J J J Y26.h Sz25 (k) J oM (.loadSN (n := 32) (Aa kk) J J J Y25.h J Sz25 (by rw [Aa, List.length_map]; exact h32k) (fun w h => by rw [hkk]; simpa using sees_row hrow (Ar h mR) hk) ?_)
  refine .alloc (cs := (Aa (List.replicate 32 0))) J Zr25 J ?_
  intro n8 hn8 hf8
  refine .sA J J J J zE Sz25 (by (rw [Aa, List.length_map]; assumption)) Z0 sP zU ?_
  refine G3 ?_
  refine .draw [(0, 0), (0, 1), (0, 2), (0, 3), (1, 4), (1, 5), (1, 6), (0, 7), (0, 8), (0, 9), (0, 10)] Ap zK (G5 ?_)
  refine .lA J J J Y25.h J Sz25 Z0 (by (rw [Aa, List.length_map]; assumption)) ?_
  refine .lookG evE ME J J J J h32k Z4 (fun hg => ?_) (fun e hg => ?_)
  ·
   have hdv : DEnt.zero.fDepth = 0 := rfl
   refine .field1 J J J Y79.h J Y3.h J (DEnt.get_fDepth DEnt.zero_ok) (G1 ?_)
   refine .max2 J J J J (rfl) (G3 ?_)
   refine .draw [(0, 0), (0, 1), (0, 2), (1, 3), (1, 4), (4, 5)] Ap zK (G4 ?_)
   refine .lA J J J Y25.h J Sz25 Z0 (by (rw [Aa, List.length_map]; assumption)) ?_
   refine .mapDel MH J J J J h32k rM ?_
   refine G8 ?_
   refine ⟨(k + 1, _, _), ⟨hk, ?_, ?_⟩, by simp only; omega, Ao (wk1 J (wk1 J (wk1 J (wk1 J (wk1 J (wk1 J (wk1 J wk0))))))) (Ab rM (Ab rM (Ab rM (Ab rM (Ab rM (Ab rM (Ab rM (Ab rM (Af sG (Af sG (Af sG (Af sG (Af sG Ak)))))))))))))⟩
   · rw [depL_none hk hkk hg, ← hdp]; rfl
   · rw [delL_one hk hkk, ← hhd]; rfl
  have hdv : 0 ≤ e.1.fDepth ∧ e.1.fDepth ≤ (x.names.length : Int) := (hx.ent _ (Cs hg)).2.2
  refine .field1 J J J Y79.h J Y3.h J (DEnt.get_fDepth (hx.entOk hg)) (G1 ?_)
  refine .max2 J J J J (rfl) (G3 ?_)
  refine .draw [(0, 0), (0, 1), (0, 2), (1, 3), (1, 4), (4, 5)] Ap zK (G4 ?_)
  refine .lA J J J Y25.h J Sz25 Z0 (by (rw [Aa, List.length_map]; assumption)) ?_
  refine .mapDel MH J J J J h32k rM ?_
  refine G8 ?_
  refine ⟨(k + 1, _, _), ⟨hk, ?_, ?_⟩, by simp only; omega, Ao (wk1 J (wk1 J (wk1 J (wk1 J (wk1 J (wk1 J (wk1 J wk0))))))) (Ab rM (Ab rM (Ab rM (Ab rM (Ab rM (Ab rM (Ab rM (Ab rM (Af sG (Af sG (Af sG (Af sG (Af sG Ak)))))))))))))⟩
  · rw [depL_some hk hkk hg, ← hdp]; rfl
  · rw [delL_one hk hkk, ← hhd]; rfl
 have hkl : k = (Ca D).length := by omega
 rw [hkl, List.take_length] at hdp hhd
 refine G6 ?_
 refine .draw [(0, 0), (0, 1), (0, 2), (1, 3), (1, 4), (1, 5), (0, 6), (0, 7), (4, 8)] Ap zK (G4 ?_)
 refine .lA J J J Y25.h J Sz25 Z1 (by (simp [h32]; done)) ?_
 refine .lA J J J Y31.h J Sz31 Z0 (Block.length (by exact hB.1.ok)) ?_
 refine G1 ?_
 refine .build (cs := (⟨B, dp⟩ : DEnt).cells) J J J (fun w => run_build2 (a := agg B.cells) (b := i64 dp) (ca := B.cells) (cb := [i64 dp]) DEnt.zr Y79.h J J Sz31 Sz3 (DEnt.length DEnt.zero_ok) J J (Block.length hB.1.ok) J w) (.mapPut (v := ((⟨B, dp⟩, D) : EV)) ME J J J J J h32 rM ?_)
 refine G3 ?_
 refine .draw [(0, 0), (0, 1), (0, 2), (0, 3), (1, 4), (1, 5), (2, 6), (4, 7), (0, 8), (0, 9), (4, 10)] Ap zK (G5 ?_)
 refine .lA J J J Y25.h J Sz25 Z2 (by (simp [h32]; done)) ?_
 refine .mkRow2 (z := agg (Aa (List.replicate 32 0))) [agg (Aa n)] (Aa n) J J Y26.h Sz25 Zr25 J J (by intro v hv; rw [List.mem_singleton.1 hv]; simp [Value.cells, Aa, h32]) dE (by simp [Value.cells, agg]) ?_
 intro q9
 refine .appendAcc (z := agg (Aa (List.replicate 32 0))) (by' := 32) (Aa n) J J J J J Y26.h Y26.h Sz25 Zr25 (by unfold By; kernel_rfl) J hx.nm sG (fun w h => SeesP.of (Ar h Z0)) (fun e => by cases e) (Ax _) oM oM (by rw [Aa, List.length_map, h32]) ?_
 intro s9 bl9 hac9
 refine G2 ?_
 refine .s1 J J J J J Sz26 mR sP (by rfl) uU ?_
 refine G3 ?_
 refine .draw [(0, 0), (0, 1), (0, 2), (1, 3), (1, 4), (0, 5), (4, 6)] Ap zK (G4 ?_)
 refine .lA J J J Y25.h J Sz25 mR (by (simp [h32]; done)) ?_
 refine .build (cs := []) J J J (fun w => by kernel_rfl) ?_
 refine .mapPut (v := ()) MH J J J J J h32 rM ?_
 refine G2 ?_
 refine .join (ι := Nat × Sl × List Blk) (fun j => ⟨[(0, ptr p 0), (4, ptr n4 0), (5, ptr n5 0), (9, ptr j.1 0)], (⟨n5, B.cells, 31, B.cells.length⟩ :: (⟨n4, Aa n, 25, (Aa n).length⟩ :: (⟨j.1, (⟨B.fWriter, B.fSeq⟩ : DPl).cells, 87, 33⟩ :: (⟨p, [ptr p 0, j.2.1.v, .map (some x.bE), .map (some x.bH), .map (some x.bO), .map (some x.bP), .map (some x.bW)], 75, 7⟩ :: (A0 x.bE (As 32 evE) (Bh x.ent n (⟨B, dp⟩, D)) :: (A0 x.bH (As 32 evU) (Bh hd n ()) :: (A0 x.bO (As 32 evB) (x.orp) :: (A0 x.bP (placeT 32 evR) (x.pls) :: (A0 x.bW (As 32 evR) (x.wrs) :: (j.2.2 ++ (x.cb ++ (rbl x.pls ++ (rbl x.wrs ++ [])))))))))))))⟩) (fun j => Hw.Acc j.2.1 j.2.2 (A1 x.names ++ Aa n) 25 (x.names.length + 1) 32) ?_ ?_
 ·
  refine G2 ?_
  refine .lN (Aa _) J J J Y23.h J Sz23 mR (Block.row_fWriter (by exact hB.1.ok)) (Block.rl_fWriter (by exact hB.1.ok)) ?_
  refine G1 ?_
  refine .load1 J J J Y24.h J mR (by exact Block.get_fSeq (by exact hB.1.ok)) ?_
  refine .build (cs := (⟨B.fWriter, B.fSeq⟩ : DPl).cells) J J J (fun w => run_build2 (a := agg (Aa B.fWriter)) (b := u64 B.fSeq) (ca := Aa B.fWriter) (cb := [u64 B.fSeq]) DPl.zr Tryz.underlying87 J J Sz23 Sz24 (DPl.length DPl.zero_ok) J J (by rw [Aa, List.length_map]; exact hB.1.ok.l_fWriter) J w) ?_
  refine .alloc (cs := DPl.zero.cells) J DPl.zr J ?_
  intro n9 hn9 hf9
  refine .sA J J J J (DPl.isCell (by exact hwp)) Sz87 (DPl.length (by exact hwp)) Z0 (DPl.length (by exact DPl.zero_ok)) zU ?_
  refine G2 ?_
  exact ⟨(n9, s9, bl9), hac9, Ao (wk1 rfl (wk1 rfl (wk1 rfl (wk1 rfl wk0)))) (Ab rM (Ab rM (Ab rM (Ab rM (Ab rM (Ab rM (Ab rM (Ab rM (Ab rM (Af sG (Af sG (Af sG (Af sG Ak)))))))))))))⟩
 intro j hj
 obtain ⟨m9, s9, bl9⟩ := j
 simp only at hj ⊢
 have hac9 := hj
 refine .join (ι := RV) (fun r => ⟨[(0, ptr p 0), (4, ptr n4 0), (5, ptr n5 0)], (⟨n5, B.cells, 31, B.cells.length⟩ :: (⟨n4, Aa n, 25, (Aa n).length⟩ :: (⟨p, [ptr p 0, s9.v, .map (some x.bE), .map (some x.bH), .map (some x.bO), .map (some x.bP), .map (some x.bW)], 75, 7⟩ :: (A0 x.bE (As 32 evE) (Bh x.ent n (⟨B, dp⟩, D)) :: (A0 x.bH (As 32 evU) (Bh hd n ()) :: (A0 x.bO (As 32 evB) (x.orp) :: (A0 x.bP (placeT 32 evR) (Bh x.pls (B.fWriter, B.fSeq) r) :: (A0 x.bW (As 32 evR) (x.wrs) :: (bl9 ++ (x.cb ++ (rbl (Bh x.pls (B.fWriter, B.fSeq) r) ++ (rbl x.wrs ++ []))))))))))))⟩) (fun r => MoreR (Au x.pls (B.fWriter, B.fSeq)) n r) ?_ ?_
 ·
  refine .withK (sp_k (sp_k (sp_k (sp_k (sp_v (sp_v (sp_v (sp_v (sp_v (sp_x (sp_x (sp_x (sp_x sp_n))))))))))))) J (.draw [(0, 0), (0, 1), (0, 2), (0, 3), (0, 4), (0, 5), (2, 6), (4, 7), (0, 8), (0, 10), (4, 9), (4, 11)] Ap zK (G3 ?_))
  refine .kload1 J J J Tryz.underlying72 J Z3 (by rfl) ?_
  refine .kloadAll J J J Tryz.underlying87 J Sz87 Z2 (DPl.length (by exact hwp)) ?_
  refine .kloadAll J J J Y25.h J Sz25 Z1 (by (simp [h32]; done)) ?_
  refine .mkRow2 (z := agg (Aa (List.replicate 32 0))) [agg (Aa n)] (Aa n) J J Y26.h Sz25 Zr25 J J (by intro v hv; rw [List.mem_singleton.1 hv]; simp [Value.cells, Aa, h32]) dE (by simp [Value.cells, agg]) ?_
  intro q12
  obtain ⟨R12, hR12, hS12⟩ := rbl_put x.pls (B.fWriter, B.fSeq)
  have hrk12 := hx.plsR (B.fWriter, B.fSeq)
  refine .mapEntry (d0 := RV.none) (k := (B.fWriter, B.fSeq)) MP J J J J J J hB.1.ok.l_fWriter rM ?_
  intro st12
  obtain ⟨row12, hrow12⟩ : ∃ r, r = (Au x.pls (B.fWriter, B.fSeq)).getD RV.none := ⟨_, rfl⟩
  rw [← hrow12] at hR12 hrk12 ⊢
  refine G2 ?_
  refine .appendAcc (z := agg (Aa (List.replicate 32 0))) (by' := 32) (Aa n) J J J J J Y26.h Y26.h Sz25 Zr25 (by unfold By; kernel_rfl) J hrk12.1.acc (perm_open sG hR12) (fun w h => SeesP.of (Ar h Z1)) (fun e => by cases e) (Ax _) oM oM (by rw [Aa, List.length_map, h32]) ?_
  intro s12 bl12 hac12
  refine .entryStore (k := (B.fWriter, B.fSeq)) (v := (⟨s12, bl12, row12.ks ++ [n]⟩ : RV)) J J J J J hB.1.ok.l_fWriter (by repeat (first | exact A5 | apply Cn)) ?_
  rw [mput_mput]
  refine G2 ?_
  refine ⟨(⟨s12, bl12, row12.ks ++ [n]⟩ : RV), (⟨⟨by rw [flatB_append, List.length_append]; simpa [A1] using hac12, fun l hl => by rcases List.mem_append.1 hl with h | h; exact hrk12.1.r32 l h; rw [List.mem_singleton.1 h]; exact h32⟩, by rw [← hrow12]⟩ : MoreR _ n (⟨s12, bl12, row12.ks ++ [n]⟩ : RV)), ?_⟩
  refine wk_norm (by simp only [List.cons_append, List.nil_append, List.append_nil, List.append_assoc]; exact rfl) ?_
  exact Ao (wk1 rfl (wk1 rfl (wk1 rfl wk0))) (Ab rM (Ab rM (Ab rM (Ab rM (Ab rM (Ab rM (Ab rM (Ab rM (Af sG (Af sG (pm_join sG sG (hS12 (⟨s12, bl12, row12.ks ++ [n]⟩ : RV)) (Af sG Ak))))))))))))
 intro r hj
 have hr := hj
 refine .withK (sp_k (sp_k (sp_k (sp_v (sp_v (sp_v (sp_v (sp_v (sp_x (sp_x (sp_x (sp_x sp_n)))))))))))) J (.draw [(0, 0), (0, 1), (0, 2), (0, 3), (0, 4), (0, 5), (0, 6), (2, 7), (4, 8), (0, 9), (0, 11), (4, 10), (4, 12)] Ap zK (G3 ?_))
 refine .kload1 J J J Tryz.underlying73 J Z2 (by rfl) ?_
 refine G1 ?_
 refine .kloadN (Aa _) J J J Y23.h J Sz23 Z0 (Block.row_fWriter (by exact hB.1.ok)) (Block.rl_fWriter (by exact hB.1.ok)) ?_
 refine .kloadAll J J J Y25.h J Sz25 Z1 (by (simp [h32]; done)) ?_
 refine .mkRow2 (z := agg (Aa (List.replicate 32 0))) [agg (Aa n)] (Aa n) J J Y26.h Sz25 Zr25 J J (by intro v hv; rw [List.mem_singleton.1 hv]; simp [Value.cells, Aa, h32]) dE (by simp [Value.cells, agg]) ?_
 intro q13
 obtain ⟨R13, hR13, hS13⟩ := rbl_put x.wrs B.fWriter
 have hrk13 := hx.wrsR B.fWriter
 refine .mapEntry (d0 := RV.none) (k := B.fWriter) MW J J J J J J hB.1.ok.l_fWriter rM ?_
 intro st13
 obtain ⟨row13, hrow13⟩ : ∃ r, r = (Au x.wrs B.fWriter).getD RV.none := ⟨_, rfl⟩
 rw [← hrow13] at hR13 hrk13 ⊢
 refine G2 ?_
 refine .appendAcc (z := agg (Aa (List.replicate 32 0))) (by' := 32) (Aa n) J J J J J Y26.h Y26.h Sz25 Zr25 (by unfold By; kernel_rfl) J hrk13.1.acc (perm_open sG hR13) (fun w h => SeesP.of (Ar h Z1)) (fun e => by cases e) (Ax _) oM oM (by rw [Aa, List.length_map, h32]) ?_
 intro s13 bl13 hac13
 refine .entryStore (k := B.fWriter) (v := (⟨s13, bl13, row13.ks ++ [n]⟩ : RV)) J J J J J hB.1.ok.l_fWriter (by repeat (first | exact A5 | apply Cn)) ?_
 rw [mput_mput]
 refine G2 ?_
 simp only [List.cons_append, List.nil_append, List.append_nil, List.append_assoc]
 refine Az (out := (⟨p, [ptr p 0, s9.v, .map (some x.bE), .map (some x.bH), .map (some x.bO), .map (some x.bP), .map (some x.bW)], 75, 7⟩ :: (A0 x.bE (As 32 evE) (Bh x.ent n (⟨B, dp⟩, D)) :: (A0 x.bH (As 32 evU) (Bh hd n ()) :: (A0 x.bO (As 32 evB) (x.orp) :: (A0 x.bP (placeT 32 evR) (Bh x.pls (B.fWriter, B.fSeq) r) :: (A0 x.bW (As 32 evR) (Bh x.wrs B.fWriter (⟨s13, bl13, row13.ks ++ [n]⟩ : RV)) :: (bl9 ++ (x.cb ++ (rbl (Bh x.pls (B.fWriter, B.fSeq) r) ++ (rbl (Bh x.wrs B.fWriter (⟨s13, bl13, row13.ks ++ [n]⟩ : RV)) ++ []))))))))))) (res_none J) (Ab rM (Ab rM (Ab rM (Ab rM (Ab rM (Ab rM (Af sG (Af sG (Af sG (pm_join sG sG (hS13 (⟨s13, bl13, row13.ks ++ [n]⟩ : RV)) Ak)))))))))) ?_
 have hm13 := (⟨⟨by rw [flatB_append, List.length_append]; simpa [A1] using hac13, fun l hl => by rcases List.mem_append.1 hl with h | h; exact hrk13.1.r32 l h; rw [List.mem_singleton.1 h]; exact h32⟩, by rw [← hrow13]⟩ : MoreR _ n (⟨s13, bl13, row13.ks ++ [n]⟩ : RV))
 subst hdp; subst hhd
 exact ⟨rfl, s9, bl9, r, (⟨s13, bl13, row13.ks ++ [n]⟩ : RV), (by simp only [DD.blks, DD.adm, List.append_nil]), hx.adm h32 hB hroom hac9 hr hm13, hr, hm13⟩

def insB (a : List UInt8) : List (List UInt8) → List (List UInt8)
  | [] => [a]
  | b :: l => if cmpB a b ≤ 0 then a :: b :: l else b :: insB a l
def isort (l : List (List UInt8)) : List (List UInt8) := l.foldr insB []
theorem insB_perm (a : List UInt8) : ∀ l, (insB a l).Perm (a :: l)
  | [] => List.Perm.refl _
  | b :: l => by
    unfold insB
    split
    · exact List.Perm.refl _
    · exact (List.Perm.cons b (insB_perm a l)).trans (List.Perm.swap a b l)
theorem isort_perm : ∀ l, (isort l).Perm l
  | [] => List.Perm.refl _
  | a :: l => (insB_perm a (isort l)).trans (List.Perm.cons a (isort_perm l))
theorem insB_sort (a : List UInt8) : ∀ l, SortB l → SortB (insB a l)
  | [], _ => by simp [insB, SortB]
  | b :: l, h => by
    obtain ⟨h1, h2⟩ := List.pairwise_cons.1 h
    unfold insB
    split
    · rename_i hab
      refine List.pairwise_cons.2 ⟨fun c hc => ?_, h⟩
      rcases List.mem_cons.1 hc with rfl | hc
      · exact hab
      · exact (cmpB_trans a b c hab (h1 c hc)).1
    · rename_i hab
      refine List.pairwise_cons.2 ⟨fun c hc => ?_, insB_sort a l h2⟩
      rcases List.mem_cons.1 ((insB_perm a l).mem_iff.1 hc) with rfl | hc
      · have := cmpB_neg c b; omega
      · exact h1 c hc
theorem isort_sort : ∀ l, SortB (isort l)
  | [] => List.Pairwise.nil
  | a :: l => insB_sort a _ (isort_sort l)
theorem sort_unique : ∀ {a b : List (List UInt8)}, a.Perm b → SortB a → SortB b → a = b
  | [], b, hp, _, _ => (List.nil_perm.1 hp).symm
  | x :: a, [], hp, _, _ => by have := hp.length_eq; simp at this
  | x :: a, y :: b, hp, ha, hb => by
    obtain ⟨h1, h2⟩ := List.pairwise_cons.1 ha
    obtain ⟨h3, h4⟩ := List.pairwise_cons.1 hb
    have e : x = y := by
      have hx := hp.mem_iff.1 (List.mem_cons_self (a := x) (l := a))
      have hy := hp.mem_iff.2 (List.mem_cons_self (a := y) (l := b))
      rcases List.mem_cons.1 hx with h | h
      · exact h
      · rcases List.mem_cons.1 hy with h5 | h5
        · exact h5.symm
        · have u1 := h3 x h
          have u2 := h1 y h5
          have u3 := cmpB_neg x y
          exact (cmpB_zero x y).1 oM
    subst e
    rw [sort_unique (List.Perm.cons_inv hp) h2 h4]
theorem isort_eq {ks l : List (List UInt8)} (hp : ks.Perm l) (hs : SortB ks) : ks = isort l := sort_unique (hp.trans (isort_perm l).symm) hs (isort_sort l)
structure PD where
  names : List (List UInt8)
  P : List (List UInt8 × DB)
  dep : List (List UInt8 × Int)
  hds : List (List UInt8 × Unit)
  orp : List (List UInt8 × DB)
  pls : List ((List UInt8 × UInt64) × List (List UInt8))
  wrs : List (List UInt8 × List (List UInt8))
def DD.pl (x : DD) : PD := ⟨x.names, x.P, x.ent.map fun p => (p.1, p.2.1.fDepth), x.hds, x.orp.map fun p => (p.1, p.2.2), x.pls.map fun p => (p.1, p.2.ks), x.wrs.map fun p => (p.1, p.2.ks)⟩
def stepP (dep : List (List UInt8 × Int)) (d : Int) (n : List UInt8) : Int := if (Au dep n).getD 0 + 1 > d then (Au dep n).getD 0 + 1 else d
def PD.adm (X : PD) (n : List UInt8) (D : DB) : PD :=
  ⟨X.names ++ [n], Bh X.P n D, Bh X.dep n ((Ca D).foldl (stepP X.dep) 0), Bh (delL X.hds (Ca D)) n (), X.orp, Bh X.pls (D.w, D.seq) ((Au X.pls (D.w, D.seq)).getD [] ++ [n]), Bh X.wrs D.w ((Au X.wrs D.w).getD [] ++ [n])⟩
theorem get_ks {κ : Type} [DecidableEq κ] (fs : List (κ × RV)) (k : κ) : ((Au fs k).getD RV.none).ks = (Au (fs.map fun p => (p.1, p.2.ks)) k).getD [] := by
  rw [mget_map (fun r : RV => r.ks)]
  cases Au fs k <;> rfl
theorem adm_pl {x : DD} {s : Sl} {bl : List Blk} {n : List UInt8} {B : Block} {D : DB} {rp rw : RV} (hB : SameB B D) (hp : MoreR (Au x.pls (B.fWriter, B.fSeq)) n rp) (hw : MoreR (Au x.wrs B.fWriter) n rw) : (x.adm s bl n B D rp rw).pl = x.pl.adm n D := by
  have e1 : (Bh x.ent n ((⟨B, depL x.ent (Ca D)⟩, D) : EV)).map (fun p => (p.1, p.2.2)) = Bh x.P n D := mput_map (fun e : EV => e.2) x.ent n (⟨B, depL x.ent (Ca D)⟩, D)
  have ed : ∀ m, ((Au x.ent m).map fun e => e.1.fDepth) = Au (x.ent.map fun p => (p.1, p.2.1.fDepth)) m := fun m => (mget_map (fun e : EV => e.1.fDepth) x.ent m).symm
  have es : depL x.ent (Ca D) = (Ca D).foldl (stepP (x.ent.map fun p => (p.1, p.2.1.fDepth))) 0 := by
    unfold depL
    congr 1
    funext d m
    unfold stepD stepP
    rw [ed m]
  have e2 : (Bh x.ent n ((⟨B, depL x.ent (Ca D)⟩, D) : EV)).map (fun p => (p.1, p.2.1.fDepth)) = Bh (x.ent.map fun p => (p.1, p.2.1.fDepth)) n (depL x.ent (Ca D)) := mput_map (fun e : EV => e.1.fDepth) x.ent n (⟨B, depL x.ent (Ca D)⟩, D)
  have e3 : (Bh x.pls (B.fWriter, B.fSeq) rp).map (fun p => (p.1, p.2.ks)) = Bh (x.pls.map fun p => (p.1, p.2.ks)) (B.fWriter, B.fSeq) rp.ks := mput_map (fun r : RV => r.ks) x.pls (B.fWriter, B.fSeq) rp
  have e4 : (Bh x.wrs B.fWriter rw).map (fun p => (p.1, p.2.ks)) = Bh (x.wrs.map fun p => (p.1, p.2.ks)) B.fWriter rw.ks := mput_map (fun r : RV => r.ks) x.wrs B.fWriter rw
  unfold DD.pl PD.adm DD.adm DD.P
  simp only
  rw [e1, e2, es, e3, e4, hp.2, hw.2, get_ks, get_ks, hB.w, hB.seq]
  rfl
def PD.drop1 (X : PD) (n : List UInt8) : PD := { X with orp := mdel X.orp n }
def DD.drop1 (x : DD) (n : List UInt8) : DD := { x with orp := mdel x.orp n }
theorem drop1_pl (x : DD) (n : List UInt8) : (x.drop1 n).pl = x.pl.drop1 n := by
  unfold DD.pl DD.drop1 PD.drop1
  simp only
  rw [mdel_map (fun b : BV => b.2)]
  rfl
theorem mdel_one {κ ν : Type} [DecidableEq κ] {fs : List (κ × ν)} {k : κ} {v : ν} (h : Au fs k = some v) : (mdel fs k).length + 1 = fs.length := by
  have hi : ∃ j, midx fs k = some j ∧ j < fs.length := by
    unfold Au at h
    unfold midx
    cases hf : fs.find? (fun p => decide (p.1 = k)) with
    | none => rw [hf] at h; cases h
    | some p =>
      obtain ⟨hp, j, hj, _, hn⟩ := List.find?_eq_some_iff_getElem.1 hf
      rename_i e1
      exact ⟨j, by rw [List.findIdx?_eq_some_iff_getElem]; exact ⟨hj, by rw [e1]; exact hp, fun i hi => by simpa using hn i hi⟩, hj⟩
  obtain ⟨j, hj, hl⟩ := hi
  unfold mdel
  rw [hj]
  simp only [List.length_eraseIdx, hl, if_true]
  omega
theorem DD.ok.drop1 {x : DD} (h : x.ok) (n : List UInt8) : (x.drop1 n).ok := { h with
  big := Nat.le_trans (Nat.add_le_add_left (mdel_len _ _) _) h.big
  orpn := Nat.le_trans (mdel_len _ _) h.orpn
  orp := fun p hp => h.orp p (mdel_mem hp) }
def PD.first (X : PD) : Option (List UInt8) := (isort (X.orp.map (·.1))).find? fun n => Ch X.P ((Au X.orp n).getD DB.zero) != 0
def PD.settle : Nat → PD → PD × List (List UInt8)
  | 0, X => (X, [])
  | f + 1, X => match X.first with
    | none => (X, [])
    | some n => if Ch X.P ((Au X.orp n).getD DB.zero) = 1 then (let r := PD.settle f ((X.drop1 n).adm n ((Au X.orp n).getD DB.zero)); (r.1, n :: r.2)) else PD.settle f (X.drop1 n)
theorem settle_done {X : PD} (h : X.first = none) (f : Nat) : PD.settle f X = (X, []) := by
  cases f with
  | zero => rfl
  | succ f => rw [PD.settle, h]
theorem settle_fit {X : PD} {n : List UInt8} {D : DB} (h : X.first = some n) (hD : Au X.orp n = some D) (hj : Ch X.P D = 1) (f : Nat) : PD.settle (f + 1) X = ((PD.settle f ((X.drop1 n).adm n D)).1, n :: (PD.settle f ((X.drop1 n).adm n D)).2) := by
  rw [PD.settle, h]
  simp only [hD, Option.getD_some]
  rw [if_pos hj]
theorem settle_wrong {X : PD} {n : List UInt8} {D : DB} (h : X.first = some n) (hD : Au X.orp n = some D) (hj : Ch X.P D ≠ 1) (f : Nat) : PD.settle (f + 1) X = PD.settle f (X.drop1 n) := by
  rw [PD.settle, h]
  simp only [hD, Option.getD_some]
  rw [if_neg hj]
theorem first_at {X : PD} {ks : List (List UInt8)} (hks : ks = isort (X.orp.map (·.1))) {k : Nat} (hk : k < ks.length) (hall : ∀ j, j < k → Ch X.P ((Au X.orp (ks.getD j [])).getD DB.zero) = 0) (h : Ch X.P ((Au X.orp (ks.getD k [])).getD DB.zero) ≠ 0) : X.first = some (ks.getD k []) := by
  unfold PD.first
  rw [← hks, List.find?_eq_some_iff_getElem]
  have e : ∀ j (hj : j < ks.length), ks.getD j [] = ks[j] := fun j hj => by rw [List.getD_eq_getElem?_getD, List.getElem?_eq_getElem hj]; rfl
  refine ⟨by simpa using h, k, hk, (e k hk).symm, fun j hj => ?_⟩
  have := hall j hj
  rw [e j oM] at this
  rw [this]; rfl
theorem first_none {X : PD} {ks : List (List UInt8)} (hks : ks = isort (X.orp.map (·.1))) (hall : ∀ j, j < ks.length → Ch X.P ((Au X.orp (ks.getD j [])).getD DB.zero) = 0) : X.first = none := by
  unfold PD.first
  rw [← hks, List.find?_eq_none]
  intro n hn
  obtain ⟨j, hj, rfl⟩ := List.getElem_of_mem hn
  have := hall j hj
  rw [List.getD_eq_getElem?_getD, List.getElem?_eq_getElem hj] at this
  simp only [Option.getD_some] at this
  rw [this]; simp
theorem DD.getO (x : DD) (k : List UInt8) : Au x.pl.orp k = (Au x.orp k).map (·.2) := mget_map (fun b : BV => b.2) x.orp k
theorem orp_keys (x : DD) : x.pl.orp.map (·.1) = x.orp.map (·.1) := by unfold DD.pl; simp only [List.map_map]; rfl
theorem mget_of_key {κ ν : Type} [DecidableEq κ] {fs : List (κ × ν)} {k : κ} (h : k ∈ fs.map (·.1)) : ∃ v, Au fs k = some v := by
  obtain ⟨p, hp, rfl⟩ := List.mem_map.1 h
  unfold Au
  cases hf : fs.find? (fun q => decide (q.1 = p.1)) with
  | none => rw [List.find?_eq_none] at hf; have := hf p hp; simp at this
  | some q => exact ⟨q.2, rfl⟩
def AdmR (x : DD) (p : Nat) (n : List UInt8) (D : DB) (v : Value) (out : List Blk) : Prop := v = .tuple #[] ∧ ∃ x' : DD, out = x'.blks p ∧ x'.ok ∧ x'.pl = x.pl.adm n D ∧ x'.names.length = x.names.length + 1 ∧ x'.orp.length = x.orp.length
theorem dag_admit2 (x : DD) (hx : x.ok) (p : Nat) (n : List UInt8) (h32 : n.length = 32) (B : Block) (D : DB) (hB : Held x.cb B D) (hs : D.ls.length ≤ 500000) (hroom : x.names.length + x.orp.length < 20000) :
    Meets Tryz.prog 38 [ptr p 0, agg (Aa n), agg B.cells] ((x.blks p).map (·.n)) (fun W => Lent (x.blks p) W) (AdmR x p n D) :=
  (dag_admit x hx p n h32 B D hB hs hroom).imp (fun w h => h) fun v out ⟨h1, s, bl, rp, rw, h2, h3, h4, h5⟩ => ⟨h1, _, h2, h3, adm_pl hB.1 h4 h5, by show (x.names ++ [n]).length = _; rw [List.length_append, List.length_singleton], rfl⟩


theorem judge_cases (P : List (List UInt8 × DB)) (D : DB) : Ch P D = 0 ∨ Ch P D = 1 ∨ Ch P D = 2 := by
  unfold Ch
  split
  · exact .inr (.inr rfl)
  · split
    · exact .inr (.inl rfl)
    · exact .inl rfl
theorem settle_go {x x2 : DD} {kk : List UInt8} {ob : BV} (hf : x.pl.first = some kk) (hob : Au x.orp kk = some ob) (hj : Ch x.P ob.2 = 1) (hp : x2.pl = (x.drop1 kk).pl.adm kk ob.2) (ho : x2.orp.length = (x.drop1 kk).orp.length) :
    PD.settle x.orp.length x.pl = ((PD.settle x2.orp.length x2.pl).1, kk :: (PD.settle x2.orp.length x2.pl).2) := by
  have h1 := mdel_one hob
  have h2 : x2.orp.length = (mdel x.orp kk).length := ho
  rw [← h1, settle_fit hf (by rw [x.getO, hob]; rfl) hj, h2, hp, drop1_pl]
theorem settle_no {x : DD} {kk : List UInt8} {ob : BV} (hf : x.pl.first = some kk) (hob : Au x.orp kk = some ob) (hj : Ch x.P ob.2 ≠ 1) : PD.settle x.orp.length x.pl = PD.settle (x.drop1 kk).orp.length (x.drop1 kk).pl := by
  have h1 := mdel_one hob
  have h2 : (x.drop1 kk).orp.length = (mdel x.orp kk).length := rfl
  rw [← h1, settle_wrong hf (by rw [x.getO, hob]; rfl) hj, h2, drop1_pl]
def SetR (x0 : DD) (p : Nat) (v : Value) (out : List Blk) : Prop := ∃ (x : DD) (s : Sl) (bl : List Blk) (l : List (List UInt8)), v = s.v ∧ out = x.blks p ++ bl ∧ x.ok ∧ Hw.Acc s bl (A1 l) 25 l.length 32 ∧ (∀ n ∈ l, n.length = 32) ∧ x.names.length + x.orp.length ≤ x0.names.length + x0.orp.length ∧ l.length ≤ x0.orp.length ∧ x.pl = (PD.settle x0.orp.length x0.pl).1 ∧ l = (PD.settle x0.orp.length x0.pl).2
theorem acc_one {s : Sl} {bl : List Blk} {l : List (List UInt8)} {k : List UInt8} {E : TypeId} {m : Nat} (h : Hw.Acc s bl (A1 l ++ Aa k) E (m + 1) 32) (hm : l.length = m) : Hw.Acc s bl (A1 (l ++ [k])) E (l ++ [k]).length 32 := by
  rw [List.length_append, List.length_singleton, flatB_append, hm]
  simpa [A1] using h
theorem all_snoc {l : List (List UInt8)} {k : List UInt8} (h : ∀ n ∈ l, n.length = 32) (hk : k.length = 32) : ∀ n ∈ l ++ [k], n.length = 32 := fun n hn => by rcases List.mem_append.1 hn with h1 | h1; exact h n h1; rw [List.mem_singleton.1 h1]; exact hk

theorem dag_settle (x0 : DD) (hx0 : x0.ok) (p : Nat) : Meets Tryz.prog 39 [ptr p 0] ((x0.blks p).map (·.n)) (fun W => Lent (x0.blks p) W) (SetR x0 p) := by
 intro W hW
 have hbig0 := hx0.big
 refine calls_of (hp0 := (⟨p, [ptr p 0, x0.nm.v, .map (some x0.bE), .map (some x0.bH), .map (some x0.bO), .map (some x0.bP), .map (some x0.bW)], 75, 7⟩ :: (A0 x0.bE (As 32 evE) x0.ent :: (A0 x0.bH (As 32 evU) x0.hds :: (A0 x0.bO (As 32 evB) x0.orp :: (A0 x0.bP (placeT 32 evR) x0.pls :: (A0 x0.bW (As 32 evR) x0.wrs :: (x0.nb ++ (x0.cb ++ (rbl x0.pls ++ (rbl x0.wrs ++ []))))))))))) Tryz.func39 J 50 Tryz.ntmps39 J hW.rep (G5 ?_)
 refine .again (l := 0) (ι := DD × Sl × List Blk × List (List UInt8)) (fun i => ⟨[(0, ptr p 0), (3, i.2.1.v)], (⟨p, [ptr p 0, i.1.nm.v, .map (some i.1.bE), .map (some i.1.bH), .map (some i.1.bO), .map (some i.1.bP), .map (some i.1.bW)], 75, 7⟩ :: (A0 i.1.bE (As 32 evE) i.1.ent :: (A0 i.1.bH (As 32 evU) i.1.hds :: (A0 i.1.bO (As 32 evB) i.1.orp :: (A0 i.1.bP (placeT 32 evR) i.1.pls :: (A0 i.1.bW (As 32 evR) i.1.wrs :: (i.1.nb ++ (i.1.cb ++ (rbl i.1.pls ++ (rbl i.1.wrs ++ (i.2.2.1 ++ [])))))))))))⟩) (fun i => i.1.ok ∧ Hw.Acc i.2.1 i.2.2.1 (A1 i.2.2.2) 25 i.2.2.2.length 32 ∧ (∀ n ∈ i.2.2.2, n.length = 32) ∧ i.1.names.length + i.1.orp.length ≤ x0.names.length + x0.orp.length ∧ i.2.2.2.length + i.1.orp.length ≤ x0.orp.length ∧ (PD.settle i.1.orp.length i.1.pl).1 = (PD.settle x0.orp.length x0.pl).1 ∧ i.2.2.2 ++ (PD.settle i.1.orp.length i.1.pl).2 = (PD.settle x0.orp.length x0.pl).2) (fun i => i.1.orp.length) J ?_ ?_
 ·
  refine G4 ?_
  exact ⟨(x0, Sl.nil, [], []), ⟨hx0, Acc.none, fun n (h : n ∈ ([] : List (List UInt8))) => (by cases h), Nat.le_refl _, (by show 0 + x0.orp.length ≤ _; omega), rfl, List.nil_append _⟩, Ao (wk1 rfl (wk1 rfl wk0)) (Ab rM (Ab rM (Ab rM (Ab rM (Ab rM (Ab rM (Af sG (Af sG (Af sG (Af sG (Af (by repeat (exact sg_end)) Ak)))))))))))⟩
 rintro ⟨x, s, bl, l⟩ hi
 simp only at hi ⊢
 obtain ⟨hx, hac3, h32l, hn1, hn2, hpl1, hpl2⟩ := hi
 have hbigx := hx.big
 have hls := hac3.num
 refine G7 ?_
 refine .call4 J J J J J Body43 (dag_sortedB MO x.bO x.orp (fun p hp => (hx.orp p hp).1) oM) (fun w h => h.cells _ Z3) ?_
 rintro v11 out11 ⟨s11, ks, hkp, hks, rfl, hac⟩
 have hn11 := hac.num
 have hke : ks = isort (x.pl.orp.map (·.1)) := isort_eq (by rw [orp_keys]; exact hkp) hks
 have hrow : ∀ l ∈ ks, l.length = 32 := fun l hl => by obtain ⟨q, hq, rfl⟩ := List.mem_map.1 (hkp.mem_iff.1 hl); exact (hx.orp q hq).1
 refine G5 ?_
 refine .loop (ι := Nat) (fun k => ⟨[(0, ptr p 0), (3, s.v), (11, s11.v), (12, i64 (s11.n : Int)), (13, i64 (k : Int))], (⟨p, [ptr p 0, x.nm.v, .map (some x.bE), .map (some x.bH), .map (some x.bO), .map (some x.bP), .map (some x.bW)], 75, 7⟩ :: (A0 x.bE (As 32 evE) x.ent :: (A0 x.bH (As 32 evU) x.hds :: (A0 x.bO (As 32 evB) x.orp :: (A0 x.bP (placeT 32 evR) x.pls :: (A0 x.bW (As 32 evR) x.wrs :: (x.nb ++ (x.cb ++ (rbl x.pls ++ (rbl x.wrs ++ (bl ++ (out11 ++ []))))))))))))⟩) (fun k => k ≤ ks.length ∧ ∀ j, j < k → Ch x.pl.P ((Au x.pl.orp (ks.getD j [])).getD DB.zero) = 0) (fun k => ks.length - k) (0) ?_ ?_ ?_
 · exact ⟨Nat.zero_le _, fun j hj => by omega⟩
 · exact Ao (wk1 rfl (wk1 rfl (wk1 rfl (wk1 rfl (wk1 rfl wk0))))) (Ab (by repeat (first | exact A5 | apply Cn)) (Ab (by repeat (first | exact A5 | apply Cn)) (Ab (by repeat (first | exact A5 | apply Cn)) (Ab (by repeat (first | exact A5 | apply Cn)) (Ab (by repeat (first | exact A5 | apply Cn)) (Ab (by repeat (first | exact A5 | apply Cn)) (Af (by repeat (first | exact Cm | apply sg_seg)) (Af (by repeat (first | exact Cm | apply sg_seg)) (Af (by repeat (first | exact Cm | apply sg_seg)) (Af (by repeat (first | exact Cm | apply sg_seg)) (Af (by repeat (first | exact Cm | apply sg_seg)) (Af sG Ak))))))))))))
 rintro k ⟨hk0, hall⟩
 refine G6 ?_
 refine .condP J (fun hc0 => ?_) (fun hc0 => ?_)
 ·
  refine G6 ?_
  have hk : k < ks.length := by omega
  have hkb : k ≤ 600000 := by have := hkp.length_eq; simp only [List.length_map] at this; omega
  rcases hac with ⟨_, _, _, h0⟩ | ⟨qr, cr, rfl, hnc, hfl, rfl⟩
  · exfalso; omega
  obtain ⟨kk, hkk⟩ : ∃ kk, kk = ks.getD k [] := ⟨_, rfl⟩
  have hkm : kk ∈ ks := by rw [hkk, List.getD_eq_getElem?_getD, List.getElem?_eq_getElem hk]; exact List.getElem_mem hk
  have h32k : kk.length = 32 := hrow _ hkm
  obtain ⟨ob, hob⟩ := mget_of_key (fs := x.orp) (hkp.mem_iff.1 hkm)
  have hheld := hx.orp _ (Cs hob)
  simp only at hheld
  have hgo : Au x.pl.orp kk = some ob.2 := by rw [x.getO, hob]; rfl
  have hm1 := mdel_one hob
  refine .idxSlP 32 J J J J J Y26.h Sz25 k J oM (.loadSN (n := 32) (Aa kk) J J J Y25.h J Sz25 (by rw [Aa, List.length_map]; exact h32k) (fun w h => by rw [hkk]; simpa using sees_row hrow (Ar h mR) hk) ?_)
  refine .alloc (cs := (Aa (List.replicate 32 0))) J Zr25 J ?_
  intro n5 hn5 hf5
  refine .sA J J J J zE Sz25 (by (rw [Aa, List.length_map]; assumption)) Z0 sP zU ?_
  refine G3 ?_
  refine .draw [(0, 0), (0, 1), (0, 2), (1, 3), (1, 4), (1, 5), (2, 6), (4, 7)] Ap zK (G4 ?_)
  refine .lA J J J Y25.h J Sz25 Z0 (by (rw [Aa, List.length_map]; assumption)) ?_
  refine .lookS evB MO hob J J J J h32k Z4 ?_
  refine .alloc (cs := Block.zero.cells) J Block.zr J ?_
  intro n6 hn6 hf6
  refine .sA J J J J (Block.isCell (by exact hheld.2.1.1.ok)) Sz31 (Block.length (by exact hheld.2.1.1.ok)) Z0 (Block.length (by exact Block.zero_ok)) zU ?_
  refine G5 ?_
  refine .lA J J J Y31.h J Sz31 Z0 (Block.length (by exact hheld.2.1.1.ok)) ?_
  refine .cV J J J J Body36 (dag_judge x hx p ob.1 ob.2 hheld.2.1.1 oM) (fun w h => ⟨DagSee.of h Z2 Z3, hheld.2.1.2 w (Lies.of h (by repeat (first | exact Bf | refine Bp ?_ | refine in_seg ?_)))⟩) ?_
  refine G9 ?_
  refine .condP J (fun hc1 => ?_) (fun hc1 => ?_)
  ·
   refine .seq (.draw [(0, 0), (0, 1), (0, 2), (1, 3), (1, 4), (4, 5)] Ap zK (G4 ?_))
   refine .lA J J J Y25.h J Sz25 Z1 (by (rw [Aa, List.length_map]; assumption)) ?_
   refine .mapDel MO J J J J h32k rM ?_
   refine G5 ?_
   refine .lA J J J Y25.h J Sz25 Z2 (by (rw [Aa, List.length_map]; assumption)) ?_
   refine .lA J J J Y31.h J Sz31 Z1 (Block.length (by exact hheld.2.1.1.ok)) ?_
   refine .callL (L := ((x.drop1 kk).blks p)) J J J J J Body38 (dag_admit2 (x.drop1 kk) (hx.drop1 kk) p kk h32k ob.1 ob.2 hheld.2.1 oM (by show x.names.length + (mdel x.orp kk).length < 20000; omega)) (Ab rM (Ab rM (Ab rM (Ab rM (Ab rM (Ab rM (Af sG (Af sG (Af sG (Af sG Ak)))))))))) (B6 J) (fun w h => Lent.of h (Ab rM (Ab rM (Ab rM (Ab rM (Ab rM (Ab rM (Af sG (Af sG (Af sG (Af sG Ak))))))))))) ?_
   rintro v36 out36 ⟨rfl, x2, rfl, hx2, hplx, hnlx, holx⟩
   simp only [DD.blks, List.cons_append, List.nil_append, List.append_assoc]
   refine G5 ?_
   refine .lA J J J Y25.h J Sz25 mR (by (rw [Aa, List.length_map]; assumption)) ?_
   refine .mkRow2 (z := agg (Aa (List.replicate 32 0))) [agg (Aa kk)] (Aa kk) J J Y26.h Sz25 Zr25 J J (by intro v hv; rw [List.mem_singleton.1 hv]; simp [Value.cells, Aa, h32k]) dE (by simp [Value.cells, agg]) ?_
   intro q39
   refine .appendAcc (z := agg (Aa (List.replicate 32 0))) (by' := 32) (Aa kk) J J J J J Y26.h Y26.h Sz25 Zr25 (by unfold By; kernel_rfl) J hac3 sG (fun w h => SeesP.of (Ar h Z0)) (fun e => by cases e) (Ax _) oM oM (by rw [Aa, List.length_map, h32k]) ?_
   intro s40 bl40 hac40
   refine G3 ?_
   refine .goto (bl_g (bl_g (at_g (at_g (bl_g (at_g (jm_g ?_)))))))
   have hf : x.pl.first = some kk := by rw [hkk]; exact first_at hke hk hall (by rw [← hkk, hgo]; show Ch x.P ob.2 ≠ 0; omega)
   have hst := settle_go (x2 := x2) hf hob hc1 hplx holx
   rw [hst] at hpl1 hpl2
   have hol2 : x2.orp.length = (mdel x.orp kk).length := holx
   have hnl2 : x2.names.length = x.names.length + 1 := hnlx
   exact ⟨(x2, s40, bl40, l ++ [kk]), ⟨hx2, acc_one hac40 rfl, all_snoc h32l h32k, by simp only; omega, by simp only [List.length_append, List.length_singleton]; omega, hpl1, by simp only [List.append_assoc, List.singleton_append]; exact hpl2⟩, by simp only; omega, Ao (wk1 rfl (wk1 rfl wk0)) (Ab rM (Ab rM (Ab rM (Ab rM (Ab rM (Ab rM (Af sG (Af sG (Af sG (Af sG (Af sG Ak)))))))))))⟩
  refine G6 ?_
  refine .condP J (fun hc2 => ?_) (fun hc2 => ?_)
  ·
   refine .seq (.draw [(0, 0), (0, 1), (0, 2), (1, 3), (1, 4), (4, 5)] Ap zK (G4 ?_))
   refine .lA J J J Y25.h J Sz25 Z1 (by (rw [Aa, List.length_map]; assumption)) ?_
   refine .mapDel MO J J J J h32k rM ?_
   refine G2 ?_
   refine .goto (bl_g (bl_g (at_g (at_g (bl_g (at_g (jm_g ?_)))))))
   have hf : x.pl.first = some kk := by rw [hkk]; exact first_at hke hk hall (by rw [← hkk, hgo]; show Ch x.P ob.2 ≠ 0; omega)
   have hst := settle_no hf hob oM
   rw [hst] at hpl1 hpl2
   have hol2 : (x.drop1 kk).orp.length = (mdel x.orp kk).length := rfl
   have hnl2 : (x.drop1 kk).names.length = x.names.length := rfl
   exact ⟨(x.drop1 kk, s, bl, l), ⟨hx.drop1 kk, hac3, h32l, by simp only; omega, by simp only; omega, hpl1, hpl2⟩, by simp only; omega, Ao (wk1 rfl (wk1 rfl wk0)) (Ab rM (Ab rM (Ab rM (Ab rM (Ab rM (Ab rM (Af sG (Af sG (Af sG (Af sG (Af sG Ak)))))))))))⟩
  refine G9 ?_
  exact ⟨k + 1, ⟨hk, fun j hj => by rcases Nat.lt_or_eq_of_le (Nat.le_of_lt_succ hj) with h | h; exact hall j h; rw [h, ← hkk, hgo]; show Ch x.P ob.2 = 0; rcases judge_cases x.P ob.2 with h9 | h9 | h9 <;> omega⟩, by omega, Ao (wk1 rfl (wk1 rfl (wk1 rfl (wk1 rfl (wk1 rfl wk0))))) (Ab rM (Ab rM (Ab rM (Ab rM (Ab rM (Ab rM (Af sG (Af sG (Af sG (Af sG (Af sG (Af sG Ak))))))))))))⟩
 refine G11 ?_
 -- ret
 refine .ret (jm_r (en_r (Az (out := (⟨p, [ptr p 0, x.nm.v, .map (some x.bE), .map (some x.bH), .map (some x.bO), .map (some x.bP), .map (some x.bW)], 75, 7⟩ :: (A0 x.bE (As 32 evE) x.ent :: (A0 x.bH (As 32 evU) x.hds :: (A0 x.bO (As 32 evB) x.orp :: (A0 x.bP (placeT 32 evR) x.pls :: (A0 x.bW (As 32 evR) x.wrs :: (x.nb ++ (x.cb ++ (rbl x.pls ++ (rbl x.wrs ++ (bl ++ [])))))))))))) (Al J J) (Ab rM (Ab rM (Ab rM (Ab rM (Ab rM (Ab rM (Af sG (Af sG (Af sG (Af sG (Af sG Ak))))))))))) ?_)))
 rw [settle_done (first_none hke (by rw [show k = ks.length by omega] at hall; exact hall))] at hpl1 hpl2
 exact ⟨x, s, bl, l, rfl, (by simp only [DD.blks, List.cons_append, List.nil_append, List.append_nil, List.append_assoc]), hx, hac3, h32l, hn1, by omega, hpl1, by simpa using hpl2⟩

noncomputable def PD.add (X : PD) (D : DB) : PD × List (List UInt8) × Int :=
  if dgood D = 0 then
    (if ((Au X.orp (Bd D)).isSome || (Au X.P (Bd D)).isSome) = true then (X, [], 8)
     else if Ch X.P D = 2 then (X, [], 4)
     else if Ch X.P D = 0 then (if 64 ≤ X.orp.length then (X, [], 7) else ({ X with orp := Bh X.orp (Bd D) D }, [], 0))
     else ((PD.settle (X.adm (Bd D) D).orp.length (X.adm (Bd D) D)).1, Bd D :: (PD.settle (X.adm (Bd D) D).orp.length (X.adm (Bd D) D)).2, 0))
  else (X, [], dgood D)
theorem add_bad {X : PD} {D : DB} (h : ¬ dgood D = 0) : X.add D = (X, [], dgood D) := if_neg h
theorem add_there {X : PD} {D : DB} (h : dgood D = 0) (h2 : ((Au X.orp (Bd D)).isSome || (Au X.P (Bd D)).isSome) = true) : X.add D = (X, [], 8) := by unfold PD.add; rw [if_pos h, if_pos h2]
theorem add_wrong {X : PD} {D : DB} (h : dgood D = 0) (h2 : ((Au X.orp (Bd D)).isSome || (Au X.P (Bd D)).isSome) = false) (h3 : Ch X.P D = 2) : X.add D = (X, [], 4) := by unfold PD.add; rw [if_pos h, if_neg (by rw [h2]; decide), if_pos h3]
theorem add_full {X : PD} {D : DB} (h : dgood D = 0) (h2 : ((Au X.orp (Bd D)).isSome || (Au X.P (Bd D)).isSome) = false) (h3 : Ch X.P D = 0) (h4 : 64 ≤ X.orp.length) : X.add D = (X, [], 7) := by unfold PD.add; rw [if_pos h, if_neg (by rw [h2]; decide), if_neg oM, if_pos h3, if_pos h4]
theorem add_keep {X : PD} {D : DB} (h : dgood D = 0) (h2 : ((Au X.orp (Bd D)).isSome || (Au X.P (Bd D)).isSome) = false) (h3 : Ch X.P D = 0) (h4 : ¬ 64 ≤ X.orp.length) : X.add D = ({ X with orp := Bh X.orp (Bd D) D }, [], 0) := by unfold PD.add; rw [if_pos h, if_neg (by rw [h2]; decide), if_neg oM, if_pos h3, if_neg h4]
theorem add_fits {X : PD} {D : DB} (h : dgood D = 0) (h2 : ((Au X.orp (Bd D)).isSome || (Au X.P (Bd D)).isSome) = false) (h3 : Ch X.P D = 1) :
    X.add D = ((PD.settle (X.adm (Bd D) D).orp.length (X.adm (Bd D) D)).1, Bd D :: (PD.settle (X.adm (Bd D) D).orp.length (X.adm (Bd D) D)).2, 0) := by unfold PD.add; rw [if_pos h, if_neg (by rw [h2]; decide), if_neg oM, if_neg oM]
theorem good_check {D : DB} (h : dgood D = 0) : D.check = 0 := by
  unfold dgood at h
  split at h
  · assumption
  · exact h
def DD.hold (x : DD) (o : List Blk) : DD := { x with cb := x.cb ++ o }
theorem DD.ok.hold {x : DD} (h : x.ok) (o : List Blk) : (x.hold o).ok := { h with
  ent := fun p hp => ⟨(h.ent p hp).1, (h.ent p hp).2.1.more fun b hb => List.mem_append_left _ hb, (h.ent p hp).2.2⟩
  orp := fun p hp => ⟨(h.orp p hp).1, (h.orp p hp).2.1.more fun b hb => List.mem_append_left _ hb, (h.orp p hp).2.2⟩ }
def DD.wait (x : DD) (n : List UInt8) (B : Block) (D : DB) (o : List Blk) : DD := { x with orp := Bh x.orp n (B, D), cb := x.cb ++ o }
theorem DD.ok.wait {x : DD} (h : x.ok) {n : List UInt8} {B : Block} {D : DB} {o : List Blk} (h32 : n.length = 32) (hB : SameB B D) (hi : ∀ W2, Lies o W2 → BlockIs W2 B D) (hl : D.ls.length ≤ 16) (hroom : x.names.length + x.orp.length < 20000) (hfew : ¬ 64 ≤ x.orp.length) : (x.wait n B D o).ok := { h with
  orpn := by
    have := mput_len x.orp n (B, D)
    show (Bh x.orp n (B, D)).length ≤ 64
    omega
  big := by
    have := mput_len x.orp n (B, D)
    show x.names.length + (Bh x.orp n (B, D)).length ≤ 20000
    omega
  ent := fun p hp => ⟨(h.ent p hp).1, (h.ent p hp).2.1.more fun b hb => List.mem_append_left _ hb, (h.ent p hp).2.2⟩
  orp := fun p hp => by
    rcases mput_mem hp with hp | rfl
    · exact ⟨(h.orp p hp).1, (h.orp p hp).2.1.more fun b hb => List.mem_append_left _ hb, (h.orp p hp).2.2⟩
    · exact ⟨h32, ⟨hB, fun W hW => hi W (hW.sub fun b hb => List.mem_append_right _ hb)⟩, hl⟩ }
theorem wait_pl (x : DD) (n : List UInt8) (B : Block) (D : DB) (o : List Blk) : (x.wait n B D o).pl = { x.pl with orp := Bh x.pl.orp n D } := by
  unfold DD.pl DD.wait
  simp only
  rw [mput_map (fun b : BV => b.2)]
  rfl
def AddR (x : DD) (p : Nat) (D : DB) (al : List Blk) (v : Value) (out : List Blk) : Prop := ∃ (x' : DD) (s : Sl) (bl : List Blk), v = .tuple #[s.v, i64 (x.pl.add D).2.2] ∧ out = x'.blks p ++ (bl ++ al) ∧ x'.ok ∧ Hw.Acc s bl (A1 (x.pl.add D).2.1) 25 (x.pl.add D).2.1.length 32 ∧ (∀ n ∈ (x.pl.add D).2.1, n.length = 32) ∧ x'.pl = (x.pl.add D).1 ∧ x'.names.length + x'.orp.length ≤ x.names.length + x.orp.length + 1
def SetF (x0 : DD) (p : Nat) (s : Sl) (out : List Blk) : Prop := ∃ (x : DD) (bl : List Blk), out = x.blks p ++ bl ∧ x.ok ∧ Hw.Acc s bl (A1 (PD.settle x0.orp.length x0.pl).2) 25 (PD.settle x0.orp.length x0.pl).2.length 32 ∧ x.names.length + x.orp.length ≤ x0.names.length + x0.orp.length ∧ x.pl = (PD.settle x0.orp.length x0.pl).1
def SetL (x0 : DD) (p : Nat) (v : Value) (out : List Blk) : Prop := ∃ s : Sl, v = s.v ∧ s.n = (PD.settle x0.orp.length x0.pl).2.length ∧ (s.p = none → s.n = 0) ∧ (PD.settle x0.orp.length x0.pl).2.length ≤ 20000 ∧ (∀ n ∈ (PD.settle x0.orp.length x0.pl).2, n.length = 32) ∧ ∀ W2, Lies out W2 → SetF x0 p s out
theorem settle_len : ∀ (f : Nat) (X : PD), (PD.settle f X).2.length ≤ f
  | 0, X => Nat.le_refl _
  | f + 1, X => by
    unfold PD.settle
    cases X.first with
    | none => exact Nat.zero_le _
    | some n =>
      simp only
      split
      · simpa using settle_len f _
      · exact Nat.le_succ_of_le (settle_len f _)
theorem settle_32 : ∀ (f : Nat) (X : PD), (∀ p ∈ X.orp, p.1.length = 32) → ∀ n ∈ (PD.settle f X).2, n.length = 32
  | 0, X, _, n, h => by cases h
  | f + 1, X, hX, n, h => by
    unfold PD.settle at h
    cases hf : X.first with
    | none => rw [hf] at h; cases h
    | some m =>
      have hd : ∀ p ∈ (X.drop1 m).orp, p.1.length = 32 := fun p hp => hX p (mdel_mem hp)
      rw [hf] at h
      simp only at h
      split at h
      · rcases List.mem_cons.1 h with rfl | h
        · have := List.mem_of_find?_eq_some hf
          obtain ⟨q, hq, e⟩ := List.mem_map.1 ((isort_perm _).mem_iff.1 this)
          rw [← e]; exact hX q hq
        · exact settle_32 f _ (by exact hd) n h
      · exact settle_32 f _ hd n h
theorem there_eq (x : DD) (n : List UInt8) : ((Au x.pl.orp n).isSome || (Au x.pl.P n).isSome) = ((Au x.orp n).isSome || (Au x.ent n).isSome) := by
  rw [x.getO, show x.pl.P = x.P from rfl, x.getP, Option.isSome_map, Option.isSome_map]
theorem addR_err {x : DD} {p : Nat} {D : DB} {al : List Blk} {e : Int} (hx : x.ok) (h : x.pl.add D = (x.pl, [], e)) : AddR x p D al (.tuple #[.slice none 0 0, i64 e]) (x.blks p ++ al) := by
  unfold AddR
  rw [h]
  exact ⟨x, Sl.nil, [], rfl, rfl, hx, Acc.none, (fun n (h : n ∈ ([] : List (List UInt8))) => (by cases h)), rfl, Nat.le_succ _⟩
theorem addR_keep {x : DD} {p : Nat} {D : DB} {al o : List Blk} {B : Block} (hx : x.ok) (hB : SameB B D) (hi : ∀ W2, Lies o W2 → BlockIs W2 B D) (hl : D.ls.length ≤ 16) (hroom : x.names.length + x.orp.length < 20000) (hfew : ¬ 64 ≤ x.orp.length)
    (h : x.pl.add D = ({ x.pl with orp := Bh x.pl.orp (Bd D) D }, [], 0)) : AddR x p D al (.tuple #[.slice none 0 0, i64 0]) ((x.wait (Bd D) B D o).blks p ++ al) := by
  unfold AddR
  rw [h]
  refine ⟨x.wait (Bd D) B D o, Sl.nil, [], rfl, rfl, hx.wait (nameD_length D) hB hi hl hroom hfew, Acc.none, (fun n (h : n ∈ ([] : List (List UInt8))) => (by cases h)), wait_pl .., ?_⟩
  have := mput_len x.orp (Bd D) (B, D)
  show x.names.length + (Bh x.orp (Bd D) (B, D)).length ≤ _
  omega
theorem addR_fits {x x2 x3 : DD} {p : Nat} {D : DB} {al bl3 bl : List Blk} {s : Sl} (hplx : x2.pl = x.pl.adm (Bd D) D) (hol : x2.names.length + x2.orp.length = x.names.length + x.orp.length + 1) (hx2 : x2.ok) (hx3 : x3.ok) (hn3 : x3.names.length + x3.orp.length ≤ x2.names.length + x2.orp.length) (hpl3 : x3.pl = (PD.settle x2.orp.length x2.pl).1)
    (h32 : ∀ n ∈ (PD.settle x2.orp.length x2.pl).2, n.length = 32) (hac : Hw.Acc s bl (Aa (Bd D) ++ A1 (PD.settle x2.orp.length x2.pl).2) 25 (1 + (PD.settle x2.orp.length x2.pl).2.length) 32)
    (h : x.pl.add D = ((PD.settle (x.pl.adm (Bd D) D).orp.length (x.pl.adm (Bd D) D)).1, Bd D :: (PD.settle (x.pl.adm (Bd D) D).orp.length (x.pl.adm (Bd D) D)).2, 0)) : AddR x p D al (.tuple #[s.v, i64 0]) (x3.blks p ++ (bl ++ al)) := by
  have e : (x.pl.adm (Bd D) D).orp.length = x2.orp.length := by rw [← hplx]; show (x2.orp.map _).length = _; rw [List.length_map]
  rw [e, ← hplx] at h
  unfold AddR
  rw [h]
  refine ⟨x3, s, bl, rfl, rfl, hx3, ?_, ?_, hpl3, by omega⟩
  · show Hw.Acc s bl (A1 (Bd D :: _)) 25 (Bd D :: _).length 32
    rw [List.length_cons, Nat.add_comm]
    have e2 : ∀ l : List (List UInt8), A1 (Bd D :: l) = Aa (Bd D) ++ A1 l := fun l => by simp [A1]
    rw [e2]; exact hac
  · intro n hn
    rcases List.mem_cons.1 hn with rfl | hn
    · exact nameD_length D
    · exact h32 n hn
theorem dag_settleL (x0 : DD) (hx0 : x0.ok) (p : Nat) : Meets Tryz.prog 39 [ptr p 0] ((x0.blks p).map (·.n)) (fun W => Lent (x0.blks p) W) (SetL x0 p) :=
  (dag_settle x0 hx0 p).imp (fun w h => h) fun v out ⟨x, s, bl, l, h1, h2, h3, h4, h5, h6, h7, h8, h9⟩ => by
    subst h9
    exact ⟨s, h1, h4.num, h4.nil, by have := hx0.big; omega, h5, fun W2 _ => ⟨x, bl, h2, h3, h4, h6, h8⟩⟩
theorem no_lieU {n : Nat} {w : World} (h : Lies [⟨n, [undef], 0, 0⟩] w) : False := by
  exact lie_none h
theorem SetL.loose (x0 : DD) (hx0 : x0.ok) (p : Nat) (lent : List Nat) : LooseL lent (SetL x0 p) := fun l hl _ => by
  obtain ⟨n, _, hn⟩ := fresh_is 0 l
  have h32 : ∀ q ∈ x0.pl.orp, q.1.length = 32 := fun q hq => by
    obtain ⟨r, hr, rfl⟩ := List.mem_map.1 hq
    exact (hx0.orp r hr).1
  refine ⟨_, [⟨n, [undef], 0, 0⟩], ⟨⟨some ⟨0, 0, none⟩, (PD.settle x0.orp.length x0.pl).2.length, 0⟩, rfl, rfl, (fun e => by cases e), by have := settle_len x0.orp.length x0.pl; have := hx0.big; omega, settle_32 _ _ h32, fun W2 h => (no_lieU h).elim⟩, ?_⟩
  simp only [List.singleton_append, List.map_cons, List.nodup_cons]
  exact ⟨fun h => by obtain ⟨b, hb, e⟩ := List.mem_map.1 h; exact hn b hb e, hl⟩

theorem dag_add (x : DD) (hx : x.ok) (p : Nat) (B : Block) (D : DB) (al : List Blk) (hB : Held al B D) (hroom : x.names.length + x.orp.length < 20000) : Meets Tryz.prog 10 [ptr p 0, agg B.cells] ((x.blks p ++ al).map (·.n)) (fun W => Lent (x.blks p ++ al) W) (AddR x p D al) := by
 intro W hW
 have hbig := hx.big
 have hbd := hB.2 W (hW.1.sub (fun b hb => List.mem_append_right _ hb))
 have hn32 := nameD_length D
 generalize hlt : (x.blks p ++ al).map (·.n) = lt
 have AGR : AddR x p D al = AddR x p D al := rfl
 refine calls_of (hp0 := (x.blks p ++ al)) Tryz.func10 J 65 Tryz.ntmps10 J (hlt ▸ hW.rep) (G2 ?_)
 simp only [DD.blks, List.cons_append, List.nil_append, List.append_assoc]
 refine G1 ?_
 intro n3 hn3 hf3
 refine G8 ?_
 refine .cV J J J J Body33 (dag_valid x p) (fun w h => DagSee.of h Z1 Z2) ?_
 refine G3 ?_
 refine .cond_f J J (G5 ?_)
 refine .lA J J J Y31.h J Sz31 Z0 (Block.length (by exact hB.1.ok)) ?_
 refine .cV J J J J Body34 (db_good B D hB.1.ok) (fun w h => hB.2 w (Lies.of h (by repeat (first | exact in_all | refine Bp ?_ | refine in_seg ?_)))) ?_
 refine G9 ?_
 refine .condNP J (fun hc1 => ?_) (fun hc1 => ?_)
 ·
  refine G7 ?_
  skip
  refine G3 ?_
  refine Az (out := (⟨p, [ptr p 0, x.nm.v, .map (some x.bE), .map (some x.bH), .map (some x.bO), .map (some x.bP), .map (some x.bW)], 75, 7⟩ :: (A0 x.bE (As 32 evE) x.ent :: (A0 x.bH (As 32 evU) x.hds :: (A0 x.bO (As 32 evB) x.orp :: (A0 x.bP (placeT 32 evR) x.pls :: (A0 x.bW (As 32 evR) x.wrs :: (x.nb ++ (x.cb ++ (rbl x.pls ++ (rbl x.wrs ++ (al ++ [])))))))))))) (res_tmp2 J J J) (Ab rM (Ab rM (Ab rM (Ab rM (Ab rM (Ab rM (Af sG (Af sG (Af sG (Af sG (Af (by repeat (first | exact sg_end | apply sg_there)) Ak))))))))))) ?_
  have h9 := addR_err (p := p) (al := al) hx (add_bad hc1)
  simp only [DD.blks, DD.wait, List.cons_append, List.nil_append, List.append_nil, List.append_assoc] at h9 ⊢
  exact h9
 have hgd : dgood D = 0 := by omega
 have hck := good_check hgd
 obtain ⟨hs1, hs2⟩ := D.head_small hck
 refine G4 ?_
 refine .lA J J J Y31.h J Sz31 Z0 (Block.length (by exact hB.1.ok)) ?_
 refine .cV J J J J Body35 (db_name B D) (fun w h => hB.2 w (Lies.of h (by repeat (first | exact in_all | refine Bp ?_ | refine in_seg ?_)))) ?_
 refine .alloc (cs := (Aa (List.replicate 32 0))) J Zr25 J ?_
 intro n7 hn7 hf7
 refine .sA J J J J zE Sz25 (by (rw [Aa, List.length_map]; assumption)) Z0 sP zU ?_
 refine G4 ?_
 refine .draw [(0, 0), (0, 1), (0, 2), (1, 3), (1, 4), (1, 5), (0, 6), (0, 7), (0, 8), (2, 9), (4, 10), (0, 11)] Ap zK (G4 ?_)
 refine .lA J J J Y25.h J Sz25 Z0 (by (rw [Aa, List.length_map]; assumption)) ?_
 refine .lookF evB MO J J J J hn32 (by exact mem5) (fun hg => ?_) (fun e hg => ?_)
 ·
  skip
  refine G3 ?_
  refine .alloc (cs := Block.zero.cells) J Block.zr J ?_
  intro n8 hn8 hf8
  refine G9 ?_
  refine .lA J J J Y25.h J Sz25 Z1 (by (rw [Aa, List.length_map]; assumption)) ?_
  refine .cV J J J J Body13 (dag_has x hx p (Bd D) hn32) (fun w h => DagSee.of h Z3 Z4) ?_
  refine G3 ?_
  refine .cond J (fun hc2 => ?_) (fun hc2 => ?_)
  ·
   refine G6 ?_
   skip
   refine G3 ?_
   refine Az (out := (⟨p, [ptr p 0, x.nm.v, .map (some x.bE), .map (some x.bH), .map (some x.bO), .map (some x.bP), .map (some x.bW)], 75, 7⟩ :: (A0 x.bE (As 32 evE) x.ent :: (A0 x.bH (As 32 evU) x.hds :: (A0 x.bO (As 32 evB) x.orp :: (A0 x.bP (placeT 32 evR) x.pls :: (A0 x.bW (As 32 evR) x.wrs :: (x.nb ++ (x.cb ++ (rbl x.pls ++ (rbl x.wrs ++ (al ++ [])))))))))))) (res_tmp2 J J J) (Ab rM (Ab rM (Ab rM (Ab rM (Ab rM (Ab rM (Af sG (Af sG (Af sG (Af sG (Af (by repeat (first | exact sg_end | apply sg_there)) Ak))))))))))) ?_
   have h9 := addR_err (p := p) (al := al) hx (add_there hgd (by rw [there_eq, hg, hc2]; rfl))
   simp only [DD.blks, DD.wait, List.cons_append, List.nil_append, List.append_nil, List.append_assoc] at h9 ⊢
   exact h9
  refine G6 ?_
  refine .lA J J J Y31.h J Sz31 Z2 (Block.length (by exact hB.1.ok)) ?_
  refine .cV J J J J Body36 (dag_judge x hx p B D hB.1 oM) (fun w h => ⟨DagSee.of h Z3 Z4, hB.2 w (Lies.of h (by repeat (first | exact in_all | refine Bp ?_ | refine in_seg ?_)))⟩) ?_
  refine G9 ?_
  refine .condP J (fun hc3 => ?_) (fun hc3 => ?_)
  ·
   refine G6 ?_
   skip
   refine G4 ?_
   refine Az (out := (⟨p, [ptr p 0, x.nm.v, .map (some x.bE), .map (some x.bH), .map (some x.bO), .map (some x.bP), .map (some x.bW)], 75, 7⟩ :: (A0 x.bE (As 32 evE) x.ent :: (A0 x.bH (As 32 evU) x.hds :: (A0 x.bO (As 32 evB) x.orp :: (A0 x.bP (placeT 32 evR) x.pls :: (A0 x.bW (As 32 evR) x.wrs :: (x.nb ++ (x.cb ++ (rbl x.pls ++ (rbl x.wrs ++ (al ++ [])))))))))))) (res_tmp2 J J J) (Ab rM (Ab rM (Ab rM (Ab rM (Ab rM (Ab rM (Af sG (Af sG (Af sG (Af sG (Af (by repeat (first | exact sg_end | apply sg_there)) Ak))))))))))) ?_
   have h9 := addR_err (p := p) (al := al) hx (add_wrong hgd (by rw [there_eq, hg, hc2]; rfl) hc3)
   simp only [DD.blks, DD.wait, List.cons_append, List.nil_append, List.append_nil, List.append_assoc] at h9 ⊢
   exact h9
  refine G6 ?_
  refine .condP J (fun hc4 => ?_) (fun hc4 => ?_)
  ·
   refine G7 ?_
   refine .lenMap Y71.h J J J (by exact mem6) ?_
   refine G3 ?_
   refine .condP J (fun hc5 => ?_) (fun hc5 => ?_)
   ·
    refine G6 ?_
    skip
    refine G5 ?_
    refine Az (out := (⟨p, [ptr p 0, x.nm.v, .map (some x.bE), .map (some x.bH), .map (some x.bO), .map (some x.bP), .map (some x.bW)], 75, 7⟩ :: (A0 x.bE (As 32 evE) x.ent :: (A0 x.bH (As 32 evU) x.hds :: (A0 x.bO (As 32 evB) x.orp :: (A0 x.bP (placeT 32 evR) x.pls :: (A0 x.bW (As 32 evR) x.wrs :: (x.nb ++ (x.cb ++ (rbl x.pls ++ (rbl x.wrs ++ (al ++ [])))))))))))) (res_tmp2 J J J) (Ab rM (Ab rM (Ab rM (Ab rM (Ab rM (Ab rM (Af sG (Af sG (Af sG (Af sG (Af (by repeat (first | exact sg_end | apply sg_there)) Ak))))))))))) ?_
    have h9 := addR_err (p := p) (al := al) hx (add_full hgd (by rw [there_eq, hg, hc2]; rfl) hc4 (by show 64 ≤ (x.orp.map _).length; rw [List.length_map]; omega))
    simp only [DD.blks, DD.wait, List.cons_append, List.nil_append, List.append_nil, List.append_assoc] at h9 ⊢
    exact h9
   refine G3 ?_
   refine .draw [(0, 0), (0, 1), (0, 2), (1, 3), (1, 4), (1, 5), (3, 6), (4, 7)] Ap zK (G4 ?_)
   refine .lA J J J Y25.h J Sz25 Z1 (by (rw [Aa, List.length_map]; assumption)) ?_
   refine .lA J J J Y31.h J Sz31 Z2 (Block.length (by exact hB.1.ok)) ?_
   refine .call J J J J Body37 (dag_clone B D hB.1 oM oM) (BlkV.loose D hbd.dok) (fun w h => hB.2 w (Lies.of h (by repeat (first | exact in_all | refine Bp ?_ | refine in_seg ?_)))) ?_
   rintro v54 out54 ⟨B2, hB2, rfl, hbi⟩
   refine .mapPut (v := ((B2, D) : BV)) MO J J J J J hn32 rM ?_
   refine G8 ?_
   skip
   refine G4 ?_
   refine Az (out := (⟨p, [ptr p 0, x.nm.v, .map (some x.bE), .map (some x.bH), .map (some x.bO), .map (some x.bP), .map (some x.bW)], 75, 7⟩ :: (A0 x.bE (As 32 evE) x.ent :: (A0 x.bH (As 32 evU) x.hds :: (A0 x.bO (As 32 evB) (Bh x.orp (Bd D) (B2, D)) :: (A0 x.bP (placeT 32 evR) x.pls :: (A0 x.bW (As 32 evR) x.wrs :: (x.nb ++ (x.cb ++ (out54 ++ (rbl x.pls ++ (rbl x.wrs ++ (al ++ []))))))))))))) (res_tmp2 J J J) (Ab rM (Ab rM (Ab rM (Ab rM (Ab rM (Ab rM (Af sG (Af sG (Af sG (Af sG (Af sG (Af (by repeat (first | exact sg_end | apply sg_there)) Ak)))))))))))) ?_
   have h9 := addR_keep (p := p) (al := al) hx hB2 hbi oM hroom oM (add_keep hgd (by rw [there_eq, hg, hc2]; rfl) hc4 (by show ¬ 64 ≤ (x.orp.map _).length; rw [List.length_map]; omega))
   simp only [DD.blks, DD.wait, List.cons_append, List.nil_append, List.append_nil, List.append_assoc] at h9 ⊢
   exact h9
  refine G3 ?_
  refine .join (ι := Unit × DD) (fun j => ⟨[(0, ptr p 0), (7, ptr n7 0)], (⟨n7, Aa (Bd D), 25, 32⟩ :: (⟨p, [ptr p 0, j.2.nm.v, .map (some j.2.bE), .map (some j.2.bH), .map (some j.2.bO), .map (some j.2.bP), .map (some j.2.bW)], 75, 7⟩ :: (A0 j.2.bE (As 32 evE) j.2.ent :: (A0 j.2.bH (As 32 evU) j.2.hds :: (A0 j.2.bO (As 32 evB) j.2.orp :: (A0 j.2.bP (placeT 32 evR) j.2.pls :: (A0 j.2.bW (As 32 evR) j.2.wrs :: (j.2.nb ++ (j.2.cb ++ (rbl j.2.pls ++ (rbl j.2.wrs ++ (al ++ []))))))))))))⟩) (fun j => j.2.ok ∧ j.2.pl = x.pl.adm (Bd D) D ∧ j.2.names.length = x.names.length + 1 ∧ j.2.orp.length = x.orp.length) ?_ ?_
  ·
   refine .draw [(0, 0), (1, 1), (1, 2), (3, 3), (4, 4)] Ap zK (G1 ?_)
   refine .lA J J J Y25.h J Sz25 Z1 (by (rw [Aa, List.length_map]; assumption)) ?_
   refine .lA J J J Y31.h J Sz31 Z2 (Block.length (by exact hB.1.ok)) ?_
   refine .call J J J J Body37 (dag_clone B D hB.1 oM oM) (BlkV.loose D hbd.dok) (fun w h => hB.2 w (Lies.of h (by repeat (first | exact in_all | refine Bp ?_ | refine in_seg ?_)))) ?_
   rintro v58 out58 ⟨B2, hB2, rfl, hbi⟩
   refine .callL (L := ((x.hold out58).blks p)) J J J J J Body38 (dag_admit2 (x.hold out58) (hx.hold out58) p (Bd D) hn32 B2 D ⟨hB2, fun W hW => hbi W (hW.sub fun b hb => List.mem_append_right _ hb)⟩ oM hroom) (Ab rM (Ab rM (Ab rM (Ab rM (Ab rM (Ab rM (Af sG (pm_two (Af sG (Af sG (Af sG (Af sG Ak)))))))))))) (B6 J) (fun w h => Lent.of h (Ab rM (Ab rM (Ab rM (Ab rM (Ab rM (Ab rM (Af sG (pm_two (Af sG (Af sG (Af sG (Af sG Ak))))))))))))) ?_
   rintro v59 out59 ⟨rfl, x2, rfl, hx2, hplx, hnlx, holx⟩
   simp only [DD.blks, List.cons_append, List.nil_append, List.append_assoc]
   refine G2 ?_
   exact ⟨((), x2), ⟨hx2, hplx, hnlx, holx⟩, Ao (wk1 rfl (wk1 rfl wk0)) (Ab rM (Ab rM (Ab rM (Ab rM (Ab rM (Ab rM (Ab rM (Af sG (Af sG (Af sG (Af sG (Af (by repeat (first | exact sg_end | apply sg_there)) Ak))))))))))))⟩
  intro j hj
  obtain ⟨j0, x2⟩ := j
  simp only at hj ⊢
  obtain ⟨hx2, hplx, hnlx, holx⟩ := hj
  refine .seq (.withK (sp_k (sp_v (sp_v (sp_v (sp_v (sp_v (sp_v (sp_x (sp_x (sp_x (sp_x (sp_x sp_n)))))))))))) J (.draw [(0, 0), (0, 2), (5, 3), (2, 1), (4, 4), (0, 5), (0, 6)] Ap zK (.kloadAll J J J Y25.h J Sz25 Z0 (by (rw [Aa, List.length_map]; assumption)) ?_)))
  refine G1 ?_
  refine .callL5 (L := (x2.blks p)) J J J J J Body39 (dag_settleL x2 hx2 p) (SetL.loose x2 hx2 p _) (Ab rM (Ab rM (Ab rM (Ab rM (Ab rM (Ab rM (Af sG (Af sG (Af sG (Af sG Ak)))))))))) (B6 J) (fun w h => Lent.of h (Ab rM (Ab rM (Ab rM (Ab rM (Ab rM (Ab rM (Af sG (Af sG (Af sG (Af sG Ak))))))))))) ?_
  rintro v63 out63 ⟨⟨p63, n63, c63⟩, rfl, hn63, hnil63, hle63, h3263, hsf⟩
  refine .mkRow2 (z := agg (Aa (List.replicate 32 0))) [agg (Aa (Bd D))] (Aa (Bd D)) J J Y26.h Sz25 Zr25 J J (by intro v hv; rw [List.mem_singleton.1 hv]; simp [Value.cells, Aa, hn32]) dE (by simp [Value.cells, agg]) ?_
  intro q61
  refine .appendAcc (n := 1) (z := agg (Aa (List.replicate 32 0))) (by' := 32) (A1 (PD.settle x2.orp.length x2.pl).2) J J J J J Y26.h Y26.h Sz25 Zr25 (by unfold By; kernel_rfl) J (Acc.some (cells := Aa (Bd D)) (Nat.le_refl 1) (by rw [Aa, List.length_map, hn32])) (pm_consE rM J (by rw [Aa, List.length_map, hn32]) Ak) (fun w h => by have hL : Lies out63 w := Lies.of h (by repeat (first | exact Bf | refine Bp ?_)); obtain ⟨x3, bl3, e3, hx3, hac3, hr3⟩ := hsf w hL; exact hac3.see (hL.sub (fun b hb => by rw [e3]; exact List.mem_append_right _ hb))) hnil63 (flatB_cell _) oM oM (by rw [A7 h3263, ← hn63]) ?_
  intro s64 bl64 hac64
  refine G4 ?_
  simp only [List.cons_append, List.nil_append, List.append_nil, List.append_assoc]
  refine .know (fun w h => hsf w (Lies.of h (by repeat (first | exact Bf | refine in_seg ?_)))) (fun hF => ?_)
  obtain ⟨x3, bl3, rfl, hx3, hac3, hr3, hpl3⟩ := hF
  simp only [DD.blks, List.cons_append, List.nil_append, List.append_assoc]
  refine G2 ?_
  refine Az (out := (⟨p, [ptr p 0, x3.nm.v, .map (some x3.bE), .map (some x3.bH), .map (some x3.bO), .map (some x3.bP), .map (some x3.bW)], 75, 7⟩ :: (A0 x3.bE (As 32 evE) x3.ent :: (A0 x3.bH (As 32 evU) x3.hds :: (A0 x3.bO (As 32 evB) x3.orp :: (A0 x3.bP (placeT 32 evR) x3.pls :: (A0 x3.bW (As 32 evR) x3.wrs :: (x3.nb ++ (x3.cb ++ (rbl x3.pls ++ (rbl x3.wrs ++ (bl64 ++ (al ++ []))))))))))))) (res_tmp2 J J J) (Ab (by repeat (first | exact A5 | apply Cn)) (Ab (by repeat (first | exact A5 | apply Cn)) (Ab (by repeat (first | exact A5 | apply Cn)) (Ab (by repeat (first | exact A5 | apply Cn)) (Ab (by repeat (first | exact A5 | apply Cn)) (Ab (by repeat (first | exact A5 | apply Cn)) (Af (by repeat (first | exact Cm | apply sg_seg)) (Af (by repeat (first | exact Cm | apply sg_seg)) (Af (by repeat (first | exact Cm | apply sg_seg)) (Af (by repeat (first | exact Cm | apply sg_seg)) (Af sG (Af (by repeat (first | exact Cm | apply sg_seg)) Ak)))))))))))) ?_
  have h9 := addR_fits (p := p) (al := al) (bl3 := bl3) hplx oM hx2 hx3 hr3 hpl3 h3263 (by rw [← hn63]; exact hac64) (add_fits hgd (by rw [there_eq, hg, hc2]; rfl) (by rcases judge_cases x.P D with h8 | h8 | h8 <;> first | exact h8 | exact absurd h8 zA))
  simp only [DD.blks, DD.wait, List.cons_append, List.nil_append, List.append_nil, List.append_assoc] at h9 ⊢
  exact h9
 skip
 refine G3 ?_
 refine .alloc (cs := Block.zero.cells) J Block.zr J ?_
 intro n8 hn8 hf8
 refine .sA J J J J (Block.isCell (by exact hx.orpOk hg)) Sz31 (Block.length (by exact hx.orpOk hg)) Z0 (Block.length (by exact Block.zero_ok)) zU ?_
 refine G13 ?_
 refine .cond_t J J (G6 ?_)
 skip
 refine G3 ?_
 refine Az (out := (⟨p, [ptr p 0, x.nm.v, .map (some x.bE), .map (some x.bH), .map (some x.bO), .map (some x.bP), .map (some x.bW)], 75, 7⟩ :: (A0 x.bE (As 32 evE) x.ent :: (A0 x.bH (As 32 evU) x.hds :: (A0 x.bO (As 32 evB) x.orp :: (A0 x.bP (placeT 32 evR) x.pls :: (A0 x.bW (As 32 evR) x.wrs :: (x.nb ++ (x.cb ++ (rbl x.pls ++ (rbl x.wrs ++ (al ++ [])))))))))))) (res_tmp2 J J J) (Ab rM (Ab rM (Ab rM (Ab rM (Ab rM (Ab rM (Af sG (Af sG (Af sG (Af sG (Af (by repeat (first | exact sg_end | apply sg_there)) Ak))))))))))) ?_
 have h9 := addR_err (p := p) (al := al) hx (add_there hgd (by rw [there_eq, hg]; rfl))
 simp only [DD.blks, DD.wait, List.cons_append, List.nil_append, List.append_nil, List.append_assoc] at h9 ⊢
 exact h9

theorem DD.m0 (x : DD) (p : Nat) : (⟨p, [ptr p 0, x.nm.v, .map (some x.bE), .map (some x.bH), .map (some x.bO), .map (some x.bP), .map (some x.bW)], 75, 7⟩ : Blk) ∈ x.blks p := by unfold DD.blks; exact List.mem_cons_self
theorem DD.mE (x : DD) (p : Nat) : A0 x.bE (As 32 evE) x.ent ∈ x.blks p := by unfold DD.blks; exact mem1
theorem DD.mH (x : DD) (p : Nat) : A0 x.bH (As 32 evU) x.hds ∈ x.blks p := by unfold DD.blks; exact mem2
theorem DD.mO (x : DD) (p : Nat) : A0 x.bO (As 32 evB) x.orp ∈ x.blks p := by unfold DD.blks; exact mem3
theorem DD.mP (x : DD) (p : Nat) : A0 x.bP (placeT 32 evR) x.pls ∈ x.blks p := by unfold DD.blks; exact mem4
theorem DD.mW (x : DD) (p : Nat) : A0 x.bW (As 32 evR) x.wrs ∈ x.blks p := by unfold DD.blks; exact mem5
theorem DD.mcb (x : DD) (p : Nat) : ∀ b ∈ x.cb, b ∈ x.blks p := by unfold DD.blks; exact (by repeat (first | exact Bf | refine Bp ?_ | refine in_seg ?_))
theorem DagSee.lies {x : DD} {p : Nat} {W : World} (h : Lies (x.blks p) W) : DagSee x p W := ⟨h _ (x.m0 p), h _ (x.mE p)⟩
theorem lies_keep {C : Cx} {hp L : List Blk} {w : World} (h : Lies L C.W0) (hh : HRep C hp w) (hl : C.lent = [] := by rfl) : Lies L w := fun b hb => mblk_keep (h b hb) hh hl
def ddp (l : List (List UInt8)) : List (List UInt8) := l.foldr (fun a acc => if a ∈ acc then acc else a :: acc) []
theorem mem_ddp {a : List UInt8} : ∀ {l : List (List UInt8)}, a ∈ ddp l ↔ a ∈ l
  | [] => Iff.rfl
  | b :: l => by
    have ih := @mem_ddp a l
    show a ∈ (if b ∈ ddp l then ddp l else b :: ddp l) ↔ _
    split
    · rename_i h
      rw [ih, List.mem_cons]
      exact ⟨.inr, fun h2 => by rcases h2 with rfl | h2; exact ih.1 h; exact h2⟩
    · rw [List.mem_cons, List.mem_cons, ih]
theorem ddp_nodup : ∀ l, (ddp l).Nodup
  | [] => List.nodup_nil
  | b :: l => by
    show (if b ∈ ddp l then ddp l else b :: ddp l).Nodup
    split
    · exact ddp_nodup l
    · rename_i h; exact List.nodup_cons.2 ⟨h, ddp_nodup l⟩
def PD.lacks (X : PD) (n : List UInt8) : Bool := !(Au X.orp n).isSome && !(Au X.P n).isSome
def PD.missing (X : PD) : List (List UInt8) := isort (ddp (((X.orp.map fun p => Ca p.2).flatten).filter X.lacks))
def PD.orphans (X : PD) : List (List UInt8) := isort (X.orp.map (·.1))
theorem keys_put {ν : Type} (fs : List (List UInt8 × ν)) (k : List UInt8) (v : ν) (n : List UInt8) : n ∈ (Bh fs k v).map (·.1) ↔ n ∈ fs.map (·.1) ∨ n = k := by
  have key : ∀ j, midx fs k = some j → (fs.set j (k, v)).map (·.1) = fs.map (·.1) ∧ k ∈ fs.map (·.1) := fun j h => by
    unfold midx at h
    rw [List.findIdx?_eq_some_iff_getElem] at h
    obtain ⟨hl, he, _⟩ := h
    have e : fs[j].1 = k := by simpa using he
    refine ⟨?_, List.mem_map.2 ⟨fs[j], List.getElem_mem hl, e⟩⟩
    rw [List.map_set]
    refine List.ext_getElem? fun i => ?_
    rw [List.getElem?_set]
    split
    · rename_i hij
      subst hij
      rw [if_pos (by simpa using hl), List.getElem?_map, List.getElem?_eq_getElem hl]
      simp [e]
    · rfl
  unfold Bh
  cases h : midx fs k with
  | some j =>
    simp only
    rw [(key j h).1]
    exact ⟨.inl, fun h2 => by rcases h2 with h2 | rfl; exact h2; exact (key j h).2⟩
  | none => simp only [List.map_append, List.map_cons, List.map_nil, List.mem_append, List.mem_singleton]
structure MissI (x : DD) (done todo : List (List UInt8 × BV)) (ms : List (List UInt8 × Unit)) : Prop where
  perm : (done ++ todo).Perm x.orp
  r32 : ∀ q ∈ ms, q.1.length = 32
  nd : (ms.map (·.1)).Nodup
  len : ms.length + 17 * todo.length ≤ 17 * x.orp.length
  keys : ∀ n, n ∈ ms.map (·.1) ↔ ∃ q ∈ done, n ∈ Ca q.2.2 ∧ x.pl.lacks n = true
structure MissJ (x : DD) (L : List (List UInt8)) (k : Nat) (ms ms2 : List (List UInt8 × Unit)) : Prop where
  r32 : ∀ q ∈ ms2, q.1.length = 32
  nd : (ms2.map (·.1)).Nodup
  len : ms2.length ≤ ms.length + k
  keys : ∀ n, n ∈ ms2.map (·.1) ↔ n ∈ ms.map (·.1) ∨ (n ∈ L.take k ∧ x.pl.lacks n = true)
theorem lacks_eq (x : DD) (n : List UInt8) : x.pl.lacks n = (!(Au x.orp n).isSome && !(Au x.ent n).isSome) := by
  unfold PD.lacks
  rw [x.getO, show x.pl.P = x.P from rfl, x.getP, Option.isSome_map, Option.isSome_map]
theorem MissJ.yes {x : DD} {L : List (List UInt8)} {k : Nat} {ms ms2 : List (List UInt8 × Unit)} {kk : List UInt8} (h : MissJ x L k ms ms2) (hk : k < L.length) (hkk : kk = L.getD k []) (h32 : kk.length = 32) (hl : x.pl.lacks kk = true) : MissJ x L (k + 1) ms (Bh ms2 kk ()) where
  r32 := fun q hq => by rcases mput_mem hq with hq | rfl; exact h.r32 q hq; exact h32
  nd := mput_nodup h.nd kk ()
  len := by have := mput_len ms2 kk (); have := h.len; omega
  keys := fun n => by
    rw [keys_put, h.keys, take_one hk hkk, List.mem_append, List.mem_singleton]
    constructor
    · rintro ((h1 | h1) | rfl)
      · exact .inl h1
      · exact .inr ⟨.inl h1.1, h1.2⟩
      · exact .inr ⟨.inr rfl, hl⟩
    · rintro (h1 | ⟨h1 | rfl, h2⟩)
      · exact .inl (.inl h1)
      · exact .inl (.inr ⟨h1, h2⟩)
      · exact .inr rfl
theorem MissJ.no {x : DD} {L : List (List UInt8)} {k : Nat} {ms ms2 : List (List UInt8 × Unit)} {kk : List UInt8} (h : MissJ x L k ms ms2) (hk : k < L.length) (hkk : kk = L.getD k []) (hl : x.pl.lacks kk = false) : MissJ x L (k + 1) ms ms2 where
  r32 := h.r32
  nd := h.nd
  len := by have := h.len; omega
  keys := fun n => by
    rw [h.keys, take_one hk hkk, List.mem_append, List.mem_singleton]
    constructor
    · rintro (h1 | h1)
      · exact .inl h1
      · exact .inr ⟨.inl h1.1, h1.2⟩
    · rintro (h1 | ⟨h1 | rfl, h2⟩)
      · exact .inl h1
      · exact .inr ⟨h1, h2⟩
      · rw [hl] at h2; cases h2
theorem MissI.next {x : DD} {done todo : List (List UInt8 × BV)} {ms ms2 : List (List UInt8 × Unit)} {j : Nat} {q : List UInt8 × BV} (h : MissI x done todo ms) (hj : todo[j]? = some q) (hJ : MissJ x (Ca q.2.2) (Ca q.2.2).length ms ms2) (hl : (Ca q.2.2).length ≤ 17) : MissI x (done ++ [q]) (todo.eraseIdx j) ms2 where
  perm := perm_step h.perm hj
  r32 := hJ.r32
  nd := hJ.nd
  len := by
    have h1 := hJ.len
    have h2 := h.len
    have h3 := (List.getElem?_eq_some_iff.1 hj).1
    rw [List.length_eraseIdx, if_pos h3]
    omega
  keys := fun n => by
    rw [hJ.keys, h.keys, List.take_length]
    constructor
    · rintro (⟨r, hr, h1⟩ | h1)
      · exact ⟨r, List.mem_append_left _ hr, h1⟩
      · exact ⟨q, List.mem_append_right _ (List.mem_singleton.2 rfl), h1⟩
    · rintro ⟨r, hr, h1⟩
      rcases List.mem_append.1 hr with hr | hr
      · exact .inl ⟨r, hr, h1⟩
      · rw [List.mem_singleton.1 hr] at h1; exact .inr h1
theorem MissI.fin {x : DD} {done : List (List UInt8 × BV)} {ms : List (List UInt8 × Unit)} {ks : List (List UInt8)} (h : MissI x done [] ms) (hp : ks.Perm (ms.map (·.1))) (hs : SortB ks) : ks = x.pl.missing := by
  unfold PD.missing
  refine isort_eq (hp.trans ((List.perm_ext_iff_of_nodup h.nd (ddp_nodup _)).2 fun n => ?_)) hs
  rw [mem_ddp, h.keys, List.mem_filter, List.mem_flatten]
  have hm : ∀ q, q ∈ done ↔ q ∈ x.orp := fun q => by have := h.perm.mem_iff (a := q); rwa [List.append_nil] at this
  constructor
  · rintro ⟨q, hq, h1, h2⟩
    exact ⟨⟨Ca q.2.2, List.mem_map.2 ⟨(q.1, q.2.2), List.mem_map.2 ⟨q, (hm q).1 hq, rfl⟩, rfl⟩, h1⟩, h2⟩
  · rintro ⟨⟨l, hl, h1⟩, h2⟩
    obtain ⟨r, hr, rfl⟩ := List.mem_map.1 hl
    obtain ⟨q, hq, rfl⟩ := List.mem_map.1 hr
    exact ⟨q, (hm q).2 hq, h1, h2⟩

theorem dag_orphans (x : DD) (hx : x.ok) (p : Nat) : Meets Tryz.prog 16 [ptr p 0] [] (fun W => Lies (x.blks p) W) (RowA x.pl.orphans) := by
 intro W hW
 refine Ac Tryz.func16 J 11 Tryz.ntmps16 J (G9 ?_)
 refine .cV J J J J Body33 (dag_valid x p) (fun w h => DagSee.ext h (DagSee.lies hW)) (G3 ?_)
 refine .cond_f J J (G7 ?_)
 refine .loadE J J J Y71.h J sP ((DagSee.lies hW).at (o := 4) J) (.call4 J J J J J Body43 (dag_sortedB MO x.bO x.orp (fun p hp => (hx.orp p hp).1) (by have := hx.big; omega)) (fun w h => mblk_keep (hW _ (x.mO p)) h) ?_)
 rintro v10 out10 ⟨s10, ks, hkp, hks, rfl, hac⟩
 obtain rfl : ks = x.pl.orphans := isort_eq (by rw [orp_keys]; exact hkp) hks
 refine G3 ?_
 -- ret
 refine G2 ?_
 refine Az (out := (out10 ++ [])) (Al J J) (Af sG Ak) ?_
 exact ⟨s10, rfl, by simpa using hac⟩

theorem dag_missing (x : DD) (hx : x.ok) (p : Nat) : Meets Tryz.prog 17 [ptr p 0] [] (fun W => Lies (x.blks p) W) (RowA x.pl.missing) := by
 intro W hW
 obtain ⟨es, clock, hb, F⟩ := (hW _ (x.mO p)).map
 have hbig := hx.orpn
 refine Ac Tryz.func17 J 53 Tryz.ntmps17 J (G9 ?_)
 refine .cV J J J J Body33 (dag_valid x p) (fun w h => DagSee.ext h (DagSee.lies hW)) (G3 ?_)
 refine .cond_f J J (G4 ?_)
 refine .mkMap (As 32 evU) J J ?_
 intro m3
 refine G9 ?_
 refine .loadE J J J Y71.h J sP ((DagSee.lies hW).at (o := 4) J) (.rangeMapC Y71.h hb sP J J J J ?_)
 intro q18
 refine G3 ?_
 refine .loop (ι := Array Nat × List (List UInt8 × BV) × List (List UInt8 × BV) × List (List UInt8 × Unit)) (fun q => ⟨[(0, ptr p 0), (3, .map (some m3)), (18, ptr q18 0)], [iblk q18 x.bO clock q.1, A0 m3 (As 32 evU) q.2.2.2]⟩) (fun q => ItOk (As 32 evB) es q.1 q.2.2.1 ∧ MissI x q.2.1 q.2.2.1 q.2.2.2) (fun q => q.2.2.1.length) ((#[], [], x.orp, [])) ?_ ?_ ?_
 · exact ⟨ItOk.start F, ⟨List.Perm.refl _, fun q h => (by cases h), List.nodup_nil, by simp, fun n => by simp⟩⟩
 · exact Ao (wk1 rfl (wk1 rfl (wk1 rfl wk0))) (Ab rM (Ab rM Ak))
 rintro q ⟨hi, hI⟩
 refine G2 ?_
 refine .nextMapC F hi hb sP J J J J rM ?_ ?_
 ·
  intro htd
  refine G4 ?_
  refine .cond_f J J (G7 ?_)
  rw [htd] at hI
  have hj9 := hI
  refine G1 ?_
  refine .call4 J J J J J Body40 (dag_sortedU MH m3 q.2.2.2 hj9.r32 (by have := hj9.len; omega)) (fun w h => h.cells _ Z0) ?_
  rintro v52 out52 ⟨s52, ks, hkp, hks, rfl, hac⟩
  obtain rfl := hj9.fin hkp hks
  refine G3 ?_
  -- ret
  refine G2 ?_
  refine Az (out := (out52 ++ [])) (Al J J) (Af sG Ak) ?_
  exact ⟨s52, rfl, by simpa using hac⟩
 intro j k0 v seen2 hj hit hat
 have hmem : (k0, v) ∈ x.orp := hI.perm.mem_iff.1 (List.mem_append_right _ (List.mem_of_getElem? hj))
 have hvo := hx.orp _ hmem
 simp only at hvo
 have hrow := parL_row (hvo.2.1.2 W (hW.sub (x.mcb p))).dok
 refine G4 ?_
 refine .cond_t J J (G5 ?_)
 refine .entryMapC F hat hb sP J J J Z0 ?_
 refine G1 ?_
 refine .alloc (cs := Block.zero.cells) J Block.zr J ?_
 intro n5 hn5 hf5
 refine .sA J J J J (Block.isCell (by exact hvo.2.1.1.ok)) Sz31 (Block.length (by exact hvo.2.1.1.ok)) Z0 (Block.length (by exact Block.zero_ok)) zU ?_
 refine G4 ?_
 refine .lA J J J Y31.h J Sz31 Z0 (Block.length (by exact hvo.2.1.1.ok)) ?_
 refine .call4 J J J J J Body44 (db_parA v.1 v.2 oM) (fun w h => hvo.2.1.2 w ((lies_keep hW h).sub (x.mcb p))) ?_
 rintro v24 out24 ⟨s24, rfl, hac⟩
 have hn24 : s24.n = (Ca v.2).length := hac.num
 have hp17 : (Ca v.2).length ≤ 17 := by have := parL_len v.2; omega
 refine G5 ?_
 refine .loop (ι := Nat × List (List UInt8 × Unit)) (fun r => ⟨[(0, ptr p 0), (3, .map (some m3)), (18, ptr q18 0), (24, s24.v), (25, i64 (s24.n : Int)), (26, i64 (r.1 : Int))], (iblk q18 x.bO clock seen2 :: (A0 m3 (As 32 evU) r.2 :: (out24 ++ [])))⟩) (fun r => r.1 ≤ (Ca v.2).length ∧ MissJ x (Ca v.2) r.1 q.2.2.2 r.2) (fun r => (Ca v.2).length - r.1) ((0, q.2.2.2)) ?_ ?_ ?_
 · exact ⟨Nat.zero_le _, ⟨hI.r32, hI.nd, Nat.le_refl _, fun n => by simp⟩⟩
 · exact Ao (wk1 rfl (wk1 rfl (wk1 rfl (wk1 rfl (wk1 rfl (wk1 rfl wk0)))))) (Ab rM (Ab rM (Af sG Ak)))
 rintro ⟨k, ms2⟩ ⟨hk0, hJ⟩
 simp only at hk0 hJ ⊢
 refine G6 ?_
 refine .condP J (fun hc2 => ?_) (fun hc2 => ?_)
 ·
  refine G6 ?_
  have hk : k < (Ca v.2).length := by omega
  have hkb : k ≤ 600000 := by omega
  rcases hac with ⟨_, _, _, h0⟩ | ⟨qr, cr, rfl, hnc, hfl, rfl⟩
  · exfalso; omega
  obtain ⟨kk, hkk⟩ : ∃ kk, kk = (Ca v.2).getD k [] := ⟨_, rfl⟩
  have h32k : kk.length = 32 := by rw [hkk, List.getD_eq_getElem?_getD, List.getElem?_eq_getElem hk]; exact hrow _ (List.getElem_mem hk)
  refine .idxSlP 32 J J J J J Y26.h Sz25 k J oM (.loadSN (n := 32) (Aa kk) J J J Y25.h J Sz25 (by rw [Aa, List.length_map]; exact h32k) (fun w h => by rw [hkk]; simpa using sees_row hrow (Ar h Z2) hk) ?_)
  refine .alloc (cs := (Aa (List.replicate 32 0))) J Zr25 J ?_
  intro n7 hn7 hf7
  refine .sA J J J J zE Sz25 (by (rw [Aa, List.length_map]; assumption)) Z0 sP zU ?_
  refine G3 ?_
  refine .draw [(0, 0), (0, 1), (0, 2), (1, 3), (1, 4), (1, 5), (0, 6), (0, 7), (0, 8), (2, 9), (4, 10), (0, 11)] Ap zK (G3 ?_)
  refine .loadE J J J Y71.h J sP ((DagSee.lies hW).at (o := 4) J) (.lA J J J Y25.h J Sz25 Z0 (by (rw [Aa, List.length_map]; assumption)) ?_)
  refine .lookFC evB MO (hW _ (x.mO p)) sP J J J J h32k (fun hg => ?_) (fun e hg => ?_)
  ·
   skip
   refine G3 ?_
   refine .alloc (cs := Block.zero.cells) J Block.zr J ?_
   intro n8 hn8 hf8
   refine G10 ?_
   refine .lA J J J Y25.h J Sz25 Z1 (by (rw [Aa, List.length_map]; assumption)) ?_
   refine .cV J J J J Body13 (dag_has x hx p kk h32k) (fun w h => DagSee.ext h (DagSee.lies hW)) (G4 ?_)
   refine .cond J (fun hc3 => ?_) (fun hc3 => ?_)
   ·
    refine G2 ?_
    refine .lA J J J Y25.h J Sz25 Z1 (by (rw [Aa, List.length_map]; assumption)) ?_
    refine .build (cs := []) J J J (fun w => by kernel_rfl) ?_
    refine .mapPut (v := ()) MH J J J J J h32k rM ?_
    refine G8 ?_
    exact ⟨(k + 1, Bh ms2 kk ()), ⟨hk, hJ.yes hk hkk h32k (by rw [lacks_eq, hg]; simpa using hc3)⟩, by simp only; omega, Ao (wk1 rfl (wk1 rfl (wk1 rfl (wk1 rfl (wk1 rfl (wk1 rfl wk0)))))) (Ab rM (Ab rM (Af sG Ak)))⟩
   refine G8 ?_
   exact ⟨(k + 1, ms2), ⟨hk, hJ.no hk hkk (by rw [lacks_eq, hg]; simpa using hc3)⟩, by simp only; omega, Ao (wk1 rfl (wk1 rfl (wk1 rfl (wk1 rfl (wk1 rfl (wk1 rfl wk0)))))) (Ab rM (Ab rM (Af sG Ak)))⟩
  skip
  refine G3 ?_
  refine .alloc (cs := Block.zero.cells) J Block.zr J ?_
  intro n8 hn8 hf8
  refine .sA J J J J (Block.isCell (by exact hx.orpOk hg)) Sz31 (Block.length (by exact hx.orpOk hg)) Z0 (Block.length (by exact Block.zero_ok)) zU ?_
  refine G15 ?_
  refine .cond_f J J (G8 ?_)
  exact ⟨(k + 1, ms2), ⟨hk, hJ.no hk hkk (by rw [lacks_eq, hg]; rfl)⟩, by simp only; omega, Ao (wk1 rfl (wk1 rfl (wk1 rfl (wk1 rfl (wk1 rfl (wk1 rfl wk0)))))) (Ab rM (Ab rM (Af sG Ak)))⟩
 refine G6 ?_
 exact ⟨(seen2, q.2.1 ++ [(k0, v)], q.2.2.1.eraseIdx j, ms2), ⟨hit, hI.next hj (by rw [show (Ca v.2).length = k by omega]; exact hJ) hp17⟩, by have h8 := (List.getElem?_eq_some_iff.1 hj).1; simp only [List.length_eraseIdx, h8, if_true]; omega, Ao (wk1 rfl (wk1 rfl (wk1 rfl wk0))) (Ab rM (Ab rM Ak))⟩
end Go.Proofs.YtfcbgdkpagcbbaaGreat
end

section
namespace Go.Proofs.YtfcbgdkpagcbbaaGreat
open Go Hw Ed
def affX (n : Nat) : Nat := force (fastN n) fun s => ux s * pwm PF 256 (uz s % PF) (PF - 2) % PF
def affY (n : Nat) : Nat := force (fastN n) fun s => uy s * pwm PF 256 (uz s % PF) (PF - 2) % PF
theorem fast_at {n X Y : Nat} (hn : n < 2 ^ 256) (hx : affX n = X) (hy : affY n = Y) : cv.mul n bP = ⟨fe X, fe Y⟩ := by
  refine fastN_pt hn ?_ ?_
  · rw [← hx, affX, force_eq, fe_mod, fe_mul]; rfl
  · rw [← hy, affY, force_eq, fe_mod, fe_mul]; rfl
theorem same_mul {a b : Nat} (h : cv.mul a bP = cv.mul b bP) : L ∣ a + (L - b % L) := by
  refine order_dvd ?_
  have hb : cv.mul (b % L) bP = cv.mul b bP := cv.mul_order bP_on bP_order b
  have hL := Nat.mod_lt b L_pos
  rw [cv.mul_add bP_on, h, ← hb, ← cv.mul_add bP_on, Nat.add_sub_cancel' (Nat.le_of_lt hL)]
  exact bP_order
theorem lin_same {S c n r : Nat} (h : cv.lin S c bP (neg (cv.mul n bP)) = cv.mul r bP) : L ∣ S + (L - (c * n + r) % L) := by
  refine same_mul ?_
  have hn := cv.on_mul bP_on n
  have hk := cv.on_mul hn c
  have hS := cv.on_mul bP_on S
  have h2 := congrArg (cv.add (cv.mul c (cv.mul n bP))) h
  rw [Cv.lin, cv.mul_neg hn, cv.add_comm, cv.add_assoc hS (cv.on_neg hk) hk, cv.add_comm (neg _), cv.add_neg hk, cv.add_zero, ← cv.mul_mul bP_on, ← cv.mul_add bP_on] at h2
  exact h2
theorem good_other {s s1 sg bb : List UInt8} {n r S c : Nat} (h1 : sg.take 32 = sgF s1) (h2 : le (clampB (s.take 32)) = n) (h3 : le (sgR s1) = r) (h4 : le (sg.drop 32) = S) (h5 : le (sgR (Bz (sg.take 32 ++ (sgK s ++ bb)))) = c) (h : ¬ L ∣ S + (L - (c * n + r) % L)) : goodB (sgK s) bb sg = false := by
  unfold goodB
  simp only [decide_eq_false_iff_not]
  rintro ⟨_, A, R, e1, e2, e3⟩
  rw [sgK_read] at e1
  rw [h1, sgF_read] at e2
  rw [h5, h4] at e3
  rw [← Option.some.inj e1, ← Option.some.inj e2, h2, h3] at e3
  exact h (lin_same e3)

end Go.Proofs.YtfcbgdkpagcbbaaGreat
end

section
namespace Go.Proofs.YtfcbgdkpagcbbaaGreat
open Go Hw Ed
def seB : List UInt8 := [1, 0, 0, 0, 0, 0, 0, 0, 0, 0, 0, 0, 0, 0, 0, 0, 0, 0, 0, 0, 0, 0, 0, 0, 0, 0, 0, 0, 0, 0, 0, 77]
def seH : List UInt8 := [87, 159, 104, 236, 80, 14, 38, 174, 240, 0, 164, 75, 108, 245, 33, 87, 115, 113, 131, 28, 237, 105, 185, 222, 57, 145, 233, 242, 112, 190, 170, 213, 35, 11, 137, 144, 70, 23, 17, 214, 148, 220, 86, 67, 25, 124, 131, 91, 42, 247, 30, 195, 63, 213, 16, 142, 181, 57, 199, 82, 96, 7, 203, 83]
def seN : List UInt8 := [80, 159, 104, 236, 80, 14, 38, 174, 240, 0, 164, 75, 108, 245, 33, 87, 115, 113, 131, 28, 237, 105, 185, 222, 57, 145, 233, 242, 112, 190, 170, 85]
def seK : List UInt8 := [96, 107, 246, 169, 182, 86, 212, 252, 106, 138, 137, 108, 60, 10, 195, 142, 100, 120, 65, 80, 61, 64, 193, 87, 241, 248, 221, 83, 126, 228, 255, 164]
theorem se_h : Bz seB = seH := by kernel_rfl
theorem se_n : clampB (seH.take 32) = seN := by kernel_rfl
theorem se_n1 : le seN = 38748270507491543869280182973643753799655646515636239770492563660028217171792 := by kernel_rfl
theorem se_kp : cv.mul 38748270507491543869280182973643753799655646515636239770492563660028217171792 bP = ⟨fe 28707919823945954948053480135173306747324634050804968349977642706858962874917, fe 16735385554468660665858041024650955505467194536748309173234908357429617388384⟩ := fast_at dE zK zK
theorem se_kb : pb ⟨fe 28707919823945954948053480135173306747324634050804968349977642706858962874917, fe 16735385554468660665858041024650955505467194536748309173234908357429617388384⟩ = seK := by kernel_rfl
theorem se_k : sgK seH = seK := by rw [sgK, se_n, se_n1, se_kp, se_kb]
end Go.Proofs.YtfcbgdkpagcbbaaGreat
end

section
namespace Go.Proofs.YtfcbgdkpagcbbaaGreat
open Go Hw Ed
def caT : List UInt8 := [98, 108, 111, 99, 107, 96, 107, 246, 169, 182, 86, 212, 252, 106, 138, 137, 108, 60, 10, 195, 142, 100, 120, 65, 80, 61, 64, 193, 87, 241, 248, 221, 83, 126, 228, 255, 164, 0, 0, 0, 0, 0, 0, 0, 0, 0, 0, 0, 0, 0, 0, 0, 0, 0, 0, 0, 0, 0, 0, 0, 0, 0, 0, 0, 0, 0, 0, 0, 0, 0, 0, 0]
def caH1 : List UInt8 := [175, 245, 139, 51, 122, 16, 147, 33, 38, 39, 224, 157, 222, 105, 232, 188, 152, 149, 109, 97, 216, 125, 234, 179, 159, 81, 122, 195, 242, 72, 74, 119, 53, 216, 210, 42, 46, 223, 69, 11, 135, 148, 195, 158, 63, 50, 252, 208, 249, 136, 161, 26, 50, 44, 85, 195, 247, 211, 139, 14, 82, 224, 120, 42]
def caH2 : List UInt8 := [94, 68, 37, 235, 75, 3, 179, 227, 182, 168, 24, 97, 151, 39, 145, 159, 85, 188, 197, 58, 181, 59, 46, 167, 161, 148, 253, 26, 77, 111, 57, 247, 223, 4, 85, 65, 115, 67, 54, 205, 150, 114, 139, 244, 13, 183, 50, 14, 182, 243, 250, 185, 18, 161, 221, 142, 41, 60, 249, 199, 226, 150, 120, 220]
def caF : List UInt8 := [168, 217, 184, 90, 171, 153, 102, 32, 85, 221, 230, 215, 79, 168, 176, 196, 238, 161, 142, 119, 27, 171, 182, 97, 56, 89, 7, 177, 97, 96, 106, 222]
def caS : List UInt8 := [168, 217, 184, 90, 171, 153, 102, 32, 85, 221, 230, 215, 79, 168, 176, 196, 238, 161, 142, 119, 27, 171, 182, 97, 56, 89, 7, 177, 97, 96, 106, 222, 147, 245, 169, 6, 87, 234, 48, 223, 156, 70, 165, 238, 89, 18, 170, 116, 162, 60, 219, 161, 170, 149, 137, 114, 121, 52, 200, 59, 2, 8, 234, 7]
def caBy : List UInt8 := [96, 107, 246, 169, 182, 86, 212, 252, 106, 138, 137, 108, 60, 10, 195, 142, 100, 120, 65, 80, 61, 64, 193, 87, 241, 248, 221, 83, 126, 228, 255, 164, 0, 0, 0, 0, 0, 0, 0, 0, 0, 0, 0, 0, 0, 0, 0, 0, 0, 0, 0, 0, 0, 0, 0, 0, 0, 0, 0, 0, 0, 0, 0, 0, 0, 0, 0, 168, 217, 184, 90, 171, 153, 102, 32, 85, 221, 230, 215, 79, 168, 176, 196, 238, 161, 142, 119, 27, 171, 182, 97, 56, 89, 7, 177, 97, 96, 106, 222, 147, 245, 169, 6, 87, 234, 48, 223, 156, 70, 165, 238, 89, 18, 170, 116, 162, 60, 219, 161, 170, 149, 137, 114, 121, 52, 200, 59, 2, 8, 234, 7]
def caN : List UInt8 := [245, 128, 166, 236, 115, 103, 218, 171, 156, 152, 104, 209, 8, 35, 100, 255, 250, 6, 117, 248, 138, 242, 55, 247, 9, 42, 190, 105, 223, 108, 180, 214]
theorem ca_h1 : Bz (seH.drop 32 ++ caT) = caH1 := by kernel_rfl
theorem ca_r1 : le (sgR caH1) = 565907765622320541399421425701583650488762096448569470237382742425803974514 := by kernel_rfl
theorem ca_fp : cv.mul 565907765622320541399421425701583650488762096448569470237382742425803974514 bP = ⟨fe 18245592651785512595255292360529423542044015622478525998739077956776277608981, fe 42705358757100966483473454035153470381756883780899493976395842344226991430056⟩ := fast_at dE zK zK
theorem ca_fb : pb ⟨fe 18245592651785512595255292360529423542044015622478525998739077956776277608981, fe 42705358757100966483473454035153470381756883780899493976395842344226991430056⟩ = caF := by kernel_rfl
theorem ca_f : sgF caH1 = caF := by rw [sgF, ca_r1, ca_fp, ca_fb]
theorem ca_h2 : Bz (caF ++ (seK ++ caT)) = caH2 := by kernel_rfl
theorem ca_s1 : caF ++ sgS seH caH1 caH2 = caS := by kernel_rfl
theorem ca_s : sgF caH1 ++ sgS seH caH1 caH2 = caS := by rw [ca_f, ca_s1]
theorem ca_h2' : Bz (sgF caH1 ++ (sgK seH ++ caT)) = caH2 := by rw [ca_f, se_k, ca_h2]
theorem ca_good : goodB seK caT caS = true := by
  have h := good_self seH caH1 caT ca_h2'
  rwa [ca_s, se_k] at h
theorem ca_n : sha256 caBy = caN := by kernel_rfl
def cbT : List UInt8 := [98, 108, 111, 99, 107, 96, 107, 246, 169, 182, 86, 212, 252, 106, 138, 137, 108, 60, 10, 195, 142, 100, 120, 65, 80, 61, 64, 193, 87, 241, 248, 221, 83, 126, 228, 255, 164, 1, 245, 128, 166, 236, 115, 103, 218, 171, 156, 152, 104, 209, 8, 35, 100, 255, 250, 6, 117, 248, 138, 242, 55, 247, 9, 42, 190, 105, 223, 108, 180, 214, 0, 0]
def cbH1 : List UInt8 := [196, 73, 168, 87, 171, 43, 90, 194, 135, 153, 214, 166, 91, 130, 87, 83, 242, 50, 206, 135, 18, 65, 8, 143, 242, 112, 25, 184, 169, 110, 105, 32, 190, 46, 237, 148, 70, 102, 122, 113, 239, 245, 136, 1, 131, 151, 134, 231, 11, 7, 209, 170, 44, 2, 235, 117, 140, 65, 168, 109, 134, 117, 29, 166]
def cbH2 : List UInt8 := [124, 134, 186, 26, 147, 86, 203, 33, 170, 107, 23, 245, 118, 24, 203, 227, 5, 156, 2, 79, 18, 244, 180, 18, 8, 90, 50, 54, 201, 37, 175, 214, 96, 120, 151, 90, 93, 212, 114, 61, 209, 242, 90, 73, 32, 87, 208, 81, 139, 106, 219, 229, 91, 171, 202, 119, 237, 83, 242, 87, 178, 30, 10, 30]
def cbF : List UInt8 := [243, 120, 3, 82, 236, 210, 11, 7, 232, 87, 94, 184, 218, 48, 247, 84, 134, 241, 240, 121, 131, 106, 27, 57, 114, 211, 64, 247, 135, 107, 125, 145]
def cbS : List UInt8 := [243, 120, 3, 82, 236, 210, 11, 7, 232, 87, 94, 184, 218, 48, 247, 84, 134, 241, 240, 121, 131, 106, 27, 57, 114, 211, 64, 247, 135, 107, 125, 145, 164, 5, 140, 165, 50, 216, 79, 85, 199, 86, 81, 76, 89, 78, 250, 62, 4, 128, 30, 192, 136, 209, 82, 233, 192, 68, 44, 83, 251, 25, 240, 15]
def cbBy : List UInt8 := [96, 107, 246, 169, 182, 86, 212, 252, 106, 138, 137, 108, 60, 10, 195, 142, 100, 120, 65, 80, 61, 64, 193, 87, 241, 248, 221, 83, 126, 228, 255, 164, 1, 245, 128, 166, 236, 115, 103, 218, 171, 156, 152, 104, 209, 8, 35, 100, 255, 250, 6, 117, 248, 138, 242, 55, 247, 9, 42, 190, 105, 223, 108, 180, 214, 0, 0, 243, 120, 3, 82, 236, 210, 11, 7, 232, 87, 94, 184, 218, 48, 247, 84, 134, 241, 240, 121, 131, 106, 27, 57, 114, 211, 64, 247, 135, 107, 125, 145, 164, 5, 140, 165, 50, 216, 79, 85, 199, 86, 81, 76, 89, 78, 250, 62, 4, 128, 30, 192, 136, 209, 82, 233, 192, 68, 44, 83, 251, 25, 240, 15]
def cbN : List UInt8 := [245, 56, 56, 94, 136, 118, 14, 12, 106, 47, 72, 229, 131, 0, 228, 9, 165, 106, 181, 17, 1, 42, 218, 115, 48, 50, 158, 110, 139, 100, 212, 101]
theorem cb_h1 : Bz (seH.drop 32 ++ cbT) = cbH1 := by kernel_rfl
theorem cb_r1 : le (sgR cbH1) = 1042854690461855033549293643297295419211154182590953024946931292553013138148 := by kernel_rfl
theorem cb_fp : cv.mul 1042854690461855033549293643297295419211154182590953024946931292553013138148 bP = ⟨fe 31504235370280623203979679539904128444430040929016018108543993433498125859967, fe 7910916461503537195174013472796533390692371390526138762380987721455419750643⟩ := fast_at dE zK zK
theorem cb_fb : pb ⟨fe 31504235370280623203979679539904128444430040929016018108543993433498125859967, fe 7910916461503537195174013472796533390692371390526138762380987721455419750643⟩ = cbF := by kernel_rfl
theorem cb_f : sgF cbH1 = cbF := by rw [sgF, cb_r1, cb_fp, cb_fb]
theorem cb_h2 : Bz (cbF ++ (seK ++ cbT)) = cbH2 := by kernel_rfl
theorem cb_s1 : cbF ++ sgS seH cbH1 cbH2 = cbS := by kernel_rfl
theorem cb_s : sgF cbH1 ++ sgS seH cbH1 cbH2 = cbS := by rw [cb_f, cb_s1]
theorem cb_h2' : Bz (sgF cbH1 ++ (sgK seH ++ cbT)) = cbH2 := by rw [cb_f, se_k, cb_h2]
theorem cb_good : goodB seK cbT cbS = true := by
  have h := good_self seH cbH1 cbT cb_h2'
  rwa [cb_s, se_k] at h
theorem cb_n : sha256 cbBy = cbN := by kernel_rfl
def ccT : List UInt8 := [98, 108, 111, 99, 107, 96, 107, 246, 169, 182, 86, 212, 252, 106, 138, 137, 108, 60, 10, 195, 142, 100, 120, 65, 80, 61, 64, 193, 87, 241, 248, 221, 83, 126, 228, 255, 164, 2, 245, 56, 56, 94, 136, 118, 14, 12, 106, 47, 72, 229, 131, 0, 228, 9, 165, 106, 181, 17, 1, 42, 218, 115, 48, 50, 158, 110, 139, 100, 212, 101, 0, 0]
def ccH1 : List UInt8 := [142, 5, 57, 247, 165, 189, 239, 219, 100, 209, 68, 204, 233, 255, 175, 153, 170, 230, 62, 248, 195, 235, 81, 130, 129, 5, 190, 152, 154, 253, 247, 107, 200, 192, 28, 179, 197, 5, 11, 163, 28, 66, 130, 33, 163, 234, 139, 43, 189, 106, 176, 241, 102, 94, 32, 224, 243, 171, 186, 136, 141, 227, 67, 213]
def ccH2 : List UInt8 := [255, 41, 48, 1, 72, 2, 158, 48, 48, 11, 244, 35, 227, 176, 216, 97, 189, 190, 185, 100, 205, 14, 242, 104, 247, 24, 216, 61, 79, 101, 221, 182, 90, 124, 203, 51, 114, 20, 55, 230, 201, 93, 70, 16, 43, 39, 50, 140, 53, 70, 1, 71, 239, 142, 56, 157, 159, 17, 70, 53, 108, 158, 120, 147]
def ccF : List UInt8 := [33, 233, 228, 76, 114, 18, 211, 171, 214, 17, 235, 80, 53, 103, 34, 80, 15, 20, 0, 70, 233, 236, 182, 246, 117, 12, 240, 153, 87, 118, 173, 26]
def ccS : List UInt8 := [33, 233, 228, 76, 114, 18, 211, 171, 214, 17, 235, 80, 53, 103, 34, 80, 15, 20, 0, 70, 233, 236, 182, 246, 117, 12, 240, 153, 87, 118, 173, 26, 122, 12, 43, 32, 238, 16, 54, 16, 32, 19, 206, 83, 139, 255, 255, 233, 77, 78, 50, 219, 150, 51, 217, 91, 128, 101, 113, 73, 252, 76, 73, 5]
def ccBy : List UInt8 := [96, 107, 246, 169, 182, 86, 212, 252, 106, 138, 137, 108, 60, 10, 195, 142, 100, 120, 65, 80, 61, 64, 193, 87, 241, 248, 221, 83, 126, 228, 255, 164, 2, 245, 56, 56, 94, 136, 118, 14, 12, 106, 47, 72, 229, 131, 0, 228, 9, 165, 106, 181, 17, 1, 42, 218, 115, 48, 50, 158, 110, 139, 100, 212, 101, 0, 0, 33, 233, 228, 76, 114, 18, 211, 171, 214, 17, 235, 80, 53, 103, 34, 80, 15, 20, 0, 70, 233, 236, 182, 246, 117, 12, 240, 153, 87, 118, 173, 26, 122, 12, 43, 32, 238, 16, 54, 16, 32, 19, 206, 83, 139, 255, 255, 233, 77, 78, 50, 219, 150, 51, 217, 91, 128, 101, 113, 73, 252, 76, 73, 5]
def ccN : List UInt8 := [212, 62, 189, 158, 35, 18, 49, 93, 224, 51, 147, 160, 235, 224, 219, 57, 188, 215, 67, 150, 52, 134, 93, 210, 253, 141, 208, 11, 140, 224, 9, 192]
theorem cc_h1 : Bz (seH.drop 32 ++ ccT) = ccH1 := by kernel_rfl
theorem cc_r1 : le (sgR ccH1) = 4918219388157574454008950300951600336261496714867819213746146962254068804302 := by kernel_rfl
theorem cc_fp : cv.mul 4918219388157574454008950300951600336261496714867819213746146962254068804302 bP = ⟨fe 31473630399167731649095412638876055820990104693738438102576263511153593068624, fe 12066615373167398837812297369869085678792139161754506735642922152132469909793⟩ := fast_at dE zK zK
theorem cc_fb : pb ⟨fe 31473630399167731649095412638876055820990104693738438102576263511153593068624, fe 12066615373167398837812297369869085678792139161754506735642922152132469909793⟩ = ccF := by kernel_rfl
theorem cc_f : sgF ccH1 = ccF := by rw [sgF, cc_r1, cc_fp, cc_fb]
theorem cc_h2 : Bz (ccF ++ (seK ++ ccT)) = ccH2 := by kernel_rfl
theorem cc_s1 : ccF ++ sgS seH ccH1 ccH2 = ccS := by kernel_rfl
theorem cc_s : sgF ccH1 ++ sgS seH ccH1 ccH2 = ccS := by rw [cc_f, cc_s1]
theorem cc_h2' : Bz (sgF ccH1 ++ (sgK seH ++ ccT)) = ccH2 := by rw [cc_f, se_k, cc_h2]
theorem cc_good : goodB seK ccT ccS = true := by
  have h := good_self seH ccH1 ccT cc_h2'
  rwa [cc_s, se_k] at h
theorem cc_n : sha256 ccBy = ccN := by kernel_rfl
end Go.Proofs.YtfcbgdkpagcbbaaGreat
end

section
namespace Go.Proofs.YtfcbgdkpagcbbaaGreat
open Go Hw

open Ed

theorem seB_length : seB.length = 32 := rfl
theorem kit_seed1  : Meets Tryz.prog 57 [i64 1] [] (fun _ => True) (fun v out => v = agg (Aa seB) ∧ out = []) := by
 intro W hW
 refine Ac Tryz.func57 J 9 Tryz.ntmps57 J (G2 ?_)
 refine .alloc (cs := (Aa (List.replicate 32 0))) J Zr22 J ?_
 intro n2 hn2 hf2
 refine G5 ?_
 refine .conv J J J Y3.h Y5.h (show Value.int .u8 (IntKind.u8.wrap 1) = u8 1 from rfl) (G1 ?_)
 refine .shrN 1 8 J J J J J dE (.conv J J J Y3.h Y5.h (show Value.int .u8 (IntKind.u8.wrap ((1 / 2 ^ 8 : Nat) : Int)) = u8 0 from rfl) (.build (cs := Aa seB) J J J (fun w => by kernel_rfl) ?_))
 refine .sA J J J J zE Sz22 (by (simp [seB_length]; done)) Z0 sP zU ?_
 refine G2 ?_
 -- ret
 refine G2 ?_
 refine ⟨_, [], An J J Y22.h J Sz22 Z0 (by simp [seB_length]), sP, sP, ?_, rfl⟩
 rfl

def ca0 : DB := { DB.zero with seq := 0, prev := List.replicate 32 0 }
def caD : DB := bsg ca0 seK caS
theorem caD_ok : caD.ok := ⟨rfl, by rfl, by kernel_rfl, fun l hl => by cases hl⟩
theorem ca_txt0 : btxt { ca0 with w := seK } = caT := by kernel_rfl
theorem ca_txt : btxt caD = caT := by kernel_rfl
theorem ca_chk0 : (ca0).check = 0 := by kernel_rfl
theorem ca_chk : (caD).check = 0 := by kernel_rfl
theorem ca_g : dgood caD = 0 := by
  unfold dgood
  rw [if_pos ca_chk, ca_txt]
  exact if_pos ca_good
theorem ca_by : (caD).bytes = caBy := by kernel_rfl
theorem ca_nm : Bd caD = caN := by
  unfold Bd
  rw [if_pos ca_chk, ca_by, ca_n]
theorem ca_sign (B : Block) (hB : B.ok) : Meets Tryz.prog 56 [agg (Aa seB), agg B.cells] [] (fun W => BlockIs W B ca0) (BlkR 0 caD) := by
  have hT : btxt { ca0 with w := sgK seH } = caT := by rw [se_k]; exact ca_txt0
  have cS := r15_Sign B ca0 hB (Nat.zero_le _) (Nat.zero_le _) seB rfl seH caH1 caH2 ⟨se_h⟩ ⟨by rw [hT]; exact ca_h1⟩ ⟨by rw [hT]; exact ca_h2'⟩ ca_chk0
  rw [ca_s, se_k] at cS
  exact cS
def cb0 : DB := { DB.zero with seq := 1, prev := caN }
def cbD : DB := bsg cb0 seK cbS
theorem cbD_ok : cbD.ok := ⟨rfl, by rfl, by kernel_rfl, fun l hl => by cases hl⟩
theorem cb_txt0 : btxt { cb0 with w := seK } = cbT := by kernel_rfl
theorem cb_txt : btxt cbD = cbT := by kernel_rfl
theorem cb_chk0 : (cb0).check = 0 := by kernel_rfl
theorem cb_chk : (cbD).check = 0 := by kernel_rfl
theorem cb_g : dgood cbD = 0 := by
  unfold dgood
  rw [if_pos cb_chk, cb_txt]
  exact if_pos cb_good
theorem cb_by : (cbD).bytes = cbBy := by kernel_rfl
theorem cb_nm : Bd cbD = cbN := by
  unfold Bd
  rw [if_pos cb_chk, cb_by, cb_n]
theorem cb_sign (B : Block) (hB : B.ok) : Meets Tryz.prog 56 [agg (Aa seB), agg B.cells] [] (fun W => BlockIs W B cb0) (BlkR 0 cbD) := by
  have hT : btxt { cb0 with w := sgK seH } = cbT := by rw [se_k]; exact cb_txt0
  have cS := r15_Sign B cb0 hB (Nat.zero_le _) (Nat.zero_le _) seB rfl seH cbH1 cbH2 ⟨se_h⟩ ⟨by rw [hT]; exact cb_h1⟩ ⟨by rw [hT]; exact cb_h2'⟩ cb_chk0
  rw [cb_s, se_k] at cS
  exact cS
def cc0 : DB := { DB.zero with seq := 2, prev := cbN }
def ccD : DB := bsg cc0 seK ccS
theorem ccD_ok : ccD.ok := ⟨rfl, by rfl, by kernel_rfl, fun l hl => by cases hl⟩
theorem cc_txt0 : btxt { cc0 with w := seK } = ccT := by kernel_rfl
theorem cc_txt : btxt ccD = ccT := by kernel_rfl
theorem cc_chk0 : (cc0).check = 0 := by kernel_rfl
theorem cc_chk : (ccD).check = 0 := by kernel_rfl
theorem cc_g : dgood ccD = 0 := by
  unfold dgood
  rw [if_pos cc_chk, cc_txt]
  exact if_pos cc_good
theorem cc_by : (ccD).bytes = ccBy := by kernel_rfl
theorem cc_nm : Bd ccD = ccN := by
  unfold Bd
  rw [if_pos cc_chk, cc_by, cc_n]
theorem cc_sign (B : Block) (hB : B.ok) : Meets Tryz.prog 56 [agg (Aa seB), agg B.cells] [] (fun W => BlockIs W B cc0) (BlkR 0 ccD) := by
  have hT : btxt { cc0 with w := sgK seH } = ccT := by rw [se_k]; exact cc_txt0
  have cS := r15_Sign B cc0 hB (Nat.zero_le _) (Nat.zero_le _) seB rfl seH ccH1 ccH2 ⟨se_h⟩ ⟨by rw [hT]; exact cc_h1⟩ ⟨by rw [hT]; exact cc_h2'⟩ cc_chk0
  rw [cc_s, se_k] at cS
  exact cS

theorem law16_signed (n : Int) (seed : List UInt8) (h32 : seed.length = 32) (B : Block) (hB : B.ok) (D D1 : DB) (hD1 : D1.ok) (cSeed : Meets Tryz.prog 57 [i64 n] [] (fun _ => True) (fun v out => v = agg (Aa seed) ∧ out = [])) (cS : ∀ B : Block, B.ok → Meets Tryz.prog 56 [agg (Aa seed), agg B.cells] [] (fun W => BlockIs W B D) (BlkR 0 D1)) : Meets Tryz.prog 25 [i64 n, agg B.cells] [] (fun W => BlockIs W B D) (BlkV D1) := by
 intro W hW
 refine Ac Tryz.func25 J 15 Tryz.ntmps25 J (G3 ?_)
 intro n3 hn3 hf3
 refine .alloc (cs := Block.zero.cells) J Block.zr J ?_
 intro n4 hn4 hf4
 refine G3 ?_
 refine .draw [(0, 0), (1, 2), (3, 1), (3, 3), (0, 4), (0, 5), (0, 6), (2, 7), (4, 8), (0, 9)] Ap zK (G1 ?_)
 refine .lA J J J Y31.h J Sz31 Z1 (Block.length (by exact hB)) ?_
 refine .cV J J J J Body57 (cSeed) tV (.call J J J J Body56 (cS B hB) (BlkR.loose 0 D1 hD1) (fun w h => hW.ext h J) ?_)
 rintro v11 out11 ⟨B11, h11, rfl, ho11⟩
 refine G3 ?_
 refine .alloc (cs := Block.zero.cells) J Block.zr J ?_
 intro n5 hn5 hf5
 refine .sA J J J J (Block.isCell (by exact h11.ok)) Sz31 (Block.length (by exact h11.ok)) Z0 (Block.length (by exact Block.zero_ok)) zU ?_
 refine G5 ?_
 refine .lA J J J Y31.h J Sz31 Z0 (Block.length (by exact h11.ok)) ?_
 refine .sA J J J J (Block.isCell (by exact h11.ok)) Sz31 (Block.length (by exact h11.ok)) mR (Block.length (by exact Block.zero_ok)) uU ?_
 refine G2 ?_
 -- ret
 refine G2 ?_
 refine Az (out := (out11 ++ [])) (An J J Y31.h J Sz31 mR (by exact Block.length (by exact h11.ok))) (Af sG Ak) ?_
 exact ⟨B11, h11, rfl, by simpa using ho11⟩

def PD.new : PD := ⟨[], [], [], [], [], [], []⟩
def chX1 : PD := { PD.new with orp := [(ccN, ccD)] }
def chX2 : PD := chX1.adm caN caD
def chX3 : PD := ((chX2.adm cbN cbD).drop1 ccN).adm ccN ccD
theorem ch_add1 : PD.new.add ccD = (chX1, [], 0) := by
  have h := add_keep (X := PD.new) cc_g zK zK dE
  rw [cc_nm] at h
  exact h
theorem ch_add2 : chX1.add caD = (chX2, [caN], 0) := by
  have h := add_fits (X := chX1) ca_g (by rw [ca_nm]; kernel_rfl) zK
  rw [ca_nm] at h
  have e : PD.settle (chX1.adm caN caD).orp.length (chX1.adm caN caD) = (chX2, []) := by kernel_rfl
  rw [h, e]
theorem ch_add3 : chX2.add cbD = (chX3, [cbN, ccN], 0) := by
  have h := add_fits (X := chX2) cb_g (by rw [cb_nm]; kernel_rfl) zK
  rw [cb_nm] at h
  have e : PD.settle (chX2.adm cbN cbD).orp.length (chX2.adm cbN cbD) = (chX3, [ccN]) := by kernel_rfl
  rw [h, e]
theorem ch_orp : chX2.orphans = [ccN] := by kernel_rfl
theorem ch_mis : chX2.missing = [cbN] := by kernel_rfl
theorem chain_facts : ∃ (Da Db Dc : DB) (na nb nc : List UInt8) (X1 X2 X3 : PD), (Da.ok ∧ Db.ok ∧ Dc.ok) ∧ (na.length = 32 ∧ nb.length = 32 ∧ nc.length = 32) ∧ (Bd Da = na ∧ Bd Db = nb ∧ Bd Dc = nc)
    ∧ (∀ B : Block, B.ok → Meets Tryz.prog 56 [agg (Aa seB), agg B.cells] [] (fun W => BlockIs W B DB.zero) (BlkR 0 Da))
    ∧ (∀ B : Block, B.ok → Meets Tryz.prog 56 [agg (Aa seB), agg B.cells] [] (fun W => BlockIs W B { DB.zero with seq := 1, prev := na }) (BlkR 0 Db))
    ∧ (∀ B : Block, B.ok → Meets Tryz.prog 56 [agg (Aa seB), agg B.cells] [] (fun W => BlockIs W B { DB.zero with seq := 2, prev := nb }) (BlkR 0 Dc))
    ∧ PD.new.add Dc = (X1, [], 0) ∧ X1.add Da = (X2, [na], 0) ∧ X2.orphans = [nc] ∧ X2.missing = [nb] ∧ X2.add Db = (X3, [nb, nc], 0) :=
  ⟨caD, cbD, ccD, caN, cbN, ccN, chX1, chX2, chX3, ⟨caD_ok, cbD_ok, ccD_ok⟩, ⟨rfl, rfl, rfl⟩, ⟨ca_nm, cb_nm, cc_nm⟩, ca_sign, cb_sign, cc_sign, ch_add1, ch_add2, ch_orp, ch_mis, ch_add3⟩

end Go.Proofs.YtfcbgdkpagcbbaaGreat
end

section
namespace Go.Proofs.YtfcbgdkpagcbbaaGreat
open Go Hw

section
variable {κ ν : Type} [DecidableEq κ]
theorem mget_cons (k : κ) (v : ν) (fs : List (κ × ν)) (n : κ) : Au ((k, v) :: fs) n = if k = n then some v else Au fs n := by
  unfold Au
  rw [List.find?_cons]
  by_cases h : k = n <;> simp [h]
theorem mget_no {fs : List (κ × ν)} {k : κ} (h : Au fs k = none) : ∀ p ∈ fs, p.1 ≠ k := fun p hp e => by
  obtain ⟨v, hv⟩ := mget_of_key (fs := fs) (List.mem_map.2 ⟨p, hp, e⟩)
  rw [h] at hv; cases hv
theorem mput_app {fs : List (κ × ν)} {k : κ} (h : Au fs k = none) (v : ν) : Bh fs k v = fs ++ [(k, v)] := by
  unfold Bh
  rw [midx_none (mget_no h)]
theorem mget_app (fs : List (κ × ν)) (k : κ) (v : ν) (n : κ) : Au (fs ++ [(k, v)]) n = if (Au fs n).isSome then Au fs n else if k = n then some v else none := by
  induction fs with
  | nil => rw [List.nil_append, mget_cons]; rfl
  | cons p fs ih =>
    obtain ⟨a, b⟩ := p
    rw [List.cons_append, mget_cons, mget_cons, ih]
    by_cases h : a = n <;> simp [h]
theorem mget_new {fs : List (κ × ν)} {k : κ} (h : Au fs k = none) (v : ν) : Au (Bh fs k v) k = some v := by rw [mput_app h, mget_app, h]; simp
theorem mget_old {fs : List (κ × ν)} {k : κ} (h : Au fs k = none) (v : ν) {n : κ} (hn : k ≠ n) : Au (Bh fs k v) n = Au fs n := by
  rw [mput_app h, mget_app]
  cases Au fs n <;> simp [hn]
theorem mdel_head (k : κ) (v : ν) (fs : List (κ × ν)) : mdel ((k, v) :: fs) k = fs := by
  have h : midx ((k, v) :: fs) k = some 0 := by unfold midx; rw [List.findIdx?_cons]; simp
  unfold mdel
  rw [h]; rfl
end
theorem first_no {X : PD} (ho : ∀ m ∈ X.orp.map (·.1), Ch X.P ((Au X.orp m).getD DB.zero) = 0) : X.first = none := by
  unfold PD.first
  rw [List.find?_eq_none]
  intro m hm
  rw [ho m ((isort_perm _).mem_iff.1 hm)]; simp
section
theorem ofNat_ne {i : Nat} (h : i < 66) : UInt64.ofNat (i + 1) ≠ 0 := fun e => by
  have := congrArg UInt64.toNat e
  simp at this
  omega
end
end Go.Proofs.YtfcbgdkpagcbbaaGreat
end

section
namespace Go.Proofs.YtfcbgdkpagcbbaaGreat
open Go Hw

theorem cons_of {α : Type} {l : List α} {n : Nat} (h : l.length = n + 1) : ∃ a t, l = a :: t ∧ t.length = n := by
  cases l with
  | nil => cases h
  | cons a t => exact ⟨a, t, rfl, by simpa using h⟩
theorem build_sp (s : UInt64) (prev : List UInt8) (h : prev.length = 32) (w : World) : (Instr.build 31 #[(1, u64 s), (2, agg (Aa prev))]).run Tryz.prog w = .ok (agg ({ Block.zero with fSeq := s, fPrev := prev } : Block).cells) w := by
  iterate 32 (obtain ⟨a, l, e, h2⟩ := cons_of h; clear h; subst e; have h := h2; clear h2)
  obtain rfl := List.eq_nil_of_length_eq_zero h
  (refine Eq.trans ?_ rfl; kernel_rfl)
def tri (a b c : Block) : List Value := a.cells ++ (b.cells ++ (c.cells ++ []))
theorem tri_len {a b c : Block} (ha : a.ok) (hb : b.ok) (hc : c.ok) : (tri a b c).length = 393 := by simp [tri, Block.length ha, Block.length hb, Block.length hc]
theorem tri_cell {a b c : Block} (ha : a.ok) (hb : b.ok) (hc : c.ok) : ∀ u ∈ tri a b c, isCell u = true := fun u hu => by
  simp only [tri, List.append_nil, List.mem_append] at hu
  rcases hu with h | h | h
  · exact Block.isCell ha u h
  · exact Block.isCell hb u h
  · exact Block.isCell hc u h
theorem tri_0 {a b c : Block} (ha : a.ok) : ((tri a b c).drop 0).take 131 = a.cells := by
  rw [tri, List.drop_zero, List.take_append_of_le_length (by rw [Block.length ha]; omega), List.take_of_length_le (by rw [Block.length ha]; omega)]
theorem tri_1 {a b c : Block} (ha : a.ok) (hb : b.ok) : ((tri a b c).drop 131).take 131 = b.cells := by
  have h1 := Block.length ha
  rw [tri, List.drop_append_of_le_length oM, List.drop_of_length_le oM, List.nil_append, List.take_append_of_le_length (by rw [Block.length hb]; omega), List.take_of_length_le (by rw [Block.length hb]; omega)]
theorem tri_2 {a b c : Block} (ha : a.ok) (hb : b.ok) (hc : c.ok) : ((tri a b c).drop 262).take 131 = c.cells := by
  have h1 := Block.length ha
  have h2 := Block.length hb
  have e : (tri a b c) = (a.cells ++ b.cells) ++ (c.cells ++ []) := by rw [tri, List.append_assoc]
  rw [e, List.drop_append_of_le_length (by rw [List.length_append]; omega), List.drop_of_length_le (by rw [List.length_append]; omega), List.nil_append, List.append_nil, List.take_of_length_le (by rw [Block.length hc]; omega)]
def ChainR (Da Db Dc : DB) (v : Value) (out : List Blk) : Prop := ∃ Ba Bb Bc : Block, SameB Ba Da ∧ SameB Bb Db ∧ SameB Bc Dc ∧ v = agg (tri Ba Bb Bc) ∧ ∀ W2, Lies out W2 → BlockIs W2 Ba Da ∧ BlockIs W2 Bb Db ∧ BlockIs W2 Bc Dc
theorem sp_is (W : World) (s : UInt64) {prev : List UInt8} (h : prev.length = 32) : BlockIs W ({ Block.zero with fSeq := s, fPrev := prev } : Block) { DB.zero with seq := s, prev := prev } := ⟨⟨rfl, h, rfl⟩, rfl, rfl, rfl, (zero_is W).ls, (zero_is W).ds, rfl⟩
theorem sp_ok (s : UInt64) {prev : List UInt8} (h : prev.length = 32) : ({ Block.zero with fSeq := s, fPrev := prev } : Block).ok := ⟨rfl, h, rfl⟩
theorem new_ok (bE bH bO bP bW : Nat) : (⟨Sl.nil, [], [], [], [], [], [], [], [], bE, bH, bO, bP, bW⟩ : DD).ok := ⟨Acc.none, fun l h => (by cases h), Nat.zero_le _, Nat.zero_le _, fun p h => (by cases h), Nat.zero_le _, fun p h => (by cases h), Nat.zero_le _, fun p h => (by cases h), fun p h => (by cases h), fun p h => (by cases h)⟩
theorem dag_new2 : Meets Tryz.prog 23 [] [] (fun _ => True) (fun v out => ∃ (p : Nat) (x : DD), v = ptr p 0 ∧ out = x.blks p ∧ x.ok ∧ x.pl = PD.new ∧ x.names.length + x.orp.length = 0) :=
  dag_new.imp (fun w h => h) fun v out ⟨p, bE, bH, bO, bP, bW, h1, h2⟩ => ⟨p, _, h1, h2, new_ok .., rfl, rfl⟩
theorem dig_same (p q : Option Addr) (n c1 c2 : Nat) (xs : List (List UInt8)) (hx : ∀ l ∈ xs, l.length = 32) (h1 : xs.length = n) (hn : n ≤ 1000000) : Meets Tryz.prog 29 [.slice p n c1, .slice q n c2] [] (fun W => SeesP W p (A1 xs) ∧ SeesP W q (A1 xs)) (fun v out => v = .bool true ∧ out = []) :=
  (digests_eq p q n c1 c2 xs xs hx hx h1 h1 hn).imp (fun w h => h) fun v out h => by rwa [decide_eq_true rfl] at h
theorem one_32 {n : List UInt8} (h : n.length = 32) : ∀ l ∈ [n], l.length = 32 := fun l hl => by rw [List.mem_singleton.1 hl]; exact h
theorem two_32 {n m : List UInt8} (h : n.length = 32) (h2 : m.length = 32) : ∀ l ∈ [n, m], l.length = 32 := fun l hl => by rcases List.mem_cons.1 hl with rfl | hl; exact h; exact one_32 h2 l hl

theorem law16_chain (Da Db Dc : DB) (na nb : List UInt8) (hDa : Da.ok) (hDb : Db.ok) (hDc : Dc.ok) (lna : na.length = 32) (lnb : nb.length = 32) (hna : Bd Da = na) (hnb : Bd Db = nb) (cSa : ∀ B : Block, B.ok → Meets Tryz.prog 56 [agg (Aa seB), agg B.cells] [] (fun W => BlockIs W B DB.zero) (BlkR 0 Da)) (cSb : ∀ B : Block, B.ok → Meets Tryz.prog 56 [agg (Aa seB), agg B.cells] [] (fun W => BlockIs W B { DB.zero with seq := 1, prev := na }) (BlkR 0 Db)) (cSc : ∀ B : Block, B.ok → Meets Tryz.prog 56 [agg (Aa seB), agg B.cells] [] (fun W => BlockIs W B { DB.zero with seq := 2, prev := nb }) (BlkR 0 Dc)) : Meets Tryz.prog 22 [] [] (fun _ => True) (ChainR Da Db Dc) := by
 intro W hW
 refine Ac Tryz.func22 J 16 Tryz.ntmps22 J (G2 ?_)
 refine .alloc (cs := (List.replicate 3 ((Aa (List.replicate 32 0)) ++ [u64 0] ++ (Aa (List.replicate 32 0)) ++ [.slice none 0 0] ++ [.slice none 0 0] ++ (Aa (List.replicate 64 0)))).flatten) J Zr50 J ?_
 intro n0 hn0 hf0
 refine G4 ?_
 refine .build (cs := Block.zero.cells) J J J (fun w => by kernel_rfl) ?_
 refine .call4 J J J J J Body25 (law16_signed 1 seB J Block.zero Block.zero_ok DB.zero Da hDa kit_seed1 cSa) (fun w h => zero_is w) ?_
 rintro v4 out4 ⟨Ba, ha, rfl, hoa⟩
 have cNa := r15_Name Ba Da ha.ok
 rw [hna] at cNa
 refine .alloc (cs := Block.zero.cells) J Block.zr J ?_
 intro n1 hn1 hf1
 refine .sA J J J J (Block.isCell (by exact ha.ok)) Sz31 (Block.length (by exact ha.ok)) Z0 (Block.length (by exact Block.zero_ok)) zU ?_
 refine G4 ?_
 refine .lA J J J Y31.h J Sz31 Z0 (Block.length (by exact ha.ok)) ?_
 refine .cV J J J J Body26 (cNa) (fun w h => hoa w (Lies.of h (by repeat (first | exact Bf | refine Bp ?_)))) ?_
 refine .build (cs := ({ Block.zero with fSeq := 1, fPrev := na } : Block).cells) J J J (fun w => build_sp 1 na lna w) (.call4 J J J J J Body25 (law16_signed 1 seB J _ (sp_ok 1 lna) _ Db hDb kit_seed1 cSb) (fun w h => sp_is w 1 lna) ?_)
 rintro v8 out8 ⟨Bb, hb, rfl, hob⟩
 have cNb := r15_Name Bb Db hb.ok
 rw [hnb] at cNb
 refine .alloc (cs := Block.zero.cells) J Block.zr J ?_
 intro n2 hn2 hf2
 refine .sA J J J J (Block.isCell (by exact hb.ok)) Sz31 (Block.length (by exact hb.ok)) Z0 (Block.length (by exact Block.zero_ok)) zU ?_
 refine G3 ?_
 refine .draw [(1, 0), (1, 1), (1, 2), (3, 3), (0, 4), (3, 5), (0, 6), (4, 7)] Ap zK (.lA J J J Y31.h J Sz31 mR (Block.length (by exact ha.ok)) ?_)
 refine .lA J J J Y31.h J Sz31 Z0 (Block.length (by exact hb.ok)) ?_
 refine .lA J J J Y31.h J Sz31 Z0 (Block.length (by exact hb.ok)) ?_
 refine .cV J J J J Body26 (cNb) (fun w h => hob w (Lies.of h (by repeat (first | exact Bf | refine Bp ?_)))) ?_
 refine .build (cs := ({ Block.zero with fSeq := 2, fPrev := nb } : Block).cells) J J J (fun w => build_sp 2 nb lnb w) (.call J J J J Body25 (law16_signed 1 seB J _ (sp_ok 2 lnb) _ Dc hDc kit_seed1 cSc) (BlkV.loose Dc hDc) (fun w h => sp_is w 2 lnb) ?_)
 rintro v14 out14 ⟨Bc, hc, rfl, hoc⟩
 refine .build (cs := tri Ba Bb Bc) J J J (fun w => run_buildA [agg Ba.cells, agg Bb.cells, agg Bc.cells] Zr50 Y50 Sz31 (fun v hv => by simp only [List.mem_cons, List.not_mem_nil, or_false] at hv; rcases hv with rfl | rfl | rfl <;> simp [Value.cells, Block.length ha.ok, Block.length hb.ok, Block.length hc.ok]) zK w) ?_
 refine .sA J J J J (tri_cell ha.ok hb.ok hc.ok) Sz50 (tri_len ha.ok hb.ok hc.ok) mR zK uU ?_
 refine G2 ?_
 -- ret
 refine G2 ?_
 refine Az (out := (out4 ++ (out8 ++ (out14 ++ [])))) (An J J Y50 J Sz50 mR (tri_len ha.ok hb.ok hc.ok)) (Af sG (Af sG (Af sG Ak))) ?_
 exact ⟨Ba, Bb, Bc, ha, hb, hc, rfl, fun W2 hl => ⟨hoa W2 (hl.sub (by repeat (exact Bf))), hob W2 (hl.sub (by repeat (first | exact Bf | refine in_seg ?_))), hoc W2 (hl.sub (by repeat (first | exact Bf | refine in_seg ?_)))⟩⟩

theorem law16_lives  : Meets Tryz.prog 8 [] [] (fun _ => True) (fun v out => v = .bool true ∧ out = []) := by
 intro W hW
 obtain ⟨Da, Db, Dc, na, nb, nc, X1, X2, X3, ⟨hDa, hDb, hDc⟩, ⟨lna, lnb, lnc⟩, ⟨hna, hnb, hnc⟩, cSa, cSb, cSc, hadd1, hadd2, horp, hmis, hadd3⟩ := chain_facts
 refine Ac Tryz.func8 J 92 Tryz.ntmps8 J (G7 ?_)
 refine .call4 J J J J J Body22 (law16_chain Da Db Dc na nb hDa hDb hDc lna lnb hna hnb cSa cSb cSc) tV ?_
 rintro v14 out14 ⟨Ba, Bb, Bc, ha, hb, hc, rfl, hch⟩
 have cNa := r15_Name Ba Da ha.ok
 have cNb := r15_Name Bb Db hb.ok
 have cNc := r15_Name Bc Dc hc.ok
 rw [hna] at cNa
 rw [hnb] at cNb
 rw [hnc] at cNc
 refine .alloc (cs := (List.replicate 3 ((Aa (List.replicate 32 0)) ++ [u64 0] ++ (Aa (List.replicate 32 0)) ++ [.slice none 0 0] ++ [.slice none 0 0] ++ (Aa (List.replicate 64 0)))).flatten) J Zr50 J ?_
 intro n1 hn1 hf1
 refine .sA J J J J (tri_cell ha.ok hb.ok hc.ok) Sz50 (tri_len ha.ok hb.ok hc.ok) Z0 zK zU ?_
 refine G4 ?_
 refine .call4 J J J J J Body23 (dag_new2) tV ?_
 rintro v15 out15 ⟨p, x0, rfl, rfl, hx0, hplx0, hnx0⟩
 refine G7 ?_
 refine .eqNilP J J J J Y35.h (G2 ?_)
 refine .cond_f J J (G5 ?_)
 refine .idxArr 131 J J J J Y50 Sz31 2 J dE (.lN (Bc.cells) J J J Y31.h J Sz31 mR (tri_2 ha.ok hb.ok hc.ok) (Block.length hc.ok) ?_)
 refine .callL (L := (x0.blks p ++ out14)) J J J J J Body10 (dag_add x0 hx0 p Bc Dc out14 ⟨hc, fun W hW => (hch W hW).2.2⟩ oM) (sg_two sG sG) (B6 J) (fun w h => Lent.of h (sg_two sG sG)) ?_
 rintro v22 out22 ⟨x1, ⟨p22, n22, c22⟩, bl22, rfl, rfl, hx1, hac22, h3222, hplx1, hnx1⟩
 rw [hplx0, hadd1] at hac22 h3222 hplx1 ⊢
 simp only [List.append_assoc] at hac22 h3222 hplx1 ⊢
 obtain rfl : n22 = 0 := hac22.num
 refine G10 ?_
 refine .idxArr 131 J J J J Y50 Sz31 0 J dE (.lN (Ba.cells) J J J Y31.h J Sz31 mR (tri_0 ha.ok) (Block.length ha.ok) ?_)
 refine .callL (L := (x1.blks p ++ out14)) J J J J J Body10 (dag_add x1 hx1 p Ba Da out14 ⟨ha, fun W hW => (hch W hW).1⟩ oM) (sg_two sG (by repeat (first | exact Cm | apply sg_seg))) (B6 J) (fun w h => Lent.of h (sg_two sG (by repeat (first | exact Cm | apply sg_seg)))) ?_
 rintro v29 out29 ⟨x2, ⟨p29, n29, c29⟩, bl29, rfl, rfl, hx2, hac29, h3229, hplx2, hnx2⟩
 rw [hplx1, hadd2] at hac29 h3229 hplx2 ⊢
 simp only [List.append_assoc] at hac29 h3229 hplx2 ⊢
 obtain rfl : n29 = 1 := hac29.num
 refine G10 ?_
 refine .call4 J J J J J Body16 (dag_orphans x2 hx2 p) (fun w h => Lies.of h (by repeat (exact Bf))) ?_
 rintro v33 out33 ⟨⟨p33, n33, c33⟩, rfl, hac33⟩
 rw [hplx2, horp] at hac33
 obtain rfl : n33 = 1 := hac33.num
 refine G1 ?_
 refine .call4 J J J J J Body17 (dag_missing x2 hx2 p) (fun w h => Lies.of h (by repeat (first | exact Bf | refine in_seg ?_))) ?_
 rintro v35 out35 ⟨⟨p35, n35, c35⟩, rfl, hac35⟩
 rw [hplx2, hmis] at hac35
 obtain rfl : n35 = 1 := hac35.num
 refine G7 ?_
 refine .idxArr 131 J J J J Y50 Sz31 1 J dE (.lN (Bb.cells) J J J Y31.h J Sz31 mR (tri_1 ha.ok hb.ok) (Block.length hb.ok) ?_)
 refine .callL (L := (x2.blks p ++ out14)) J J J J J Body10 (dag_add x2 hx2 p Bb Db out14 ⟨hb, fun W hW => (hch W hW).2.1⟩ oM) (sg_two (by repeat (first | exact Cm | apply sg_seg)) (by repeat (first | exact Cm | apply sg_seg))) (B6 J) (fun w h => Lent.of h (sg_two (by repeat (first | exact Cm | apply sg_seg)) (by repeat (first | exact Cm | apply sg_seg)))) ?_
 rintro v40 out40 ⟨x3, ⟨p40, n40, c40⟩, bl40, rfl, rfl, hx3, hac40, h3240, hplx3, hnx3⟩
 rw [hplx2, hadd3] at hac40 h3240 hplx3 ⊢
 simp only [List.append_assoc] at hac40 h3240 hplx3 ⊢
 obtain rfl : n40 = 2 := hac40.num
 refine G8 ?_
 refine .draw [(0, 0), (1, 1), (0, 3), (1, 4), (0, 6), (1, 7), (3, 2), (3, 5), (3, 8), (2, 9), (2, 10), (2, 11), (4, 12), (4, 13), (4, 14)] Ap zK (.idxArr 131 J J J J Y50 Sz31 0 J dE (.lN (Ba.cells) J J J Y31.h J Sz31 mR (tri_0 ha.ok) (Block.length ha.ok) ?_))
 refine .idxArr 131 J J J J Y50 Sz31 1 J dE (.lN (Bb.cells) J J J Y31.h J Sz31 mR (tri_1 ha.ok hb.ok) (Block.length hb.ok) ?_)
 refine .idxArr 131 J J J J Y50 Sz31 2 J dE (.lN (Bc.cells) J J J Y31.h J Sz31 mR (tri_2 ha.ok hb.ok hc.ok) (Block.length hc.ok) ?_)
 refine .cV J J J J Body26 (cNa) (fun w h => (hch w (Lies.of h (by repeat (first | exact Bf | refine Bp ?_ | refine in_seg ?_)))).1) ?_
 refine .cV J J J J Body26 (cNb) (fun w h => (hch w (Lies.of h (by repeat (first | exact Bf | refine Bp ?_ | refine in_seg ?_)))).2.1) ?_
 refine .cV J J J J Body26 (cNc) (fun w h => (hch w (Lies.of h (by repeat (first | exact Bf | refine Bp ?_ | refine in_seg ?_)))).2.2) ?_
 refine .alloc (cs := (Aa (List.replicate 32 0))) J Zr25 J ?_
 intro n11 hn11 hf11
 refine .alloc (cs := (Aa (List.replicate 32 0))) J Zr25 J ?_
 intro n12 hn12 hf12
 refine .alloc (cs := (Aa (List.replicate 32 0))) J Zr25 J ?_
 intro n13 hn13 hf13
 refine .sA J J J J zE Sz25 (by (simp [lna]; done)) Z2 sP (by exact upd2) ?_
 refine .sA J J J J zE Sz25 (by (simp [lnb]; done)) Z1 sP zV ?_
 refine .sA J J J J zE Sz25 (by (simp [lnc]; done)) Z0 sP zU ?_
 refine G5 ?_
 refine .eqi J J J J (decide_eq_true (rfl)) (G3 ?_)
 refine .eqi J J J J (decide_eq_true (rfl)) (G3 ?_)
 refine .eqi J J J J (decide_eq_true (rfl)) (G3 ?_)
 refine .lA J J J Y25.h J Sz25 Z2 (by (simp [lna]; done)) ?_
 refine .mkRow (z := agg (Aa (List.replicate 32 0))) [agg (Aa na)] (A1 [na]) J J J Y26.h Sz25 Zr25 J J (by intro v hv; simp only [List.mem_cons, List.not_mem_nil, or_false] at hv; rcases hv with rfl <;> simp [Value.cells, Aa, lna]) dE (by simp [Value.cells, agg, A1]) ?_
 intro q66
 refine .cV J J J J Body29 (dig_same p29 _ 1 c29 1 [na] (one_32 lna) J dE) (fun w h => ⟨hac29.see (Lies.of h (by repeat (first | exact Bf | refine Bp ?_ | refine in_seg ?_))), SeesP.of (Ar h Z0)⟩) ?_
 refine G3 ?_
 refine .lA J J J Y25.h J Sz25 Z1 (by (simp [lnc]; done)) ?_
 refine .mkRow (z := agg (Aa (List.replicate 32 0))) [agg (Aa nc)] (A1 [nc]) J J J Y26.h Sz25 Zr25 J J (by intro v hv; simp only [List.mem_cons, List.not_mem_nil, or_false] at hv; rcases hv with rfl <;> simp [Value.cells, Aa, lnc]) dE (by simp [Value.cells, agg, A1]) ?_
 intro q72
 refine .cV J J J J Body29 (dig_same p33 _ 1 c33 1 [nc] (one_32 lnc) J dE) (fun w h => ⟨hac33.see (Lies.of h (by repeat (first | exact Bf | refine Bp ?_ | refine in_seg ?_))), SeesP.of (Ar h Z0)⟩) ?_
 refine G3 ?_
 refine .lA J J J Y25.h J Sz25 Z3 (by (simp [lnb]; done)) ?_
 refine .mkRow (z := agg (Aa (List.replicate 32 0))) [agg (Aa nb)] (A1 [nb]) J J J Y26.h Sz25 Zr25 J J (by intro v hv; simp only [List.mem_cons, List.not_mem_nil, or_false] at hv; rcases hv with rfl <;> simp [Value.cells, Aa, lnb]) dE (by simp [Value.cells, agg, A1]) ?_
 intro q78
 refine .cV J J J J Body29 (dig_same p35 _ 1 c35 1 [nb] (one_32 lnb) J dE) (fun w h => ⟨hac35.see (Lies.of h (by repeat (first | exact Bf | refine Bp ?_ | refine in_seg ?_))), SeesP.of (Ar h Z0)⟩) ?_
 refine G3 ?_
 refine .eqi J J J J (decide_eq_true (rfl)) (G3 ?_)
 refine .lA J J J Y25.h J Sz25 Z4 (by (simp [lnb]; done)) ?_
 refine .lA J J J Y25.h J Sz25 Z3 (by (simp [lnc]; done)) ?_
 refine .mkRow (z := agg (Aa (List.replicate 32 0))) [agg (Aa nb), agg (Aa nc)] (A1 [nb, nc]) J J J Y26.h Sz25 Zr25 J J (by intro v hv; simp only [List.mem_cons, List.not_mem_nil, or_false] at hv; rcases hv with rfl | rfl <;> simp [Value.cells, Aa, lnb, lnc]) dE (by simp [Value.cells, agg, A1]) ?_
 intro q89
 refine .cV J J J J Body29 (dig_same p40 _ 2 c40 2 [nb, nc] (two_32 lnb lnc) J dE) (fun w h => ⟨hac40.see (Lies.of h (by repeat (first | exact Bf | refine Bp ?_ | refine in_seg ?_))), SeesP.of (Ar h Z0)⟩) ?_
 refine G4 ?_
 -- ret
 refine G2 ?_
 refine Az (out := []) (Al J J) Ak ?_
 exact ⟨rfl, rfl⟩

end Go.Proofs.YtfcbgdkpagcbbaaGreat
end

section
namespace Go.Proofs.YtfcbgdkpagcbbaaGreat
open Go Hw Ed
theorem cons_of8 {α : Type} {l : List α} {n : Nat} (h : l.length = n + 1) : ∃ a t, l = a :: t ∧ t.length = n := by
  cases l with
  | nil => cases h
  | cons a t => exact ⟨a, t, rfl, by simpa using h⟩
def forceA {α : Type} (s : Nat) (f : Nat → α) : α := Nat.casesOn (motive := fun _ => α) s (f 0) (fun m => f (m + 1))
theorem forceA_eq {α : Type} (s : Nat) (f : Nat → α) : forceA s f = f s := by cases s <;> rfl
def aN (a b : Nat) : Nat := Nat.mod (Nat.add a b) 18446744073709551616
def shN (x s : Nat) : Nat := Nat.mod (Nat.mul x (Nat.pow 2 s)) 18446744073709551616
def rolN (x s : Nat) : Nat := Nat.lor (shN x s) (Nat.div x (Nat.pow 2 (Nat.sub 64 s)))
def o8N (x : Nat) (b : UInt8) : Nat := Nat.lor (shN x 8) b.toNat
def sg0N (x : Nat) : Nat := Nat.xor (Nat.xor (rolN x 63) (rolN x 56)) (Nat.div x (Nat.pow 2 7))
def sg1N (x : Nat) : Nat := Nat.xor (Nat.xor (rolN x 45) (rolN x 3)) (Nat.div x (Nat.pow 2 6))
def t1N (e f g h k w : Nat) : Nat := aN (aN (aN (aN h (Nat.xor (Nat.xor (rolN e 50) (rolN e 46)) (rolN e 23))) (Nat.xor (Nat.land e f) (Nat.land (Nat.xor 18446744073709551615 e) g))) k) w
def t2N (a b c : Nat) : Nat := aN (Nat.xor (Nat.xor (rolN a 36) (rolN a 30)) (rolN a 25)) (Nat.xor (Nat.xor (Nat.land a b) (Nat.land a c)) (Nat.land b c))
def wgo : List UInt8 → List Nat → List Nat
  | a :: b :: c :: d :: e :: f :: g :: h :: t, r => forceA (o8N (o8N (o8N (o8N (o8N (o8N (o8N (o8N 0 a) b) c) d) e) f) g) h) fun v => wgo t (v :: r)
  | _, r => r
def nxN (r : List Nat) : Nat := aN (aN (aN (r.getD 15 0) (sg0N (r.getD 14 0))) (r.getD 6 0)) (sg1N (r.getD 1 0))
def sgo : Nat → List Nat → List Nat
  | 0, r => r
  | n + 1, r => forceA (nxN r) fun v => sgo n (v :: r)
def rgo : List Nat → List Nat → Nat → Nat → Nat → Nat → Nat → Nat → Nat → Nat → List Nat
  | k :: ks, w :: ws, a, b, c, d, e, f, g, h => forceA (t1N e f g h k w) fun t => forceA (aN t (t2N a b c)) fun a2 => forceA (aN d t) fun e2 => rgo ks ws a2 a b c e2 e f g
  | _, _, a, b, c, d, e, f, g, h => [a, b, c, d, e, f, g, h]
def adN : List Nat → List Nat → List Nat
  | x :: xs, y :: ys => forceA (aN x y) fun z => z :: adN xs ys
  | _, _ => []
def rgoL (ks ws : List Nat) : List Nat → List Nat
  | [a, b, c, d, e, f, g, h] => rgo ks ws a b c d e f g h
  | _ => []
def pieceN (ks st : List Nat) (p : List UInt8) : List Nat := adN st (rgoL ks (sgo 64 (wgo p [])).reverse st)
def runN (ks st : List Nat) (bs : List UInt8) : Nat → List Nat
  | 0 => st
  | i + 1 => pieceN ks (runN ks st bs i) ((bs.drop (128 * i)).take 128)
def padT (n : Nat) : List UInt8 := 128 :: (List.replicate (padZ n) 0 ++ (beUp 0 8 ++ beUp (UInt64.ofNat (8 * n)) 8))
def allN (ks st : List Nat) (l : List UInt8) : List Nat := forceA l.length fun n => runN ks st (l ++ padT n) ((n + 17 + padZ n) / 128)
theorem padT_eq (l : List UInt8) : padB l = l ++ padT l.length := by simp [padB, padT]
theorem sh_hom (x : UInt64) (s : Nat) : (Ay x s).toNat = shN x.toNat s := by rw [Ay, UInt64.toNat_ofNat']; rfl
theorem sr_hom (x : UInt64) (s : Nat) : (Aq x s).toNat = Nat.div x.toNat (Nat.pow 2 s) := by
  have h : x.toNat / 2 ^ s < 18446744073709551616 := Nat.lt_of_le_of_lt (Nat.div_le_self _ _) x.toNat_lt
  rw [Aq, UInt64.toNat_ofNat']
  exact Nat.mod_eq_of_lt h
theorem add_hom (x y : UInt64) : (x + y).toNat = aN x.toNat y.toNat := UInt64.toNat_add x y
theorem or_hom (x y : UInt64) : (x ||| y).toNat = Nat.lor x.toNat y.toNat := UInt64.toNat_or x y
theorem xor_hom (x y : UInt64) : (x ^^^ y).toNat = Nat.xor x.toNat y.toNat := UInt64.toNat_xor x y
theorem and_hom (x y : UInt64) : (x &&& y).toNat = Nat.land x.toNat y.toNat := UInt64.toNat_and x y
theorem rol_hom (x : UInt64) (s : Nat) : (rolW x s).toNat = rolN x.toNat s := by rw [rolW, or_hom, sh_hom, sr_hom]; rfl
theorem sg0_hom (x : UInt64) : (sig0 x).toNat = sg0N x.toNat := by simp only [sig0, xor_hom, rol_hom, sr_hom]; rfl
theorem sg1_hom (x : UInt64) : (sig1 x).toNat = sg1N x.toNat := by simp only [sig1, xor_hom, rol_hom, sr_hom]; rfl
theorem t1_hom (s : W8) (k w : UInt64) : (rndT1 s k w).toNat = t1N s.e.toNat s.f.toNat s.g.toNat s.h.toNat k.toNat w.toNat := by
  simp only [rndT1, add_hom, xor_hom, and_hom, rol_hom]; rfl
theorem t2_hom (s : W8) : (rndT2 s).toNat = t2N s.a.toNat s.b.toNat s.c.toNat := by
  simp only [rndT2, add_hom, xor_hom, and_hom, rol_hom]; rfl
theorem o8_hom (x : UInt64) (b : UInt8) : (Ay x 8 ||| b.toUInt64).toNat = o8N x.toNat b := by
  rw [or_hom, sh_hom, UInt8.toNat_toUInt64]; rfl
def wU : List UInt8 → List UInt64
  | a :: b :: c :: d :: e :: f :: g :: h :: t => (Ay (Ay (Ay (Ay (Ay (Ay (Ay (Ay 0 8 ||| a.toUInt64) 8 ||| b.toUInt64) 8 ||| c.toUInt64) 8 ||| d.toUInt64) 8 ||| e.toUInt64) 8 ||| f.toUInt64) 8 ||| g.toUInt64) 8 ||| h.toUInt64) :: wU t
  | _ => []
theorem wgo_eq : ∀ (n : Nat) (p : List UInt8) (r : List Nat), p.length = 8 * n → wgo p r = ((wU p).map UInt64.toNat).reverse ++ r
  | 0, p, r, h => by
    obtain rfl := List.eq_nil_of_length_eq_zero h; rfl
  | n + 1, p, r, h => by
    have h : p.length = 8 * n + 7 + 1 := h
    iterate 8 (obtain ⟨a, l, e, h2⟩ := cons_of8 h; clear h; subst e; have h := h2; clear h2)
    rw [wgo, forceA_eq, wgo_eq n _ _ h, wU, List.map_cons, List.reverse_cons, List.append_assoc]
    simp only [o8_hom]
    rfl
theorem schA_words (p : List UInt8) (h : p.length = 128) : schA p 128 = wU p ++ List.replicate 64 0 := by
  iterate 128 (obtain ⟨a, l, e, h2⟩ := cons_of8 h; clear h; subst e; have h := h2; clear h2)
  obtain rfl := List.eq_nil_of_length_eq_zero h
  clear h
  refine Eq.trans ?_ rfl; kernel_rfl
theorem wU_length : ∀ (n : Nat) (p : List UInt8), p.length = 8 * n → (wU p).length = n
  | 0, p, h => by
    obtain rfl := List.eq_nil_of_length_eq_zero h; rfl
  | n + 1, p, h => by
    have h : p.length = 8 * n + 7 + 1 := h
    iterate 8 (obtain ⟨a, l, e, h2⟩ := cons_of8 h; clear h; subst e; have h := h2; clear h2)
    rw [wU, List.length_cons, wU_length n _ h]
def SJ (w : List UInt64) (j : Nat) : List Nat := (((schB w j).take (16 + j)).map UInt64.toNat).reverse
theorem take_set {α : Type} {l : List α} {n : Nat} (h : n < l.length) (v : α) : (l.set n v).take (n + 1) = l.take n ++ [v] := by
  have hl : (l.take n).length = n := by rw [List.length_take]; omega
  rw [List.set_eq_take_append_cons_drop, if_pos h, List.take_append, hl, List.take_of_length_le oM, show n + 1 - n = 1 by omega]
  rfl
theorem SJ_get {w : List UInt64} (hw : w.length = 80) {j i : Nat} (hj : j ≤ 64) (hi : i < 16 + j) : (SJ w j).getD i 0 = ((schB w j).getD (15 + j - i) 0).toNat := by
  have hl : ((schB w j).take (16 + j)).length = 16 + j := by rw [List.length_take, schB_length, hw]; omega
  have h1 : 15 + j - i < (schB w j).length := by rw [schB_length, hw]; omega
  rw [SJ, List.getD_eq_getElem?_getD, List.getElem?_reverse (by rw [List.length_map, hl]; exact hi), List.length_map, hl, List.getElem?_map, List.getElem?_take_of_lt oM, show 16 + j - 1 - i = 15 + j - i by omega, List.getD_eq_getElem?_getD, List.getElem?_eq_getElem h1]
  rfl
theorem SJ_succ {w : List UInt64} (hw : w.length = 80) {j : Nat} (hj : j < 64) : SJ w (j + 1) = nxN (SJ w j) :: SJ w j := by
  have h1 : SJ w (j + 1) = ((schB w j).getD j 0 + sig0 ((schB w j).getD (j + 1) 0) + (schB w j).getD (j + 9) 0 + sig1 ((schB w j).getD (j + 14) 0)).toNat :: SJ w j := by
    rw [SJ, schB, show 16 + (j + 1) = (16 + j) + 1 by omega, take_set (by rw [schB_length, hw]; omega), List.map_append, List.reverse_append]
    rfl
  rw [h1, nxN, SJ_get hw oM oM, SJ_get hw oM oM, SJ_get hw oM oM, SJ_get hw oM oM, show 15 + j - 15 = j by omega, show 15 + j - 14 = j + 1 by omega, show 15 + j - 6 = j + 9 by omega, show 15 + j - 1 = j + 14 by omega]
  simp only [add_hom, sg0_hom, sg1_hom]
theorem sgo_run {w : List UInt64} (hw : w.length = 80) : ∀ n j, j + n ≤ 64 → sgo n (SJ w j) = SJ w (j + n)
  | 0, j, _ => rfl
  | n + 1, j, h => by
    rw [sgo, forceA_eq, ← SJ_succ hw oM, sgo_run hw n (j + 1) oM, show j + 1 + n = j + (n + 1) by omega]
theorem sch_N {p : List UInt8} (h : p.length = 128) : (sgo 64 (wgo p [])).reverse = (schW p).map UInt64.toNat := by
  have hw : (schA p 128).length = 80 := schA_length p 128
  have e : wgo p [] = SJ (schA p 128) 0 := by
    rw [wgo_eq 16 p [] h, SJ, List.append_nil, schB, schA_words p h, List.take_append_of_le_length (by rw [wU_length 16 p h]; omega), List.take_of_length_le (by rw [wU_length 16 p h]; omega)]
  rw [e, sgo_run hw 64 0 oM, SJ, List.reverse_reverse, schW, List.take_of_length_le (by rw [schB_length, hw]; omega)]
def rndF (ks ws : List UInt64) (s : W8) : W8 := (ks.zip ws).foldl (fun s p => rnd1 s p.1 p.2) s
theorem rnds_F {k w : List UInt64} (s : W8) (hk : k.length = 80) (hw : w.length = 80) : ∀ t, t ≤ 80 → rnds k w s t = rndF (k.take t) (w.take t) s
  | 0, _ => by simp [rnds, rndF]
  | t + 1, h => by
    have e : rndF (k.take (t + 1)) (w.take (t + 1)) s = rnd1 (rndF (k.take t) (w.take t) s) (k[t]'oM) (w[t]'oM) := by
      rw [List.take_succ_eq_append_getElem oM, List.take_succ_eq_append_getElem oM, rndF, List.zip_append (by rw [List.length_take, List.length_take, hk, hw]), List.foldl_append]
      rfl
    rw [rnds, rnds_F s hk hw t oM, e, List.getD_eq_getElem?_getD, List.getD_eq_getElem?_getD, List.getElem?_eq_getElem oM, List.getElem?_eq_getElem oM]
    rfl
theorem rgo_eq : ∀ (ks ws : List UInt64) (s : W8), rgo (ks.map UInt64.toNat) (ws.map UInt64.toNat) s.a.toNat s.b.toNat s.c.toNat s.d.toNat s.e.toNat s.f.toNat s.g.toNat s.h.toNat = (rndF ks ws s).l.map UInt64.toNat
  | [], ws, s => by simp only [rndF, List.zip_nil_left, List.foldl_nil, List.map_nil, rgo, W8.l, List.map_cons]
  | _ :: _, [], s => by simp only [rndF, List.zip_nil_right, List.foldl_nil, List.map_nil, List.map_cons, rgo, W8.l]
  | k :: ks, w :: ws, s => by
    have e : rndF (k :: ks) (w :: ws) s = rndF ks ws (rnd1 s k w) := by simp only [rndF, List.zip_cons_cons, List.foldl_cons]
    rw [List.map_cons, List.map_cons, rgo, forceA_eq, forceA_eq, forceA_eq, e, ← rgo_eq ks ws]
    simp only [rnd1, add_hom, t1_hom, t2_hom]
theorem add8 {st xs : List UInt64} (h1 : st.length = 8) (h2 : xs.length = 8) : (addUp st xs 8).map UInt64.toNat = adN (st.map UInt64.toNat) (xs.map UInt64.toNat) := by
  iterate 8 (obtain ⟨a, l, e, h3⟩ := cons_of8 h1; clear h1; subst e; have h1 := h3; clear h3)
  obtain rfl := List.eq_nil_of_length_eq_zero h1
  iterate 8 (obtain ⟨a, l, e, h3⟩ := cons_of8 h2; clear h2; subst e; have h2 := h3; clear h3)
  obtain rfl := List.eq_nil_of_length_eq_zero h2
  simp only [List.map_cons, List.map_nil, adN, forceA_eq, ← add_hom]
  rfl
theorem piece_N {k st : List UInt64} {p : List UInt8} (hk : k.length = 80) (hs : st.length = 8) (hp : p.length = 128) : (pieceW k st p).map UInt64.toNat = pieceN (k.map UInt64.toNat) (st.map UInt64.toNat) p := by
  have hw : (schW p).length = 80 := by rw [schW, schB_length, schA_length]
  have e : rgoL (k.map UInt64.toNat) ((schW p).map UInt64.toNat) (st.map UInt64.toNat) = (rnds k (schW p) (W8.of st) 80).l.map UInt64.toNat := by
    rw [rnds_F _ hk hw 80 oM, List.take_of_length_le oM, List.take_of_length_le oM, ← rgo_eq]
    iterate 8 (obtain ⟨a, l, e, h3⟩ := cons_of8 hs; clear hs; subst e; have hs := h3; clear h3)
    obtain rfl := List.eq_nil_of_length_eq_zero hs
    rfl
  rw [pieceW, add8 hs rfl, pieceN, sch_N hp, e]

theorem run_N {k st : List UInt64} {bs : List UInt8} (hk : k.length = 80) (hs : st.length = 8) : ∀ i, 128 * i ≤ bs.length → (runW k st bs i).map UInt64.toNat = runN (k.map UInt64.toNat) (st.map UInt64.toNat) bs i
  | 0, _ => rfl
  | i + 1, h => by
    rw [runW, runN, piece_N hk (by rw [runW_length]; exact hs) (by rw [List.length_take, List.length_drop]; omega), run_N hk hs i oM]


theorem all_N {k st : List UInt64} (l : List UInt8) (hk : k.length = 80) (hs : st.length = 8) : (allW k st l).map UInt64.toNat = allN (k.map UInt64.toNat) (st.map UInt64.toNat) l := by
  rw [allW, run_N hk hs _ (by have := padB_mod l; omega), allN, forceA_eq, padT_eq, ← padB_length, padT_eq]
def kN : List Nat := [4794697086780616226, 8158064640168781261, 13096744586834688815, 16840607885511220156, 4131703408338449720, 6480981068601479193, 10538285296894168987, 12329834152419229976, 15566598209576043074, 1334009975649890238, 2608012711638119052, 6128411473006802146, 8268148722764581231, 9286055187155687089, 11230858885718282805, 13951009754708518548, 16472876342353939154, 17275323862435702243, 1135362057144423861, 2597628984639134821, 3308224258029322869, 5365058923640841347, 6679025012923562964, 8573033837759648693, 10970295158949994411, 12119686244451234320, 12683024718118986047, 13788192230050041572, 14330467153632333762, 15395433587784984357, 489312712824947311, 1452737877330783856, 2861767655752347644, 3322285676063803686, 5560940570517711597, 5996557281743188959, 7280758554555802590, 8532644243296465576, 9350256976987008742, 10552545826968843579, 11727347734174303076, 12113106623233404929, 14000437183269869457, 14369950271660146224, 15101387698204529176, 15463397548674623760, 17586052441742319658, 1182934255886127544, 1847814050463011016, 2177327727835720531, 2830643537854262169, 3796741975233480872, 4115178125766777443, 5681478168544905931, 6601373596472566643, 7507060721942968483, 8399075790359081724, 8693463985226723168, 9568029438360202098, 10144078919501101548, 10430055236837252648, 11840083180663258601, 13761210420658862357, 14299343276471374635, 14566680578165727644, 15097957966210449927, 16922976911328602910, 17689382322260857208, 500013540394364858, 748580250866718886, 1242879168328830382, 1977374033974150939, 2944078676154940804, 3659926193048069267, 4368137639120453308, 4836135668995329356, 5532061633213252278, 6448918945643986474, 6902733635092675308, 7801388544844847127]
def stN : List Nat := [7640891576956012808, 13503953896175478587, 4354685564936845355, 11912009170470909681, 5840696475078001361, 11170449401992604703, 2270897969802886507, 6620516959819538809]
def siN : List Nat := [2463787394917988140, 11481187982095705282, 2563595384472711505, 10824532655140301501, 10819967247969091555, 13717434660681038226, 3098927326965381290, 1060366662362279074]
theorem kN_eq : kW.map UInt64.toNat = kN := by kernel_rfl
theorem stN_eq : startW.map UInt64.toNat = stN := by kernel_rfl
theorem of_to (l : List UInt64) : (l.map UInt64.toNat).map UInt64.ofNat = l := by
  rw [List.map_map]
  exact (List.map_congr_left fun x _ => UInt64.ofNat_toNat).trans (List.map_id l)
theorem sha512_N (l : List UInt8) : Bz l = sumUp ((allN kN stN l).map UInt64.ofNat) 64 := by
  rw [← kN_eq, ← stN_eq, ← all_N l rfl rfl, of_to]; rfl
theorem siN_eq : shaI.map UInt64.toNat = siN := by kernel_rfl
theorem sha256_N (l : List UInt8) : sha256 l = (sumUp ((allN kN siN l).map UInt64.ofNat) 64).take 32 := by
  rw [← kN_eq, ← siN_eq, ← all_N l rfl shaI_length, of_to]; rfl

end Go.Proofs.YtfcbgdkpagcbbaaGreat
end

section
namespace Go.Proofs.YtfcbgdkpagcbbaaGreat
open Go Hw

open Ed

def pbN (n : Nat) : List UInt8 := forceA (fastN n) fun s => forceA (pwm PF 256 (uz s % PF) (PF - 2)) fun i => pb ⟨fe (ux s * i % PF), fe (uy s * i % PF)⟩
theorem pbN_eq {n : Nat} (h : n < 2 ^ 256) : pb (cv.mul n bP) = pbN n := by
  rw [fast_at h rfl rfl, pbN, forceA_eq, forceA_eq, affX, affY, force_eq, force_eq]
def h512 (l : List UInt8) : List UInt8 := sumUp ((allN kN stN l).map UInt64.ofNat) 64
def h256 (l : List UInt8) : List UInt8 := (sumUp ((allN kN siN l).map UInt64.ofNat) 64).take 32
def blkD (K : List UInt8) (D0 : DB) (e S : Nat) : DB := bsg D0 K (leb 32 e ++ leb 32 S)
def blkOk (H K : List UInt8) (n : Nat) (D0 : DB) (r e S N : Nat) : Bool :=
  Nat.beq (le (h512 (H.drop 32 ++ btxt { D0 with w := K })) % L) r && (Nat.beq (le (pbN r)) e && (Nat.beq ((le (h512 (leb 32 e ++ (K ++ btxt { D0 with w := K }))) % L * n + r) % L) S
    && (Nat.beq (le (h256 (blkD K D0 e S).bytes)) N && (decide (D0.check = 0) && decide ((blkD K D0 e S).check = 0)))))
theorem le_32 {l : List UInt8} {x : Nat} (h : l.length = 32) (e : le l = x) : l = leb 32 x := by rw [← e, ← h, leb_le]
def BlkF (seed K : List UInt8) (D0 : DB) (e S N : Nat) : Prop := (blkD K D0 e S).ok ∧ Bd (blkD K D0 e S) = leb 32 N ∧ dgood (blkD K D0 e S) = 0 ∧ ∀ B : Block, B.ok → Meets Tryz.prog 56 [agg (Aa seed), agg B.cells] [] (fun W => BlockIs W B D0) (BlkR 0 (blkD K D0 e S))
theorem blk_facts {seed H K : List UInt8} {n : Nat} (h32 : seed.length = 32) (hH : Bz seed = H) (hn : le (clampB (H.take 32)) = n) (hK : sgK H = K) {D0 : DB} {r e S N : Nat} (hl : D0.ls.length ≤ 40) (hd : D0.ds.length ≤ 2000) (hD0 : D0.ok) (h : blkOk H K n D0 r e S N = true) : BlkF seed K D0 e S N := by
  unfold blkOk at h
  simp only [Bool.and_eq_true, decide_eq_true_eq] at h
  obtain ⟨h1, h2, h3, h4, h5, h6⟩ := h
  rw [h512, ← sha512_N] at h1 h3
  rw [h256, ← sha256_N] at h4
  have h1 := Nat.eq_of_beq_eq_true h1
  have h2 := Nat.eq_of_beq_eq_true h2
  have h3 := Nat.eq_of_beq_eq_true h3
  have h4 := Nat.eq_of_beq_eq_true h4
  have hr : r < 2 ^ 256 := by rw [← h1]; exact lm _
  have hKl : K.length = 32 := by rw [← hK]; exact sgK_length H
  obtain ⟨T, hT⟩ : ∃ T, T = btxt { D0 with w := K } := ⟨_, rfl⟩
  rw [← hT] at h1 h3
  obtain ⟨s1, hs1⟩ : ∃ s1, Bz (H.drop 32 ++ T) = s1 := ⟨_, rfl⟩
  rw [hs1] at h1
  have e1 : le (sgR s1) = r := by rw [sgR, le_leb32 (lm _), h1]
  have e2 : sgF s1 = leb 32 e := by
    rw [sgF, e1, pbN_eq hr]
    refine le_32 ?_ h2
    rw [← pbN_eq hr]; exact Cd _
  obtain ⟨s2, hs2⟩ : ∃ s2, Bz (leb 32 e ++ (K ++ T)) = s2 := ⟨_, rfl⟩
  rw [hs2] at h3
  have e3 : sgS H s1 s2 = leb 32 S := by rw [sgS, e1, hn, sgR, le_leb32 (lm _), h3]
  have g := good_self H s1 T (s2 := s2) (by rw [e2, hK]; exact hs2)
  rw [hK, e2, e3] at g
  refine ⟨⟨hKl, hD0.prev, by show (leb 32 e ++ leb 32 S).length = 64; rw [List.length_append, Ah, Ah], hD0.ls⟩, ?_, ?_, fun B hB => ?_⟩
  · unfold Bd
    rw [if_pos h6]
    exact le_32 (sha256_length _) h4
  · unfold dgood
    rw [if_pos h6]
    refine if_pos ?_
    have e4 : btxt (blkD K D0 e S) = T := hT.symm
    rw [e4]; exact g
  · have c := r15_Sign B D0 hB hl hd seed h32 H s1 s2 ⟨hH⟩ ⟨by rw [hK, ← hT]; exact hs1⟩ ⟨by rw [hK, ← hT, e2]; exact hs2⟩ h5
    rw [hK, e2, e3] at c
    exact c

end Go.Proofs.YtfcbgdkpagcbbaaGreat
end

section
namespace Go.Proofs.YtfcbgdkpagcbbaaGreat
open Go Hw

def PD.heads (X : PD) : List (List UInt8) := isort (X.hds.map (·.1))
theorem heads_len (X : PD) : X.heads.length = X.hds.length := by unfold PD.heads; rw [(isort_perm _).length_eq, List.length_map]
theorem meets_knowN {P : Program} {f : FuncId} {args : List Value} {Pre : World → Prop} {R R' : Value → List Blk → Prop} (h : Meets P f args [] Pre R) (hr : ∀ v out w, R v out → Lies out w → R' v out) : Meets P f args [] Pre R' :=
  fun W hW => (h W hW).mono fun e W' ⟨v, out, h1, h2, h3⟩ => ⟨v, out, h1, hr v out W' h2 h3.cells, h3⟩
def BlkN (D : DB) (v : Value) (out : List Blk) : Prop := ∃ B : Block, v = agg B.cells ∧ Held [] B D
theorem any_is {w : World} {B : Block} {D : DB} (h : BlockIs w B D) (hl : D.ls = []) (hd : D.ds = []) (W : World) : BlockIs W B D := by
  have n1 : B.fLinks.n = 0 := by rw [← h.ls.len, hl]; rfl
  have n2 : B.fData.n = 0 := by rw [← h.ds.len, hd]; rfl
  refine ⟨h.ok, h.w, h.seq, h.prev, ⟨h.ls.len, h.ls.row, h.ls.cap, ?_, h.ls.max, h.ls.nil⟩, ⟨h.ds.len, h.ds.cap, ?_, h.ds.max, h.ds.nil⟩, h.sg⟩
  · rw [hl]; cases B.fLinks.p <;> simp [SeesP, Sees]
  · rw [hd]; cases B.fData.p <;> simp [SeesP, Sees, Aa]
theorem blkN_know {D : DB} (hl : D.ls = []) (hd : D.ds = []) : ∀ v out w, BlkV D v out → Lies out w → BlkN D v out := fun v out w ⟨B, h1, h2, h3⟩ hw => ⟨B, h2, h1, fun W _ => any_is (h3 w hw) hl hd W⟩
theorem Held.at {B : Block} {D : DB} (h : Held [] B D) (W : World) : BlockIs W B D := h.2 W (fun b hb => by cases hb)
theorem dag_add0 (x : DD) (hx : x.ok) (p : Nat) (B : Block) (D : DB) (hB : Held [] B D) (hroom : x.names.length + x.orp.length < 20000) : Meets Tryz.prog 10 [ptr p 0, agg B.cells] ((x.blks p).map (·.n)) (fun W => Lent (x.blks p) W) (AddR x p D []) := by
  have h := dag_add x hx p B D [] hB hroom
  rw [List.append_nil] at h
  exact h
theorem pm_in0 {hp l R : List Blk} {x : Blk} (h : hp.Perm ((x :: l) ++ R)) : hp.Perm (([x] ++ l) ++ R) := h
theorem dag_heads (x : DD) (hx : x.ok) (p : Nat) : Meets Tryz.prog 15 [ptr p 0] [] (fun W => Lies (x.blks p) W) (RowA x.pl.heads) := by
 intro W hW
 refine Ac Tryz.func15 J 11 Tryz.ntmps15 J (G9 ?_)
 refine .cV J J J J Body33 (dag_valid x p) (fun w h => DagSee.ext h (DagSee.lies hW)) (G3 ?_)
 refine .cond_f J J (G7 ?_)
 refine .loadE J J J Y70.h J sP ((DagSee.lies hW).at (o := 3) J) (.call4 J J J J J Body40 (dag_sortedU MH x.bH x.hds hx.hds (by have := hx.hdsn; have := hx.big; omega)) (fun w h => mblk_keep (hW _ (x.mH p)) h) ?_)
 rintro v10 out10 ⟨s10, ks, hkp, hks, rfl, hac⟩
 obtain rfl : ks = x.pl.heads := isort_eq hkp hks
 refine G3 ?_
 -- ret
 refine G2 ?_
 refine Az (out := (out10 ++ [])) (Al J J) (Af sG Ak) ?_
 exact ⟨s10, rfl, by simpa using hac⟩


inductive PD.Reach (X : PD) (above : Int) (L : List (List UInt8)) : List UInt8 → Prop
  | base {n : List UInt8} {D : DB} (h : n ∈ L) (hP : Au X.P n = some D) (hd : above < (Au X.dep n).getD 0) : Reach X above L n
  | step {m n : List UInt8} {D E : DB} (h : Reach X above L m) (hP : Au X.P m = some D) (hn : n ∈ Ca D) (hE : Au X.P n = some E) (hd : above < (Au X.dep n).getD 0) : Reach X above L n
def PD.Edge (X : PD) (L : List (List UInt8)) (ms : List (List UInt8 × Unit)) (n : List UInt8) : Prop := n ∈ L ∨ ∃ m D, m ∈ ms.map (·.1) ∧ Au X.P m = some D ∧ n ∈ Ca D
def cntW : List (List UInt8 × DB) → List (List UInt8 × Unit) → Nat
  | [], _ => 0
  | p :: P, ms => (if (Au ms p.1).isSome = true then 0 else 1) + cntW P ms
theorem put_some {ms : List (List UInt8 × Unit)} {n : List UInt8} (h : Au ms n = none) (k : List UInt8) : (Au (Bh ms n ()) k).isSome = (decide (n = k) || (Au ms k).isSome) := by
  by_cases e : n = k
  · subst e; rw [mget_new h]; simp
  · rw [mget_old h _ e]; simp [e]
theorem cnt_le {ms : List (List UInt8 × Unit)} {n : List UInt8} (h : Au ms n = none) : ∀ P : List (List UInt8 × DB), cntW P (Bh ms n ()) ≤ cntW P ms
  | [] => Nat.le_refl _
  | p :: P => by
    have ih := cnt_le h P
    have h1 : (if (decide (n = p.1) || (Au ms p.1).isSome) = true then 0 else 1) ≤ (if (Au ms p.1).isSome = true then 0 else 1) := by
      cases (Au ms p.1).isSome <;> cases decide (n = p.1) <;> decide
    rw [cntW, cntW, put_some h]
    omega
theorem cnt_put {ms : List (List UInt8 × Unit)} {n : List UInt8} (h : Au ms n = none) : ∀ P : List (List UInt8 × DB), n ∈ P.map (·.1) → cntW P (Bh ms n ()) + 1 ≤ cntW P ms
  | [], hn => by cases hn
  | p :: P, hn => by
    have hle := cnt_le h P
    rw [cntW, cntW, put_some h]
    by_cases e : n = p.1
    · rw [← e, h, decide_eq_true rfl, if_pos (by rfl), if_neg sP]
      omega
    · have hn2 : n ∈ P.map (·.1) := by
        rcases List.mem_cons.1 hn with h3 | h3
        · exact absurd h3 e
        · exact h3
      have ih := cnt_put h P hn2
      rw [decide_eq_false e, Bool.false_or]
      omega
theorem cnt_nil : ∀ P : List (List UInt8 × DB), cntW P [] = P.length
  | [] => rfl
  | p :: P => by
    have h : Au ([] : List (List UInt8 × Unit)) p.1 = none := rfl
    rw [cntW, cnt_nil P, h, List.length_cons]
    simp
    omega
structure WalkI (X : PD) (above : Int) (L : List (List UInt8)) (ms : List (List UInt8 × Unit)) (st : List (List UInt8)) : Prop where
  r32 : ∀ q ∈ ms, q.1.length = 32
  s32 : ∀ n ∈ st, n.length = 32
  nd : (ms.map (·.1)).Nodup
  snd : ∀ n ∈ ms.map (·.1), X.Reach above L n
  sub : ∀ n ∈ st, X.Edge L ms n
  cov : ∀ n, X.Edge L ms n → n ∈ st ∨ n ∈ ms.map (·.1) ∨ Au X.P n = none ∨ (Au X.dep n).getD 0 ≤ above
  cnt : ms.length + cntW X.P ms ≤ X.P.length
  len : st.length + 17 * cntW X.P ms ≤ L.length + 17 * X.P.length
theorem WalkI.start (X : PD) (above : Int) {L : List (List UInt8)} (h : ∀ n ∈ L, n.length = 32) : WalkI X above L [] L where
  r32 := fun q hq => by cases hq
  s32 := h
  nd := List.nodup_nil
  snd := fun n hn => by cases hn
  sub := fun n hn => .inl hn
  cov := fun n hn => by
    rcases hn with hn | ⟨m, D, hm, _⟩
    · exact .inl hn
    · cases hm
  cnt := by rw [cnt_nil]; exact Nat.le_of_eq (Nat.zero_add _)
  len := by rw [cnt_nil]; exact Nat.le_refl _
theorem WalkI.pass {X : PD} {above : Int} {L : List (List UInt8)} {ms : List (List UInt8 × Unit)} {st : List (List UInt8)} {n : List UInt8} (h : WalkI X above L ms (st ++ [n])) (hn : n ∈ ms.map (·.1) ∨ Au X.P n = none ∨ (Au X.dep n).getD 0 ≤ above) : WalkI X above L ms st := { h with
  s32 := fun m hm => h.s32 m (List.mem_append_left _ hm)
  sub := fun m hm => h.sub m (List.mem_append_left _ hm)
  cov := fun m hm => by
    rcases h.cov m hm with h1 | h1
    · rcases List.mem_append.1 h1 with h2 | h2
      · exact .inl h2
      · rw [List.mem_singleton.1 h2]; exact .inr hn
    · exact .inr h1
  len := by have := h.len; rw [List.length_append, List.length_singleton] at this; omega }
theorem keys_in {X : PD} {n : List UInt8} {D : DB} (h : Au X.P n = some D) : n ∈ X.P.map (·.1) := List.mem_map.2 ⟨(n, D), Cs h, rfl⟩
theorem WalkI.meet {X : PD} {above : Int} {L : List (List UInt8)} {ms : List (List UInt8 × Unit)} {st : List (List UInt8)} {n : List UInt8} {D : DB} (h : WalkI X above L ms (st ++ [n])) (hm : Au ms n = none) (hP : Au X.P n = some D) (hd : above < (Au X.dep n).getD 0) (hpar : ∀ l ∈ Ca D, l.length = 32) (h17 : (Ca D).length ≤ 17) : WalkI X above L (Bh ms n ()) (st ++ Ca D) where
  r32 := fun q hq => by
    rcases mput_mem hq with hq | rfl
    · exact h.r32 q hq
    · exact h.s32 n (List.mem_append_right _ (List.mem_singleton.2 rfl))
  s32 := fun m hm2 => by
    rcases List.mem_append.1 hm2 with h1 | h1
    · exact h.s32 m (List.mem_append_left _ h1)
    · exact hpar m h1
  nd := mput_nodup h.nd n ()
  snd := fun m hm2 => by
    rcases (keys_put ms n () m).1 hm2 with h1 | rfl
    · exact h.snd m h1
    · rcases h.sub m (List.mem_append_right _ (List.mem_singleton.2 rfl)) with h1 | ⟨k, E, hk, hE, hn⟩
      · exact .base h1 hP hd
      · exact .step (h.snd k hk) hE hn hP hd
  sub := fun m hm2 => by
    rcases List.mem_append.1 hm2 with h1 | h1
    · rcases h.sub m (List.mem_append_left _ h1) with h2 | ⟨k, E, hk, hE, hn⟩
      · exact .inl h2
      · exact .inr ⟨k, E, (keys_put ms n () k).2 (.inl hk), hE, hn⟩
    · exact .inr ⟨n, D, (keys_put ms n () n).2 (.inr rfl), hP, h1⟩
  cov := fun m hm2 => by
    have old : X.Edge L ms m → m ∈ st ++ Ca D ∨ m ∈ (Bh ms n ()).map (·.1) ∨ Au X.P m = none ∨ (Au X.dep m).getD 0 ≤ above := fun he => by
      rcases h.cov m he with h1 | h1 | h1
      · rcases List.mem_append.1 h1 with h2 | h2
        · exact .inl (List.mem_append_left _ h2)
        · exact .inr (.inl ((keys_put ms n () m).2 (.inr (List.mem_singleton.1 h2))))
      · exact .inr (.inl ((keys_put ms n () m).2 (.inl h1)))
      · exact .inr (.inr h1)
    rcases hm2 with h1 | ⟨k, E, hk, hE, hn⟩
    · exact old (.inl h1)
    · rcases (keys_put ms n () k).1 hk with h1 | rfl
      · exact old (.inr ⟨k, E, h1, hE, hn⟩)
      · rw [hP] at hE
        rw [← Option.some.inj hE] at hn
        exact .inl (List.mem_append_right _ hn)
  cnt := by
    have h1 := h.cnt
    have h2 := cnt_put hm X.P (keys_in hP)
    have h3 := mput_len ms n ()
    omega
  len := by
    have h1 := h.len
    have h2 := cnt_put hm X.P (keys_in hP)
    rw [List.length_append, List.length_singleton] at h1
    rw [List.length_append]
    omega
theorem WalkI.fin {X : PD} {above : Int} {L : List (List UInt8)} {ms : List (List UInt8 × Unit)} (h : WalkI X above L ms []) (n : List UInt8) : n ∈ ms.map (·.1) ↔ X.Reach above L n := by
  refine ⟨h.snd n, fun hr => ?_⟩
  have key : ∀ {n D}, X.Edge L ms n → Au X.P n = some D → above < (Au X.dep n).getD 0 → n ∈ ms.map (·.1) := fun {n D} he hP hd => by
    rcases h.cov n he with h1 | h1 | h1 | h1
    · cases h1
    · exact h1
    · rw [hP] at h1; cases h1
    · omega
  induction hr with
  | base h1 hP hd => exact key (.inl h1) hP hd
  | step h1 hP hn hE hd ih => exact key (.inr ⟨_, _, ih, hP, hn⟩) hE hd
theorem DD.getDep (x : DD) (k : List UInt8) : Au x.pl.dep k = (Au x.ent k).map (fun e => e.1.fDepth) := mget_map (fun e : EV => e.1.fDepth) x.ent k
theorem DD.atP {x : DD} {n : List UInt8} {e : EV} (h : Au x.ent n = some e) : Au x.pl.P n = some e.2 ∧ (Au x.pl.dep n).getD 0 = e.1.fDepth := ⟨by rw [show x.pl.P = x.P from rfl, x.getP, h]; rfl, by rw [x.getDep, h]; rfl⟩
theorem DD.noP {x : DD} {n : List UInt8} (h : Au x.ent n = none) : Au x.pl.P n = none := by rw [show x.pl.P = x.P from rfl, x.getP, h]; rfl
theorem mget_keys {ms : List (List UInt8 × Unit)} {n : List UInt8} (h : Au ms n = some ()) : n ∈ ms.map (·.1) := List.mem_map.2 ⟨(n, ()), Cs h, rfl⟩
def WalkR (X : PD) (above : Int) (L : List (List UInt8)) (v : Value) (out : List Blk) : Prop := ∃ (m : Nat) (ms : List (List UInt8 × Unit)), v = .map (some m) ∧ out = [A0 m (As 32 evU) ms] ∧ WalkI X above L ms []

theorem sees_last {w : World} {b : Nat} {st : List (List UInt8)} {kk : List UInt8} (h : ∀ l ∈ st ++ [kk], l.length = 32) (hs : Sees w b 0 (A1 (st ++ [kk]))) : Sees w b (0 + st.length * 32) (Aa kk) := by
  have := sees_row h hs (k := st.length) sP
  simpa [List.getD_eq_getElem?_getD] using this

theorem dag_walk (x : DD) (hx : x.ok) (h16 : ∀ p ∈ x.P, p.2.ls.length ≤ 16) (p : Nat) (s0 : Sl) (L : List (List UInt8)) (hL : s0.n ≤ 90000) (above : Int) : Meets Tryz.prog 41 [ptr p 0, s0.v, i64 above] [] (fun W => Lies (x.blks p) W ∧ RowsAt W s0 32 L) (WalkR x.pl above L) := by
 intro W hW
 have hlies := hW.1
 have hd := DagSee.lies hW.1
 have hbig := hx.big
 have hen := hx.entn
 have hPl : x.pl.P.length = x.ent.length := by show (x.ent.map _).length = _; rw [List.length_map]
 have hL2 := hW.2.len
 refine Ac Tryz.func41 J 66 Tryz.ntmps41 J (G7 ?_)
 refine .mkMap (As 32 evU) J J ?_
 intro m14
 refine G6 ?_
 refine .call4 J J J J J Body42 (cl_digs s0 L hL) (fun w h => rows_ext h J hW.2) ?_
 rintro v16 out16 ⟨s16, rfl, hac16⟩
 have hn16 := hac16.num
 refine G5 ?_
 refine .loop (ι := List (List UInt8 × Unit) × List (List UInt8) × Sl × List Blk) (fun r => ⟨[(0, ptr p 0), (2, i64 above), (7, .map (some m14)), (8, r.2.2.1.v)], (A0 m14 (As 32 evU) r.1 :: (r.2.2.2 ++ []))⟩) (fun r => WalkI x.pl above L r.1 r.2.1 ∧ Hw.Acc r.2.2.1 r.2.2.2 (A1 r.2.1) 25 r.2.1.length 32) (fun r => r.2.1.length + 18 * cntW x.pl.P r.1) (([], L, s16, out16)) ?_ ?_ ?_
 · exact ⟨WalkI.start x.pl above hW.2.row, (by simp only; rw [hL2]; exact hac16)⟩
 · exact Ao (wk1 rfl (wk1 rfl (wk1 rfl (wk1 rfl wk0)))) (Ab (by repeat (first | exact A5 | apply Cn)) (Af sG Ak))
 rintro ⟨ms, st, sl, bl⟩ ⟨hI, hac⟩
 simp only at hI hac ⊢
 have hsn := hac.num
 refine G8 ?_
 refine .condP J (fun hc0 => ?_) (fun hc0 => ?_)
 ·
  have hpos : 0 < st.length := by omega
  obtain ⟨st2, kk, rfl⟩ := snoc_of hpos
  have hlen : (st2 ++ [kk]).length = st2.length + 1 := by simp
  have hmx := hI.len
  obtain ⟨NN, hNN⟩ : ∃ NN, NN = (st2 ++ [kk]).length := ⟨_, rfl⟩
  rw [← hNN] at hac
  have h32k : kk.length = 32 := hI.s32 kk sP
  have hlast := fun (w : World) (b : Nat) => sees_last (w := w) (b := b) hI.s32
  rcases hac with ⟨_, _, _, h0⟩ | ⟨qr, cr, rfl, hnc, hfl, rfl⟩
  · exfalso; omega
  refine G9 ?_
  refine .idxSlP 32 J J J J J Y26.h Sz25 st2.length (by show (NN : Int) - 1 = (st2.length : Int); omega) (by show st2.length < NN; omega) ?_
  refine .loadSN (n := 32) (Aa kk) J J J Y25.h J Sz25 (by rw [Aa, List.length_map]; exact h32k) (fun w h => hlast w qr (Ar h Z1)) ?_
  refine .alloc (cs := (Aa (List.replicate 32 0))) J Zr25 J ?_
  intro n9 hn9 hf9
  refine .sA J J J J zE Sz25 (by (simp [h32k]; done)) Z0 sP zU ?_
  refine G8 ?_
  refine .sliceHiA ⟨some ⟨qr, 0, none⟩, NN, cr⟩ st2.length J J J J (by show (NN : Int) - 1 = (st2.length : Int); omega) (by show st2.length ≤ cr; omega) Y26.h Sz25 ?_
  refine G4 ?_
  rw [flatB_append]
  refine .trunc (q := qr) rM ?_
  have hacn : Hw.Acc ⟨some ⟨qr, 0, none⟩, st2.length, cr⟩ [⟨qr, A1 st2, 25, cr * 32⟩] (A1 st2) 25 st2.length 32 := Acc.some oM (A7 (fun l hl => hI.s32 l (List.mem_append_left _ hl)))
  refine .draw [(0, 0), (0, 1), (0, 2), (1, 3), (1, 4), (1, 5), (0, 6), (0, 7), (0, 8), (2, 9), (4, 10), (0, 11)] Ap zK (G3 ?_)
  refine .loadE J J J Y69.h J sP (hd.at (o := 2) J) (.lA J J J Y25.h J Sz25 Z1 (by (simp [h32k]; done)) ?_)
  refine .lookFC evE ME hd.2 sP J J J J h32k (fun hg => ?_) (fun e hg => ?_)
  ·
   skip
   refine G3 ?_
   refine .alloc (cs := DEnt.zero.cells) J DEnt.zr J ?_
   intro n10 hn10 hf10
   refine G8 ?_
   refine .lA J J J Y25.h J Sz25 Z2 (by (simp [h32k]; done)) ?_
   refine .lookF evU MH J J J J h32k Z3 (fun hg2 => ?_) (fun e2 hg2 => ?_)
   ·
    skip
    refine G3 ?_
    refine .alloc (cs := []) J Zr82 J ?_
    intro n12 hn12 hf12
    refine .sA J J J J zB Sz82 sP Z0 sP zU ?_
    refine G18 ?_
    refine .cond_t J J (G4 ?_)
    (refine ⟨(ms, st2, ⟨some ⟨qr, 0, none⟩, st2.length, cr⟩, [⟨qr, A1 st2, 25, cr * 32⟩]), ⟨hI.pass (by exact .inr (.inl (DD.noP hg))), hacn⟩, (by simp only [List.length_append, List.length_singleton]; omega), ?_⟩; exact Ao (wk1 rfl (wk1 rfl (wk1 rfl (wk1 rfl wk0)))) (Ab rM (pm_in0 (Ab rM Ak))))
   skip
   refine G3 ?_
   refine .alloc (cs := []) J Zr82 J ?_
   intro n12 hn12 hf12
   refine .sA J J J J zB Sz82 sP Z0 sP zU ?_
   refine G18 ?_
   refine .cond_t J J (G4 ?_)
   (refine ⟨(ms, st2, ⟨some ⟨qr, 0, none⟩, st2.length, cr⟩, [⟨qr, A1 st2, 25, cr * 32⟩]), ⟨hI.pass (by exact .inl (mget_keys hg2)), hacn⟩, (by simp only [List.length_append, List.length_singleton]; omega), ?_⟩; exact Ao (wk1 rfl (wk1 rfl (wk1 rfl (wk1 rfl wk0)))) (Ab rM (pm_in0 (Ab rM Ak))))
  have hP := (DD.atP hg).1
  have hdp := (DD.atP hg).2
  have h16e : e.2.ls.length ≤ 16 := h16 _ (List.mem_map.2 ⟨_, Cs hg, rfl⟩)
  have h17 : (Ca e.2).length ≤ 17 := by have := parL_len e.2; omega
  have hprow := parL_row ((hx.ent _ (Cs hg)).2.1.2 W (hlies.sub (x.mcb p))).dok
  refine G3 ?_
  refine .alloc (cs := DEnt.zero.cells) J DEnt.zr J ?_
  intro n10 hn10 hf10
  refine .sA J J J J (DEnt.isCell (by exact hx.entOk hg)) Sz79 (DEnt.length (by exact hx.entOk hg)) Z0 (DEnt.length (by exact DEnt.zero_ok)) zU ?_
  refine G7 ?_
  refine .lA J J J Y25.h J Sz25 Z2 (by (simp [h32k]; done)) ?_
  refine .lookF evU MH J J J J h32k Z3 (fun hg2 => ?_) (fun e2 hg2 => ?_)
  ·
   skip
   refine G3 ?_
   refine .alloc (cs := []) J Zr82 J ?_
   intro n12 hn12 hf12
   refine .sA J J J J zB Sz82 sP Z0 sP zU ?_
   refine G12 ?_
   refine .load1 J J J Y3.h J Z1 (DEnt.get_fDepth (hx.entOk hg)) ?_
   refine G5 ?_
   refine .condP J (fun hc1 => ?_) (fun hc1 => ?_)
   ·
    refine G4 ?_
    (refine ⟨(ms, st2, ⟨some ⟨qr, 0, none⟩, st2.length, cr⟩, [⟨qr, A1 st2, 25, cr * 32⟩]), ⟨hI.pass (by exact .inr (.inr (by rw [(DD.atP hg).2]; omega))), hacn⟩, (by simp only [List.length_append, List.length_singleton]; omega), ?_⟩; exact Ao (wk1 rfl (wk1 rfl (wk1 rfl (wk1 rfl wk0)))) (Ab rM (pm_in0 (Ab rM Ak))))
   refine G5 ?_
   refine .lA J J J Y25.h J Sz25 Z3 (by (simp [h32k]; done)) ?_
   refine .build (cs := []) J J J (fun w => by kernel_rfl) ?_
   refine .mapPut (v := ()) MH J J J J J h32k rM ?_
   refine G5 ?_
   refine .lN (Block.cells _) J J J Y31.h J Sz31 Z2 (DEnt.row_fBlock (by exact hx.entOk hg)) (DEnt.rl_fBlock (by exact hx.entOk hg)) ?_
   refine .call4 J J J J J Body44 (db_parA e.1.fBlock e.2 oM) (fun w h => (hx.ent _ (Cs hg)).2.1.2 w ((lies_keep hlies h).sub (x.mcb p))) ?_
   rintro v63 out63 ⟨⟨p63, n63, c63⟩, rfl, hac63⟩
   have hn63 : n63 = (Ca e.2).length := hac63.num
   refine .appendAcc (n := st2.length) (z := agg (Aa (List.replicate 32 0))) (by' := 32) (A1 (Ca e.2)) J J J J J Y26.h Y26.h Sz25 Zr25 (by unfold By; kernel_rfl) J hacn rM (fun w h => hac63.see (Lies.of h (by repeat (exact Bf)))) (fun e => hac63.nil e) (flatB_cell _) (by show st2.length + n63 ≤ 1000000; omega) (by show (st2.length + n63) * 32 ≤ 140737488355328; omega) (by rw [A7 hprow, ← hn63]) ?_
   intro s64 bl64 hac64
   refine G4 ?_
   (refine ⟨(Bh ms kk (), st2 ++ Ca e.2, s64, bl64), ⟨hI.meet hg2 hP (by rw [hdp]; omega) hprow h17, by simp only; rw [flatB_append, List.length_append, ← hn63]; exact hac64⟩, (by have := cnt_put hg2 x.pl.P (keys_in hP); simp only [List.length_append, List.length_singleton]; omega), ?_⟩; exact Ao (wk1 rfl (wk1 rfl (wk1 rfl (wk1 rfl wk0)))) (Ab (by repeat (first | exact A5 | apply Cn)) (Af sG Ak)))
  skip
  refine G3 ?_
  refine .alloc (cs := []) J Zr82 J ?_
  intro n12 hn12 hf12
  refine .sA J J J J zB Sz82 sP Z0 sP zU ?_
  refine G18 ?_
  refine .cond_t J J (G4 ?_)
  (refine ⟨(ms, st2, ⟨some ⟨qr, 0, none⟩, st2.length, cr⟩, [⟨qr, A1 st2, 25, cr * 32⟩]), ⟨hI.pass (by exact .inl (mget_keys hg2)), hacn⟩, (by simp only [List.length_append, List.length_singleton]; omega), ?_⟩; exact Ao (wk1 rfl (wk1 rfl (wk1 rfl (wk1 rfl wk0)))) (Ab rM (pm_in0 (Ab rM Ak))))
 obtain rfl : st = [] := List.eq_nil_of_length_eq_zero oM
 refine G11 ?_
 -- ret
 refine G2 ?_
 refine Az (out := (A0 m14 (As 32 evU) ms :: [])) (Al J J) (Ab rM Ak) ?_
 exact ⟨m14, ms, rfl, rfl, hI⟩
theorem WalkR.keys {X : PD} {above : Int} {L : List (List UInt8)} {ms : List (List UInt8 × Unit)} {ks : List (List UInt8)} (h : WalkI X above L ms []) (hp : ks.Perm (ms.map (·.1))) : ks.Nodup ∧ ∀ n, n ∈ ks ↔ X.Reach above L n := ⟨hp.nodup_iff.2 h.nd, fun n => hp.mem_iff.trans (h.fin n)⟩
def ClosR (X : PD) (L : List (List UInt8)) (v : Value) (out : List Blk) : Prop :=
  (∃ n ∈ L, Au X.P n = none) ∧ v = .tuple #[.slice none 0 0, i64 6] ∧ out = []
  ∨ (∀ n ∈ L, (Au X.P n).isSome = true) ∧ ∃ (s : Sl) (ks : List (List UInt8)), v = .tuple #[s.v, i64 0] ∧ Hw.Acc s out (A1 ks) 25 ks.length 32 ∧ SortB ks ∧ ks.Nodup ∧ ∀ n, n ∈ ks ↔ X.Reach (-1) L n
theorem has_P (x : DD) (n : List UInt8) : (Au x.pl.P n).isSome = (Au x.ent n).isSome := by rw [show x.pl.P = x.P from rfl, x.getP, Option.isSome_map]

theorem dag_closure (x : DD) (hx : x.ok) (h16 : ∀ p ∈ x.P, p.2.ls.length ≤ 16) (p : Nat) (s0 : Sl) (L : List (List UInt8)) (hL : s0.n ≤ 90000) : Meets Tryz.prog 12 [ptr p 0, s0.v] [] (fun W => Lies (x.blks p) W ∧ RowsAt W s0 32 L) (ClosR x.pl L) := by
  intro W hW
  have hlies := hW.1
  have hd := DagSee.lies hW.1
  have hbig := hx.big
  have hen := hx.entn
  have hPl : x.pl.P.length = x.ent.length := by show (x.ent.map _).length = _; rw [List.length_map]
  have hL2 := hW.2.len
  refine Ac Tryz.func12 J 26 Tryz.ntmps12 J (G10 ?_)
  refine .cV J J J J Body33 (dag_valid x p) (fun w h => hd.ext h) (G3 ?_)
  refine .cond_f J J (G11 ?_)
  refine .loop (ι := Nat) (fun k => ⟨[(0, ptr p 0), (1, s0.v), (11, s0.v), (12, i64 (s0.n : Int)), (13, i64 (k : Int))], []⟩) (fun k => k ≤ s0.n ∧ ∀ j, j < k → (Au x.pl.P (L.getD j [])).isSome = true) (fun k => s0.n - k) (0) ?_ ?_ ?_
  · exact ⟨Nat.zero_le _, fun j hj => by omega⟩
  · exact Ao (wk1 rfl (wk1 rfl (wk1 rfl (wk1 rfl (wk1 rfl wk0))))) Ak
  rintro k ⟨hk, hall⟩
  refine G6 ?_
  refine .condP J (fun hc1 => ?_) (fun hc1 => ?_)
  ·
    have hk2 : k < s0.n := by omega
    refine G6 ?_
    obtain ⟨kk, hkk⟩ : ∃ kk, kk = L.getD k [] := ⟨_, rfl⟩
    have h32k : kk.length = 32 := by rw [hkk, List.getD_eq_getElem?_getD, List.getElem?_eq_getElem oM]; exact hW.2.row _ (List.getElem_mem oM)
    obtain ⟨b0, o0, hs0, hsee0⟩ := hW.2.see.at (by rw [show (L.map Aa).flatten = A1 L from rfl, A7 hW.2.row]; omega)
    refine .idxSlP 32 J J J hs0 J Y26.h Sz25 k J oM (.loadSN (n := 32) (Aa kk) J J J Y25.h J Sz25 (by rw [Aa, List.length_map]; exact h32k) (fun w h => by rw [hkk]; exact sees_row hW.2.row (fun j v hj => h.keeps.cell (p := ⟨b0, o0 + j, none⟩) sP (hsee0 j v hj)) oM) ?_)
    refine .alloc (cs := (Aa (List.replicate 32 0))) J Zr25 J ?_
    intro n7 hn7 hf7
    refine .sA J J J J zE Sz25 (by (simp [h32k]; done)) Z0 sP zU ?_
    refine G5 ?_
    refine .lA J J J Y25.h J Sz25 Z0 (by (simp [h32k]; done)) ?_
    refine .cV J J J J Body13 (dag_has x hx p kk h32k) (fun w h => hd.ext h) (G3 ?_)
    refine .cond J (fun hc2 => ?_) (fun hc2 => ?_)
    ·
      refine G6 ?_
      -- ret
      refine G7 ?_
      refine Az (out := []) (res_tmp2 J J J) Ak (.inl ⟨⟨kk, ?_, ?_⟩, rfl, rfl⟩)
      · rw [hkk, List.getD_eq_getElem?_getD, List.getElem?_eq_getElem oM]
        exact List.getElem_mem oM
      · cases h9 : Au x.ent kk with
        | none => exact DD.noP h9
        | some e => rw [h9] at hc2; simp at hc2
    refine G8 ?_
    exact ⟨k + 1, ⟨by omega, fun j hj => by rcases Nat.lt_or_eq_of_le (Nat.le_of_lt_succ hj) with h | h; exact hall j h; rw [h, ← hkk, has_P]; simpa using hc2⟩, by omega, Ao (wk1 rfl (wk1 rfl (wk1 rfl (wk1 rfl (wk1 rfl wk0))))) Ak⟩
  have hke : k = s0.n := by omega
  refine G9 ?_
  refine .call4 J J J J J Body41 (dag_walk x hx h16 p s0 L hL (-1)) (fun w h => ⟨lies_keep hlies h, rows_ext h J hW.2⟩) ?_
  rintro v24 out24 ⟨m24, ms, rfl, rfl, hI⟩
  have hmc := hI.cnt
  refine .call4 J J J J J Body40 (dag_sortedU MH m24 ms hI.r32 oM) (fun w h => h.cells _ Z0) ?_
  rintro v25 out25 ⟨s25, ks, hkp, hks, rfl, hac⟩
  have hwk := WalkR.keys hI hkp
  refine G4 ?_
  -- ret
  refine G2 ?_
  refine Az (out := (out25 ++ [])) (res_tmp2 J J J) (Af sG Ak) ?_
  refine .inr ⟨fun n hn => ?_, s25, ks, rfl, by simpa using hac, hks, hwk.1, hwk.2⟩
  obtain ⟨j, hj, rfl⟩ := List.getElem_of_mem hn
  have h9 := hall j oM
  rwa [List.getD_eq_getElem?_getD, List.getElem?_eq_getElem hj] at h9
theorem dag_drop (x : DD) (hx : x.ok) (p : Nat) : Meets Tryz.prog 21 [ptr p 0] ((x.blks p).map (·.n)) (fun W => Lent (x.blks p) W) (fun v out => v = i64 (x.orp.length : Int) ∧ out = ({ x with orp := [] } : DD).blks p) := by
 intro W hW
 refine calls_of (hp0 := (x.blks p)) Tryz.func21 J 17 Tryz.ntmps21 J hW.rep (G2 ?_)
 simp only [DD.blks, List.cons_append, List.nil_append, List.append_assoc]
 refine G7 ?_
 refine .cV J J J J Body33 (dag_valid x p) (fun w h => DagSee.of h Z0 Z1) ?_
 refine G3 ?_
 refine .cond_f J J (G8 ?_)
 refine .lenMap Y71.h J J J Z3 ?_
 refine G9 ?_
 refine .mapClear Y71.h J J J rM ?_
 refine G8 ?_
 -- ret
 refine G2 ?_
 refine Az (out := (⟨p, [ptr p 0, x.nm.v, .map (some x.bE), .map (some x.bH), .map (some x.bO), .map (some x.bP), .map (some x.bW)], 75, 7⟩ :: (A0 x.bE (As 32 evE) x.ent :: (A0 x.bH (As 32 evU) x.hds :: (A0 x.bO (As 32 evB) [] :: (A0 x.bP (placeT 32 evR) x.pls :: (A0 x.bW (As 32 evR) x.wrs :: (x.nb ++ (x.cb ++ (rbl x.pls ++ (rbl x.wrs ++ []))))))))))) (Al J J) (Ab rM (Ab rM (Ab rM (Ab rM (Ab rM (Ab rM (Af sG (Af sG (Af sG (Af sG Ak)))))))))) ?_
 exact ⟨rfl, by simp only [DD.blks]⟩


theorem mem_erase_nd {α : Type} {l : List α} (h : l.Nodup) {j : Nat} (hj : j < l.length) (n : α) : n ∈ l.eraseIdx j ↔ n ≠ l[j] ∧ n ∈ l := by
  rw [List.eraseIdx_eq_take_drop_succ, List.mem_append]
  have e : l = l.take j ++ l[j] :: l.drop (j + 1) := by rw [← List.drop_eq_getElem_cons hj, List.take_append_drop]
  generalize hx : l[j] = x at *
  have h2 := h
  rw [e] at h2
  obtain ⟨h3, h4, h5⟩ := List.nodup_append.1 h2
  have h6 := (List.nodup_cons.1 h4).1
  constructor
  · rintro (h1 | h1)
    · exact ⟨fun e2 => h5 n h1 x List.mem_cons_self e2, List.mem_of_mem_take h1⟩
    · exact ⟨fun e2 => h6 (e2 ▸ h1), List.mem_of_mem_drop h1⟩
  · rintro ⟨h1, h7⟩
    rw [e, List.mem_append, List.mem_cons] at h7
    rcases h7 with h7 | h7 | h7
    · exact .inl h7
    · exact absurd h7 h1
    · exact .inr h7
theorem map_erase {α β : Type} (f : α → β) (l : List α) (j : Nat) : (l.eraseIdx j).map f = (l.map f).eraseIdx j := by
  rw [List.eraseIdx_eq_take_drop_succ, List.eraseIdx_eq_take_drop_succ, List.map_append, List.map_take, List.map_drop]
theorem mdel_keys {κ ν : Type} [DecidableEq κ] {fs : List (κ × ν)} (hn : (fs.map (·.1)).Nodup) (k n : κ) : n ∈ (mdel fs k).map (·.1) ↔ n ∈ fs.map (·.1) ∧ n ≠ k := by
  unfold mdel
  cases h : midx fs k with
  | none =>
    refine ⟨fun h1 => ⟨h1, fun e => ?_⟩, fun h1 => h1.1⟩
    unfold midx at h
    rw [List.findIdx?_eq_none_iff] at h
    obtain ⟨p, hp, e2⟩ := List.mem_map.1 h1
    have := h p hp
    simp [e2, e] at this
  | some j =>
    unfold midx at h
    rw [List.findIdx?_eq_some_iff_getElem] at h
    obtain ⟨hj, he, _⟩ := h
    have e : fs[j].1 = k := by simpa using he
    have hj2 : j < (fs.map (·.1)).length := by rw [List.length_map]; exact hj
    have e2 : (fs.map (·.1))[j] = k := by rw [List.getElem_map]; exact e
    show n ∈ (fs.eraseIdx j).map (·.1) ↔ _
    rw [map_erase, mem_erase_nd hn hj2, e2]
    exact ⟨fun h => ⟨h.2, h.1⟩, fun h => ⟨h.2, h.1⟩⟩
theorem delL_keys : ∀ (L : List (List UInt8)) {hds : List (List UInt8 × Unit)}, (hds.map (·.1)).Nodup → ((delL hds L).map (·.1)).Nodup ∧ ∀ n, n ∈ (delL hds L).map (·.1) ↔ n ∈ hds.map (·.1) ∧ n ∉ L
  | [], hds, hn => ⟨hn, fun n => by simp [delL]⟩
  | k :: L, hds, hn => by
    have ih := delL_keys L (mdel_nodup hn k)
    have e : delL hds (k :: L) = delL (mdel hds k) L := rfl
    rw [e]
    refine ⟨ih.1, fun n => ?_⟩
    rw [ih.2, mdel_keys hn, List.mem_cons]
    constructor
    · rintro ⟨⟨h1, h2⟩, h3⟩
      exact ⟨h1, fun h => by rcases h with h | h; exact h2 h; exact h3 h⟩
    · rintro ⟨h1, h2⟩
      exact ⟨⟨h1, fun h => h2 (.inl h)⟩, fun h => h2 (.inr h)⟩
theorem key_some {κ ν : Type} [DecidableEq κ] {fs : List (κ × ν)} {n : κ} : n ∈ fs.map (·.1) ↔ ∃ v, Au fs n = some v := ⟨mget_of_key, fun ⟨v, h⟩ => List.mem_map.2 ⟨(n, v), Cs h, rfl⟩⟩
theorem key_none {κ ν : Type} [DecidableEq κ] {fs : List (κ × ν)} {n : κ} (h : n ∉ fs.map (·.1)) : Au fs n = none := by
  cases h2 : Au fs n with
  | none => rfl
  | some v => exact absurd (key_some.2 ⟨v, h2⟩) h
theorem foldP_ge (dep : List (List UInt8 × Int)) : ∀ (L : List (List UInt8)) (d : Int), d ≤ L.foldl (stepP dep) d ∧ ∀ m ∈ L, (Au dep m).getD 0 < L.foldl (stepP dep) d
  | [], d => ⟨Int.le_refl d, fun m hm => by cases hm⟩
  | k :: L, d => by
    have ih := foldP_ge dep L (stepP dep d k)
    have h1 : d ≤ stepP dep d k ∧ (Au dep k).getD 0 < stepP dep d k := by unfold stepP; split <;> omega
    refine ⟨Int.le_trans h1.1 ih.1, fun m hm => ?_⟩
    rcases List.mem_cons.1 hm with rfl | hm
    · exact Int.lt_of_lt_of_le h1.2 ih.1
    · exact ih.2 m hm
theorem judge_ready {P : List (List UInt8 × DB)} {D : DB} (h : Ch P D = 1) : readyB P D = true := by
  unfold Ch at h
  split at h
  · omega
  · split at h
    · assumption
    · omega
structure PD.Inv (X : PD) : Prop where
  nn : X.names = X.P.map (·.1)
  dk : X.dep.map (·.1) = X.P.map (·.1)
  nd : (X.P.map (·.1)).Nodup
  ck : ∀ p ∈ X.P, p.2.check = 0
  par : ∀ n D, Au X.P n = some D → ∀ m ∈ Ca D, (∃ E, Au X.P m = some E) ∧ (Au X.dep m).getD 0 < (Au X.dep n).getD 0
  d0 : ∀ n D, Au X.P n = some D → 0 ≤ (Au X.dep n).getD 0
  hn : (X.hds.map (·.1)).Nodup
  hd : ∀ n, n ∈ X.hds.map (·.1) ↔ (∃ D, Au X.P n = some D) ∧ ∀ m D, Au X.P m = some D → n ∉ Ca D
  od : (X.orp.map (·.1)).Nodup
  oc : ∀ p ∈ X.orp, p.2.check = 0 ∧ p.1 ∉ X.P.map (·.1)
theorem PD.Inv.new : PD.new.Inv where
  nn := rfl
  dk := rfl
  nd := List.nodup_nil
  ck := fun p hp => by cases hp
  par := fun n D h => by cases h
  d0 := fun n D h => by cases h
  hn := List.nodup_nil
  hd := fun n => ⟨fun h => (by cases h), fun ⟨⟨D, h⟩, _⟩ => (by cases h)⟩
  od := List.nodup_nil
  oc := fun p hp => by cases hp
theorem PD.Inv.drop {X : PD} (h : X.Inv) (n : List UInt8) : (X.drop1 n).Inv := { h with
  od := mdel_nodup h.od n
  oc := fun p hp => h.oc p (mdel_mem hp) }
theorem PD.Inv.adm {X : PD} (h : X.Inv) {n : List UInt8} {D : DB} (hnP : n ∉ X.P.map (·.1)) (hno : n ∉ X.orp.map (·.1)) (hc : D.check = 0) (hr : readyB X.P D = true) : (X.adm n D).Inv := by
  have hP0 := key_none hnP
  have hD0 : Au X.dep n = none := key_none (by rw [h.dk]; exact hnP)
  have eP : (X.adm n D).P = X.P ++ [(n, D)] := mput_app hP0 D
  have eD : (X.adm n D).dep = X.dep ++ [(n, (Ca D).foldl (stepP X.dep) 0)] := mput_app hD0 _
  have gP : ∀ m, m ≠ n → Au (X.adm n D).P m = Au X.P m := fun m hm => mget_old hP0 D (fun e => hm e.symm)
  have gPn : Au (X.adm n D).P n = some D := mget_new hP0 D
  have gD : ∀ m, m ≠ n → Au (X.adm n D).dep m = Au X.dep m := fun m hm => mget_old hD0 _ (fun e => hm e.symm)
  have gDn : Au (X.adm n D).dep n = some ((Ca D).foldl (stepP X.dep) 0) := mget_new hD0 _
  have rdy : ∀ m ∈ Ca D, ∃ E, Au X.P m = some E := fun m hm => by
    have := List.all_eq_true.1 hr m hm
    exact Option.isSome_iff_exists.1 this
  have ne : ∀ {m E}, Au X.P m = some E → m ≠ n := fun {m E} hm e => by rw [e, hP0] at hm; cases hm
  have old : ∀ {m E}, Au (X.adm n D).P m = some E → m = n ∧ E = D ∨ m ≠ n ∧ Au X.P m = some E := fun {m E} hm => by
    by_cases e : m = n
    · rw [e, gPn] at hm
      exact .inl ⟨e, (Option.some.inj hm).symm⟩
    · rw [gP m e] at hm
      exact .inr ⟨e, hm⟩
  have hk := delL_keys (Ca D) h.hn
  refine ⟨?_, ?_, ?_, ?_, ?_, ?_, ?_, ?_, h.od, ?_⟩
  · show X.names ++ [n] = _
    rw [eP, List.map_append, h.nn]; rfl
  · rw [eP, eD, List.map_append, List.map_append, h.dk]; rfl
  · rw [eP, List.map_append]
    refine List.nodup_append.2 ⟨h.nd, by simp, fun a ha b hb e => ?_⟩
    rw [List.map_cons, List.map_nil, List.mem_singleton] at hb
    rw [e, hb] at ha
    exact hnP ha
  · intro p hp
    rw [eP] at hp
    rcases List.mem_append.1 hp with hp | hp
    · exact h.ck p hp
    · rw [List.mem_singleton.1 hp]; exact hc
  · intro m E hm k hk2
    rcases old hm with ⟨rfl, rfl⟩ | ⟨e, hm⟩
    · obtain ⟨F, hF⟩ := rdy k hk2
      refine ⟨⟨F, by rw [gP k (ne hF)]; exact hF⟩, ?_⟩
      rw [gD k (ne hF), gDn]
      exact (foldP_ge X.dep (Ca E) 0).2 k hk2
    · obtain ⟨⟨F, hF⟩, hlt⟩ := h.par m E hm k hk2
      refine ⟨⟨F, by rw [gP k (ne hF)]; exact hF⟩, ?_⟩
      rw [gD k (ne hF), gD m e]
      exact hlt
  · intro m E hm
    rcases old hm with ⟨rfl, rfl⟩ | ⟨e, hm⟩
    · rw [gDn]
      exact (foldP_ge X.dep (Ca E) 0).1
    · rw [gD m e]; exact h.d0 m E hm
  · exact mput_nodup hk.1 n ()
  · intro k
    show k ∈ (Bh (delL X.hds (Ca D)) n ()).map (·.1) ↔ _
    rw [keys_put, hk.2, h.hd]
    constructor
    · rintro (⟨⟨⟨E, hE⟩, h1⟩, h2⟩ | rfl)
      · refine ⟨⟨E, by rw [gP k (ne hE)]; exact hE⟩, fun m F hm => ?_⟩
        rcases old hm with ⟨rfl, rfl⟩ | ⟨e, hm⟩
        · exact h2
        · exact h1 m F hm
      · refine ⟨⟨D, gPn⟩, fun m F hm hk2 => ?_⟩
        rcases old hm with ⟨rfl, rfl⟩ | ⟨e, hm⟩
        · obtain ⟨G, hG⟩ := rdy _ hk2
          exact ne hG rfl
        · obtain ⟨⟨G, hG⟩, _⟩ := h.par m F hm _ hk2
          exact ne hG rfl
    · rintro ⟨⟨E, hE⟩, h1⟩
      rcases old hE with ⟨rfl, rfl⟩ | ⟨e, hE⟩
      · exact .inr rfl
      · exact .inl ⟨⟨⟨E, hE⟩, fun m F hm => h1 m F (by rw [gP m (ne hm)]; exact hm)⟩, h1 n D gPn⟩
  · intro p hp
    have := h.oc p hp
    refine ⟨this.1, fun hm => ?_⟩
    rw [eP, List.map_append] at hm
    rcases List.mem_append.1 hm with hm | hm
    · exact this.2 hm
    · rw [List.map_cons, List.map_nil, List.mem_singleton] at hm
      have e9 : p.1 = n := hm
      exact hno (by rw [← e9]; exact List.mem_map.2 ⟨p, hp, rfl⟩)
theorem first_key {X : PD} {n : List UInt8} (h : X.first = some n) : ∃ D, Au X.orp n = some D ∧ Ch X.P D ≠ 0 := by
  have h1 := List.mem_of_find?_eq_some h
  have h2 := List.find?_some h
  obtain ⟨D, hD⟩ := mget_of_key ((isort_perm _).mem_iff.1 h1)
  refine ⟨D, hD, ?_⟩
  rw [hD, Option.getD_some] at h2
  simpa using h2
theorem PD.Inv.settle : ∀ (f : Nat) {X : PD}, X.Inv → (PD.settle f X).1.Inv
  | 0, X, h => h
  | f + 1, X, h => by
    cases hf : X.first with
    | none => rw [settle_done hf]; exact h
    | some n =>
      obtain ⟨D, hD, hj⟩ := first_key hf
      have hm := h.oc _ (Cs hD)
      by_cases h1 : Ch X.P D = 1
      · rw [settle_fit hf hD h1]
        exact PD.Inv.settle f ((h.drop n).adm hm.2 (fun h2 => ((mdel_keys h.od n n).1 h2).2 rfl) hm.1 (judge_ready h1))
      · rw [settle_wrong hf hD h1]
        exact PD.Inv.settle f (h.drop n)
theorem PD.Inv.add {X : PD} (h : X.Inv) (D : DB) : (X.add D).1.Inv := by
  by_cases hg : dgood D = 0
  · cases ht : ((Au X.orp (Bd D)).isSome || (Au X.P (Bd D)).isSome) with
    | true => rw [add_there hg ht]; exact h
    | false =>
      rw [Bool.or_eq_false_iff] at ht
      have n1 : Bd D ∉ X.orp.map (·.1) := fun hm => by
        obtain ⟨v, hv⟩ := mget_of_key hm
        rw [hv] at ht; cases ht.1
      have n2 : Bd D ∉ X.P.map (·.1) := fun hm => by
        obtain ⟨v, hv⟩ := mget_of_key hm
        rw [hv] at ht; cases ht.2
      have hf : ((Au X.orp (Bd D)).isSome || (Au X.P (Bd D)).isSome) = false := by rw [ht.1, ht.2]; rfl
      rcases judge_cases X.P D with hj | hj | hj
      · by_cases h64 : 64 ≤ X.orp.length
        · rw [add_full hg hf hj h64]; exact h
        · rw [add_keep hg hf hj h64]
          exact { h with
            od := mput_nodup h.od _ _
            oc := fun p hp => by
              rcases mput_mem hp with hp | rfl
              · exact h.oc p hp
              · exact ⟨good_check hg, n2⟩ }
      · rw [add_fits hg hf hj]
        exact PD.Inv.settle _ (h.adm n2 n1 (good_check hg) (judge_ready hj))
      · rw [add_wrong hg hf hj]; exact h
  · rw [add_bad hg]; exact h
section
variable {X : PD}
end

end Go.Proofs.YtfcbgdkpagcbbaaGreat
end
